import PyProof.Rows.All
import Wide.All
import OpenK.AllK
import Wide.FinOn
import HandS.ForMost
import HandS.Exc
import HandS.ExcOwn
import HandS.TryOnly
import HandS.WordsExc
import HandS.TupAny
import HandS.IsInst
import HandS.Flow
import HandS.Conv
import HandS.Small
import HandS.RaiseMore
import HandS.SortInts
import HandS.Zip
import HandS.HeadWalk
import HandS.Style
import HandS.HeadEnd
import HandS.Codes
import PySem.Challenge.RW_streamdown_k13_faulty_texts_of_values
set_option Elab.async false
set_option linter.all false
set_option maxRecDepth 100000
/-! Pv, part A: pure values, cells, worlds; how they lie in the abstract heap. -/
namespace Pv
open PySem L2

/-- a pure value; scr: a list that is only read (the script, a written one); ref: a cell of the store -/
inductive PV where
  | non | bl (b : Bool) | int (i : Int) | str (s : List Nat)
  | tup (xs : List PV) | lst (xs : List PV) | scr (xs : List PV) | dic (ks vs : List PV) | ref (n : Nat)
  deriving Inhabited

inductive Cell where
  | lst (xs : List PV) | dic (ks vs : List PV) | dlk (ks vs : List PV) | ins (c : Nat) (fs : List (List Nat × PV)) | dead
  deriving Inhabited
abbrev Store := List Cell

/-- an exception: its class by number, its own fields (none: it has no dict) -/
structure Exc where
  c : Nat
  fs : Option (List (List Nat × PV))

inductive R (α : Type) where
  | ok (a : α) (st : Store) | ex (x : Exc) (st : Store) | stuck
@[inline] def R.bind {α β : Type} : R α → (α → Store → R β) → R β
  | .ok a st, f => f a st
  | .ex x st, _ => .ex x st
  | .stuck, _ => .stuck

/-! ### worlds -/
/-- F: what is frozen; ρ: where the cells of the store lie -/
structure Wd where
  F : Hp
  ρ : List Addr

def strV (s : List Nat) : V := .str ⟨s.toArray⟩

mutual
def Rep (K : PySem.W.Frag) (W : Wd) : PV → V → Prop
  | .non, v => v = .non
  | .bl b, v => v = .bl b
  | .int i, v => v = .int i
  | .str s, v => v = strV s ∧ s.length ≤ sizeLine
  | .tup xs, v => ∃ a vs, v = .ref a ∧ SqT K W.F a vs ∧ Reps K W xs vs
  | .lst xs, v => ∃ a vs, v = .ref a ∧ W.F a = some (.lst vs) ∧ Reps K W xs vs
  | .scr xs, v => ∃ a vs, v = .ref a ∧ SqL K W.F a vs ∧ Reps K W xs vs
  | .dic ks vs, v => ∃ a kvs, v = .ref a ∧ W.F a = some (.dK kvs) ∧ RepK ks (kvs.map (·.1)) ∧ Reps K W vs (kvs.map (·.2))
  | .ref n, v => ∃ a, W.ρ[n]? = some a ∧ v = .ref a
def Reps (K : PySem.W.Frag) (W : Wd) : List PV → List V → Prop
  | [], vs => vs = []
  | x :: xs, vs => ∃ v r, vs = v :: r ∧ Rep K W x v ∧ Reps K W xs r
def RepK : List PV → List Key → Prop
  | [], ks => ks = []
  | x :: xs, ks => ∃ k r, ks = k :: r ∧ RepK1 x k ∧ RepK xs r
def RepK1 : PV → Key → Prop
  | .int i, k => k = .inl i
  | .str s, k => k = .inr ⟨s.toArray⟩ ∧ s.length ≤ sizeLine
  | _, _ => False
end

/-- what was frozen stays, cells keep their places -/
structure Wd.Le (W W' : Wd) : Prop where
  F : ∀ a o, W.F a = some o → W'.F a = some o
  ρ : ∀ (n : Nat) (a : Addr), W.ρ[n]? = some a → W'.ρ[n]? = some a
theorem Wd.Le.refl (W : Wd) : W.Le W := ⟨fun _ _ h => h, fun _ _ h => h⟩
theorem Wd.Le.trans {W1 W2 W3 : Wd} (a : W1.Le W2) (b : W2.Le W3) : W1.Le W3 := ⟨fun x o h => b.F x o (a.F x o h), fun n x h => b.ρ n x (a.ρ n x h)⟩

theorem SqT.up {K : PySem.W.Frag} {H H' : Hp} {a : Addr} {xs : List V} (h : SqT K H a xs) (k : ∀ a o, H a = some o → H' a = some o) : SqT K H' a xs := by
  rcases h with (h | ⟨o, h⟩) | h
  · exact .inl (.inl (k _ _ h))
  · exact .inl (.inr ⟨o, k _ _ h⟩)
  · exact .inr h
theorem SqL.up {K : PySem.W.Frag} {H H' : Hp} {a : Addr} {xs : List V} (h : SqL K H a xs) (k : ∀ a o, H a = some o → H' a = some o) : SqL K H' a xs := by
  rcases h with (h | ⟨o, h⟩) | h
  · exact .inl (.inl (k _ _ h))
  · exact .inl (.inr ⟨o, k _ _ h⟩)
  · exact .inr h

mutual
theorem Rep.up {K : PySem.W.Frag} {W W' : Wd} (l : W.Le W') : ∀ {p : PV} {v : V}, Rep K W p v → Rep K W' p v
  | .non, _, h => h
  | .bl _, _, h => h
  | .int _, _, h => h
  | .str _, _, h => h
  | .tup xs, _, ⟨a, vs, e, s, r⟩ => ⟨a, vs, e, SqT.up s l.F, Reps.up l r⟩
  | .lst xs, _, ⟨a, vs, e, s, r⟩ => ⟨a, vs, e, l.F _ _ s, Reps.up l r⟩
  | .scr xs, _, ⟨a, vs, e, s, r⟩ => ⟨a, vs, e, SqL.up s l.F, Reps.up l r⟩
  | .dic ks vs, _, ⟨a, kvs, e, s, k, r⟩ => ⟨a, kvs, e, l.F _ _ s, k, Reps.up l r⟩
  | .ref n, _, ⟨a, e, h⟩ => ⟨a, l.ρ _ _ e, h⟩
theorem Reps.up {K : PySem.W.Frag} {W W' : Wd} (l : W.Le W') : ∀ {ps : List PV} {vs : List V}, Reps K W ps vs → Reps K W' ps vs
  | [], _, h => h
  | _ :: _, _, ⟨v, r, e, h, t⟩ => ⟨v, r, e, Rep.up l h, Reps.up l t⟩
end

section
variable {K : PySem.W.Frag} {W : Wd}
theorem Reps.length : ∀ {ps : List PV} {vs : List V}, Reps K W ps vs → vs.length = ps.length
  | [], _, h => by cases h; rfl
  | _ :: _, _, ⟨v, r, e, _, t⟩ => by subst e; simp [Reps.length t]
theorem Reps.get : ∀ {ps : List PV} {vs : List V} {i : Nat} {p : PV}, Reps K W ps vs → ps[i]? = some p → ∃ v, vs[i]? = some v ∧ Rep K W p v
  | [], _, _, _, _, e => by simp at e
  | _ :: _, _, 0, _, ⟨v, r, e, h, _⟩, q => by subst e; simp at q; subst q; exact ⟨v, rfl, h⟩
  | _ :: _, _, i + 1, _, ⟨v, r, e, _, t⟩, q => by
    subst e
    obtain ⟨w, a, b⟩ := Reps.get (i := i) t (by simpa using q)
    exact ⟨w, by simpa using a, b⟩
theorem Reps.app : ∀ {ps qs : List PV} {vs us : List V}, Reps K W ps vs → Reps K W qs us → Reps K W (ps ++ qs) (vs ++ us)
  | [], _, _, _, h, s => by cases h; exact s
  | _ :: _, _, _, _, ⟨v, r, e, h, t⟩, s => by subst e; exact ⟨v, _, rfl, h, Reps.app t s⟩
theorem Reps.one {p : PV} {v : V} (h : Rep K W p v) : Reps K W [p] [v] := ⟨v, [], rfl, h, rfl⟩
theorem Reps.set : ∀ {ps : List PV} {vs : List V} {p : PV} {v : V} (i : Nat), Reps K W ps vs → Rep K W p v → Reps K W (ps.set i p) (vs.set i v)
  | [], _, _, _, _, h, _ => by cases h; rfl
  | _ :: _, _, _, _, 0, ⟨v, r, e, _, t⟩, q => by subst e; exact ⟨_, _, rfl, q, t⟩
  | _ :: _, _, _, _, i + 1, ⟨v, r, e, h, t⟩, q => by subst e; exact ⟨_, _, rfl, h, Reps.set i t q⟩
theorem Reps.take : ∀ {ps : List PV} {vs : List V} (n : Nat), Reps K W ps vs → Reps K W (ps.take n) (vs.take n)
  | _, _, 0, _ => by simp [Reps]
  | [], _, _ + 1, h => by cases h; simp [Reps]
  | _ :: _, _, n + 1, ⟨v, r, e, h, t⟩ => by subst e; exact ⟨_, _, rfl, h, Reps.take n t⟩
theorem Reps.drop : ∀ {ps : List PV} {vs : List V} (n : Nat), Reps K W ps vs → Reps K W (ps.drop n) (vs.drop n)
  | _, _, 0, h => h
  | [], _, _ + 1, h => by cases h; simp [Reps]
  | _ :: _, _, n + 1, ⟨v, r, e, _, t⟩ => by subst e; exact Reps.drop n t
theorem Reps.erase : ∀ {ps : List PV} {vs : List V} (i : Nat), Reps K W ps vs → Reps K W (ps.eraseIdx i) (vs.eraseIdx i)
  | [], _, _, h => by cases h; simp [Reps]
  | _ :: _, _, 0, ⟨v, r, e, _, t⟩ => by subst e; exact t
  | _ :: _, _, i + 1, ⟨v, r, e, h, t⟩ => by subst e; exact ⟨_, _, rfl, h, Reps.erase i t⟩
theorem Reps.all_get : ∀ {ps : List PV} {vs : List V}, ps.length = vs.length → (∀ (i : Nat) p v, ps[i]? = some p → vs[i]? = some v → Rep K W p v) → Reps K W ps vs
  | [], [], _, _ => rfl
  | [], _ :: _, h, _ => by simp at h
  | _ :: _, [], h, _ => by simp at h
  | p :: ps, v :: vs, h, k => ⟨v, vs, rfl, k 0 p v rfl rfl, Reps.all_get (by simpa using h) fun i q u a b => k (i + 1) q u (by simpa using a) (by simpa using b)⟩
theorem Reps.nil_iff {vs : List V} : Reps K W [] vs ↔ vs = [] := Iff.rfl
theorem RepK.length : ∀ {ps : List PV} {ks : List Key}, RepK ps ks → ks.length = ps.length
  | [], _, h => by cases h; rfl
  | _ :: _, _, ⟨v, r, e, _, t⟩ => by subst e; simp [RepK.length t]
end

/-! ### cells -/
/-- a name by its signs -/
def nmS (l : List Nat) : Str := ⟨l.toArray⟩
theorem nmS_inj {a b : List Nat} (h : nmS a = nmS b) : a = b := by
  unfold nmS at h
  injection h with h
  simpa using h
/-- the fields of an instance -/
def RepF (K : PySem.W.Frag) (W : Wd) : List (List Nat × PV) → List (Str × V) → Prop
  | [], fs => fs = []
  | (f, p) :: r, fs => ∃ v r', fs = (nmS f, v) :: r' ∧ Rep K W p v ∧ RepF K W r r'
theorem RepF.up {K : PySem.W.Frag} {W W' : Wd} (l : W.Le W') : ∀ {fs : List (List Nat × PV)} {us : List (Str × V)}, RepF K W fs us → RepF K W' fs us
  | [], _, h => h
  | (_, _) :: _, _, ⟨v, r, e, h, t⟩ => ⟨v, r, e, Rep.up l h, RepF.up l t⟩

/-- what the evaluator knows of the text: the written part, the classes' addresses -/
structure Txt where
  K : PySem.W.Frag
  cl : Nat → Addr

def CellAt (T : Txt) (W : Wd) (H : Hp) (a : Addr) : Cell → Prop
  | .lst xs => ∃ vs, H a = some (.lst vs) ∧ Reps T.K W xs vs
  | .dic ks vs => ∃ kvs, H a = some (.dK kvs) ∧ RepK ks (kvs.map (·.1)) ∧ Reps T.K W vs (kvs.map (·.2))
  | .dlk ks vs => ∃ ob kvs, W.F a = some (.frz ob (.dK kvs)) ∧ RepK ks (kvs.map (·.1)) ∧ Reps T.K W vs (kvs.map (·.2))
  | .ins c fs => ∃ dx us, H a = some (.ins (T.cl c) dx us) ∧ RepF T.K W fs us ∧ Cls T.K (T.cl c) ∧ ∀ f ∈ fs, NoAttr T.K (T.cl c) (nmS f.1)
  | .dead => True
def live : Cell → Bool
  | .dead => false
  | .dlk _ _ => false
  | _ => true
theorem CellAt.up {T : Txt} {W W' : Wd} {H H' : Hp} {a : Addr} (l : W.Le W') (e : H' a = H a) : ∀ {c : Cell}, CellAt T W H a c → CellAt T W' H' a c
  | .lst _, ⟨vs, h, r⟩ => ⟨vs, e.trans h, Reps.up l r⟩
  | .dic _ _, ⟨kvs, h, k, r⟩ => ⟨kvs, e.trans h, k, Reps.up l r⟩
  | .dlk _ _, ⟨ob, kvs, h, k, r⟩ => ⟨ob, kvs, l.F _ _ h, k, Reps.up l r⟩
  | .ins _ _, ⟨dx, us, h, r, k⟩ => ⟨dx, us, e.trans h, RepF.up l r, k⟩
  | .dead, _ => True.intro
theorem CellAt.here {T : Txt} {W : Wd} {H : Hp} {a : Addr} : ∀ {c : Cell}, CellAt T W H a c → live c = true → H a ≠ none
  | .lst _, ⟨vs, h, r⟩, _ => by rw [h]; simp
  | .dic _ _, ⟨kvs, h, k, r⟩, _ => by rw [h]; simp
  | .ins _ _, ⟨dx, us, h, r⟩, _ => by rw [h]; simp
  | .dlk _ _, _, h => by cases h
  | .dead, _, h => by cases h

structure Sim (T : Txt) (W : Wd) (st : Store) (H : Hp) : Prop where
  sub : ∀ a o, W.F a = some o → H a = some o
  nd : W.ρ.Nodup
  len : W.ρ.length = st.length
  dom : ∀ a ∈ W.ρ, H a ≠ none
  cell : ∀ (n : Nat) a c, W.ρ[n]? = some a → st[n]? = some c → CellAt T W H a c
  off : ∀ (n : Nat) a c, W.ρ[n]? = some a → st[n]? = some c → live c = true → W.F a = none

/-- from one world and heap to a later one: what is loose (neither frozen nor a cell) stays as it is, and loose -/
structure Go (W : Wd) (H : Hp) (W' : Wd) (H' : Hp) : Prop where
  le : W.Le W'
  keep : ∀ a o, H a = some o → W.F a = none → a ∉ W.ρ → H' a = some o ∧ W'.F a = none ∧ a ∉ W'.ρ
theorem Go.refl (W : Wd) (H : Hp) : Go W H W H := ⟨.refl W, fun _ _ h1 h2 h3 => ⟨h1, h2, h3⟩⟩
theorem Go.trans {W1 W2 W3 : Wd} {H1 H2 H3 : Hp} (a : Go W1 H1 W2 H2) (b : Go W2 H2 W3 H3) : Go W1 H1 W3 H3 :=
  ⟨a.le.trans b.le, fun x o h1 h2 h3 => let ⟨k1, k2, k3⟩ := a.keep x o h1 h2 h3; b.keep x o k1 k2 k3⟩

theorem nodup_at {α : Type} : ∀ {l : List α} {i j : Nat} {x : α}, l.Nodup → l[i]? = some x → l[j]? = some x → i = j
  | [], _, _, _, _, h, _ => by simp at h
  | y :: r, 0, 0, _, _, _, _ => rfl
  | y :: r, 0, j + 1, x, nd, h, k => by
    have h : y = x := by simpa using h
    subst h
    exact absurd (List.mem_of_getElem? (i := j) (by simpa using k)) (List.nodup_cons.mp nd).1
  | y :: r, i + 1, 0, x, nd, h, k => by
    have k : y = x := by simpa using k
    subst k
    exact absurd (List.mem_of_getElem? (i := i) (by simpa using h)) (List.nodup_cons.mp nd).1
  | y :: r, i + 1, j + 1, x, nd, h, k => congrArg (· + 1) (nodup_at (List.nodup_cons.mp nd).2 (by simpa using h) (by simpa using k))

section
variable {T : Txt} {W : Wd} {st : Store} {H : Hp} {p a : Addr} {o : HO} {c : Cell} {n : Nat}
theorem Sim.fresh (S : Sim T W st H) (h : H p = none) : W.F p = none := by
  cases e : W.F p with
  | none => rfl
  | some o => rw [S.sub p o e] at h; cases h
theorem Sim.at (S : Sim T W st H) (h : st[n]? = some c) : ∃ a, W.ρ[n]? = some a := by
  obtain ⟨hn, _⟩ := List.getElem?_eq_some_iff.mp h
  exact ⟨W.ρ[n]'(by rw [S.len]; exact hn), List.getElem?_eq_getElem _⟩
/-- a new object, frozen -/
theorem Sim.laid (S : Sim T W st H) (h : H p = none) (o : HO) : Go W H ⟨upd W.F p o, W.ρ⟩ (upd H p o) ∧ Sim T ⟨upd W.F p o, W.ρ⟩ st (upd H p o) := by
  have l : Wd.Le W ⟨upd W.F p o, W.ρ⟩ := ⟨fun b u e => by
    have : b ≠ p := fun q => by subst q; rw [S.fresh h] at e; cases e
    show upd W.F p o b = some u
    rw [upd_ne this]; exact e, fun _ _ e => e⟩
  have ne : ∀ b ∈ W.ρ, b ≠ p := fun b hb q => S.dom b hb (by rw [q]; exact h)
  refine ⟨⟨l, fun b u e1 e2 e3 => ?_⟩, ⟨fun b u e => ?_, S.nd, S.len, fun b hb => by rw [upd_ne (ne b hb)]; exact S.dom b hb, fun m b c' e1 e2 => ?_, fun m b c' e1 e2 e3 => ?_⟩⟩
  · have nb : b ≠ p := fun q => by subst q; rw [h] at e1; cases e1
    exact ⟨(upd_ne nb).trans e1, (upd_ne nb).trans e2, e3⟩
  · have e : upd W.F p o b = some u := e
    by_cases q : b = p
    · subst q; rw [upd_same] at e ⊢; exact e
    · rw [upd_ne q] at e ⊢; exact S.sub b u e
  · exact (S.cell m b c' e1 e2).up l (upd_ne (ne b (List.mem_of_getElem? e1)))
  · show upd W.F p o b = none
    rw [upd_ne (ne b (List.mem_of_getElem? e1))]; exact S.off m b c' e1 e2 e3
/-- a new object that no value names (an instance's own dict) -/
theorem Sim.loose (S : Sim T W st H) (h : H p = none) (o : HO) : Go W H W (upd H p o) ∧ Sim T W st (upd H p o) := by
  have ne : ∀ b ∈ W.ρ, b ≠ p := fun b hb q => S.dom b hb (by rw [q]; exact h)
  refine ⟨⟨.refl W, fun b u e1 e2 e3 => ⟨(upd_ne fun q => by subst q; rw [h] at e1; cases e1).trans e1, e2, e3⟩⟩, fun b u e => ?_, S.nd, S.len, fun b hb => by rw [upd_ne (ne b hb)]; exact S.dom b hb, fun m b c' e1 e2 => (S.cell m b c' e1 e2).up (.refl _) (upd_ne (ne b (List.mem_of_getElem? e1))), S.off⟩
  have : b ≠ p := fun q => by subst q; rw [S.fresh h] at e; cases e
  rw [upd_ne this]; exact S.sub b u e
/-- a loose object changes -/
theorem Sim.loosen (S : Sim T W st H) (hF : W.F p = none) (hr : p ∉ W.ρ) (o : HO) : Sim T W st (upd H p o) := by
  have ne : ∀ b ∈ W.ρ, b ≠ p := fun b hb q => hr (by rw [← q]; exact hb)
  refine ⟨fun b u e => ?_, S.nd, S.len, fun b hb => by rw [upd_ne (ne b hb)]; exact S.dom b hb, fun m b c' e1 e2 => (S.cell m b c' e1 e2).up (.refl _) (upd_ne (ne b (List.mem_of_getElem? e1))), S.off⟩
  have : b ≠ p := fun q => by subst q; rw [hF] at e; cases e
  rw [upd_ne this]; exact S.sub b u e
/-- a loose object is frozen; becomes a cell -/
theorem Sim.adopt (S : Sim T W st H) (hF : W.F p = none) (hr : p ∉ W.ρ) (ho : H p = some o) : Wd.Le W ⟨upd W.F p o, W.ρ⟩ ∧ Sim T ⟨upd W.F p o, W.ρ⟩ st H := by
  have ne : ∀ b ∈ W.ρ, b ≠ p := fun b hb q => hr (by rw [← q]; exact hb)
  have l : Wd.Le W ⟨upd W.F p o, W.ρ⟩ := ⟨fun b u e => by
    have : b ≠ p := fun q => by subst q; rw [hF] at e; cases e
    show upd W.F p o b = some u
    rw [upd_ne this]; exact e, fun _ _ e => e⟩
  refine ⟨l, ⟨fun b u e => ?_, S.nd, S.len, S.dom, fun m b c' e1 e2 => (S.cell m b c' e1 e2).up l rfl, fun m b c' e1 e2 e3 => ?_⟩⟩
  · have e : upd W.F p o b = some u := e
    by_cases q : b = p
    · subst q; rw [upd_same] at e; cases e; exact ho
    · rw [upd_ne q] at e; exact S.sub b u e
  · show upd W.F p o b = none
    rw [upd_ne (ne b (List.mem_of_getElem? e1))]; exact S.off m b c' e1 e2 e3
theorem Sim.adoptB (S : Sim T W st H) (hF : W.F p = none) (hr : p ∉ W.ρ) (ho : H p ≠ none) (hc : CellAt T W H p c) : Wd.Le W ⟨W.F, W.ρ ++ [p]⟩ ∧ Sim T ⟨W.F, W.ρ ++ [p]⟩ (st ++ [c]) H ∧ (W.ρ ++ [p])[st.length]? = some p := by
  have ne : ∀ b ∈ W.ρ, b ≠ p := fun b hb q => hr (by rw [← q]; exact hb)
  have l : Wd.Le W ⟨W.F, W.ρ ++ [p]⟩ := ⟨fun _ _ e => e, fun m b e => by
    show (W.ρ ++ [p])[m]? = some b
    rw [List.getElem?_append_left (List.getElem?_eq_some_iff.mp e).1]; exact e⟩
  have last : (W.ρ ++ [p])[st.length]? = some p := by rw [← S.len]; simp
  have cut : ∀ {m : Nat} {b : Addr} {c' : Cell}, (W.ρ ++ [p])[m]? = some b → (st ++ [c])[m]? = some c' → (W.ρ[m]? = some b ∧ st[m]? = some c') ∨ (b = p ∧ c' = c) := fun {m b c'} e1 e2 => by
    rcases Nat.lt_trichotomy m st.length with q | q | q
    · rw [List.getElem?_append_left (by rw [S.len]; exact q)] at e1
      rw [List.getElem?_append_left q] at e2
      exact .inl ⟨e1, e2⟩
    · subst q
      rw [last] at e1; cases e1
      exact .inr ⟨rfl, by simpa using e2.symm⟩
    · rw [List.getElem?_eq_none (by simp; omega)] at e2; cases e2
  refine ⟨l, ⟨S.sub, ?_, by simp [S.len], fun b hb => ?_, fun m b c' e1 e2 => ?_, fun m b c' e1 e2 e3 => ?_⟩, last⟩
  · show (W.ρ ++ [p]).Nodup
    rw [List.nodup_append]
    exact ⟨S.nd, by simp, fun x hx y hy => by have : y = p := by simpa using hy
                                              rw [this]; exact ne x hx⟩
  · rcases List.mem_append.mp hb with hb | hb
    · exact S.dom b hb
    · have : b = p := by simpa using hb
      rw [this]; exact ho
  · rcases cut e1 e2 with ⟨k1, k2⟩ | ⟨rfl, rfl⟩
    · exact (S.cell m b c' k1 k2).up l rfl
    · exact hc.up l rfl
  · rcases cut e1 e2 with ⟨k1, k2⟩ | ⟨rfl, rfl⟩
    · exact S.off m b c' k1 k2 e3
    · exact hF
/-- a new object, a cell -/
theorem Sim.boxed (S : Sim T W st H) (h : H p = none) (o : HO) (hc : CellAt T W (upd H p o) p c) :
    Go W H ⟨W.F, W.ρ ++ [p]⟩ (upd H p o) ∧ Sim T ⟨W.F, W.ρ ++ [p]⟩ (st ++ [c]) (upd H p o) ∧ (W.ρ ++ [p])[st.length]? = some p := by
  have np : p ∉ W.ρ := fun hb => S.dom p hb h
  have ne : ∀ b ∈ W.ρ, b ≠ p := fun b hb q => np (by rw [← q]; exact hb)
  have l : Wd.Le W ⟨W.F, W.ρ ++ [p]⟩ := ⟨fun _ _ e => e, fun m b e => by
    show (W.ρ ++ [p])[m]? = some b
    rw [List.getElem?_append_left (List.getElem?_eq_some_iff.mp e).1]; exact e⟩
  have last : (W.ρ ++ [p])[st.length]? = some p := by rw [← S.len]; simp
  refine ⟨⟨l, fun b u e1 e2 e3 => ?_⟩, ⟨fun b u e => ?_, ?_, by simp [S.len], fun b hb => ?_, fun m b c' e1 e2 => ?_, fun m b c' e1 e2 e3 => ?_⟩, last⟩
  · have nb : b ≠ p := fun q => by subst q; rw [h] at e1; cases e1
    exact ⟨(upd_ne nb).trans e1, e2, by rw [List.mem_append]; exact fun z => z.elim e3 fun z => nb (by simpa using z)⟩
  · have : b ≠ p := fun q => by subst q; rw [S.fresh h] at e; cases e
    rw [upd_ne this]; exact S.sub b u e
  · show (W.ρ ++ [p]).Nodup
    rw [List.nodup_append]
    exact ⟨S.nd, by simp, fun x hx y hy => by have : y = p := by simpa using hy
                                              rw [this]; exact ne x hx⟩
  · rcases List.mem_append.mp hb with hb | hb
    · rw [upd_ne (ne b hb)]; exact S.dom b hb
    · have : b = p := by simpa using hb
      rw [this, upd_same]; simp
  · have e1 : (W.ρ ++ [p])[m]? = some b := e1
    rcases Nat.lt_trichotomy m st.length with q | q | q
    · rw [List.getElem?_append_left (by rw [S.len]; exact q)] at e1
      rw [List.getElem?_append_left q] at e2
      exact (S.cell m b c' e1 e2).up l (upd_ne (ne b (List.mem_of_getElem? e1)))
    · subst q
      rw [last] at e1; cases e1
      have : c' = c := by simpa using e2.symm
      subst this
      exact hc.up l rfl
    · rw [List.getElem?_eq_none (by simp; omega)] at e2; cases e2
  · have e1 : (W.ρ ++ [p])[m]? = some b := e1
    rcases Nat.lt_trichotomy m st.length with q | q | q
    · rw [List.getElem?_append_left (by rw [S.len]; exact q)] at e1
      rw [List.getElem?_append_left q] at e2
      exact S.off m b c' e1 e2 e3
    · subst q
      rw [last] at e1; cases e1
      exact S.fresh h
    · rw [List.getElem?_eq_none (by simp; omega)] at e2; cases e2
theorem Sim.other (S : Sim T W st H) {m n : Nat} {a b : Addr} (h1 : W.ρ[m]? = some a) (h2 : W.ρ[n]? = some b) (h : m ≠ n) : a ≠ b := fun q => by
  subst q
  exact h (nodup_at S.nd h1 h2)
/-- a cell is written -/
theorem Sim.write (S : Sim T W st H) {c' : Cell} (hr : W.ρ[n]? = some a) (hc : st[n]? = some c) (hl : live c = true) (o : HO) (h : CellAt T W (upd H a o) a c') : Go W H W (upd H a o) ∧ Sim T W (st.set n c') (upd H a o) := by
  have hn : n < st.length := (List.getElem?_eq_some_iff.mp hc).1
  refine ⟨⟨.refl W, fun b u e1 e2 e3 => ⟨(upd_ne fun q => e3 (by rw [q]; exact List.mem_of_getElem? hr)).trans e1, e2, e3⟩⟩, fun b u e => ?_, S.nd, by simp [S.len], fun b hb => ?_, fun m b c2 e1 e2 => ?_, fun m b c2 e1 e2 e3 => ?_⟩
  · have : b ≠ a := fun q => by subst q; rw [S.off n b c hr hc hl] at e; cases e
    rw [upd_ne this]; exact S.sub b u e
  · by_cases q : b = a
    · rw [q, upd_same]; simp
    · rw [upd_ne q]; exact S.dom b hb
  · by_cases q : m = n
    · subst q
      rw [hr] at e1; cases e1
      rw [List.getElem?_set_self hn] at e2; cases e2
      exact h
    · rw [List.getElem?_set_ne (Ne.symm q)] at e2
      exact (S.cell m b c2 e1 e2).up (.refl _) (upd_ne (S.other e1 hr q))
  · by_cases q : m = n
    · subst q
      rw [hr] at e1; cases e1
      exact S.off m a c hr hc hl
    · rw [List.getElem?_set_ne (Ne.symm q)] at e2
      exact S.off m b c2 e1 e2 e3
/-- a cell's object is frozen: the cell is dead -/
theorem Sim.froze (S : Sim T W st H) (hr : W.ρ[n]? = some a) (hc : st[n]? = some c) (hl : live c = true) (ho : H a = some o) :
    Go W H ⟨upd W.F a o, W.ρ⟩ H ∧ Sim T ⟨upd W.F a o, W.ρ⟩ (st.set n .dead) H := by
  have hn : n < st.length := (List.getElem?_eq_some_iff.mp hc).1
  have l : Wd.Le W ⟨upd W.F a o, W.ρ⟩ := ⟨fun b u e => by
    have : b ≠ a := fun q => by subst q; rw [S.off n b c hr hc hl] at e; cases e
    show upd W.F a o b = some u
    rw [upd_ne this]; exact e, fun _ _ e => e⟩
  refine ⟨⟨l, fun b u e1 e2 e3 => ⟨e1, (upd_ne fun q => e3 (by rw [q]; exact List.mem_of_getElem? hr)).trans e2, e3⟩⟩, ⟨fun b u e => ?_, S.nd, by simp [S.len], S.dom, fun m b c2 e1 e2 => ?_, fun m b c2 e1 e2 e3 => ?_⟩⟩
  · have e : upd W.F a o b = some u := e
    by_cases q : b = a
    · subst q; rw [upd_same] at e; cases e; exact ho
    · rw [upd_ne q] at e; exact S.sub b u e
  · by_cases q : m = n
    · subst q
      rw [List.getElem?_set_self hn] at e2; cases e2
      exact True.intro
    · rw [List.getElem?_set_ne (Ne.symm q)] at e2
      exact (S.cell m b c2 e1 e2).up l rfl
  · by_cases q : m = n
    · subst q
      rw [List.getElem?_set_self hn] at e2; cases e2
      cases e3
    · rw [List.getElem?_set_ne (Ne.symm q)] at e2
      show upd W.F a o b = none
      rw [upd_ne (S.other e1 hr q)]; exact S.off m b c2 e1 e2 e3
end

/-! ### a dict that is walked -/
def dropF (F : Hp) (d : Addr) : Hp := fun b => if b = d then none else F b
theorem dropF_ne {F : Hp} {a d : Addr} {o u : HO} (hd : F d = some u) (h : F a = some o) (n : o ≠ u) : dropF F d a = some o := by
  have : a ≠ d := fun q => by subst q; rw [hd] at h; exact n (Option.some.inj h).symm
  unfold dropF; rw [if_neg this]; exact h
theorem SqT.unlock {K : PySem.W.Frag} {F : Hp} {d a : Addr} {ob : Obj} {kvs : List (Key × V)} {vs : List V} (hd : F d = some (.frz ob (.dK kvs))) (s : SqT K F a vs) : SqT K (dropF F d) a vs := by
  rcases s with (s | ⟨o, s⟩) | s
  · exact .inl (.inl (dropF_ne hd s fun z => by cases z))
  · exact .inl (.inr ⟨o, dropF_ne hd s fun z => by injection z with _ z; cases z⟩)
  · exact .inr s
theorem SqL.unlock {K : PySem.W.Frag} {F : Hp} {d a : Addr} {ob : Obj} {kvs : List (Key × V)} {vs : List V} (hd : F d = some (.frz ob (.dK kvs))) (s : SqL K F a vs) : SqL K (dropF F d) a vs := by
  rcases s with (s | ⟨o, s⟩) | s
  · exact .inl (.inl (dropF_ne hd s fun z => by cases z))
  · exact .inl (.inr ⟨o, dropF_ne hd s fun z => by injection z with _ z; cases z⟩)
  · exact .inr s
theorem dropF_lst {F : Hp} {d a : Addr} {ob : Obj} {kvs : List (Key × V)} {vs : List V} (hd : F d = some (.frz ob (.dK kvs))) (s : F a = some (.lst vs)) : dropF F d a = some (.lst vs) := dropF_ne hd s fun z => by cases z
theorem dropF_dK {F : Hp} {d a : Addr} {ob : Obj} {kvs us : List (Key × V)} (hd : F d = some (.frz ob (.dK kvs))) (s : F a = some (.dK us)) : dropF F d a = some (.dK us) := dropF_ne hd s fun z => by cases z
mutual
theorem Rep.unlock {K : PySem.W.Frag} {W : Wd} {d : Addr} {ob : Obj} {kvs : List (Key × V)} (hd : W.F d = some (.frz ob (.dK kvs))) : ∀ {p : PV} {v : V}, Rep K W p v → Rep K ⟨dropF W.F d, W.ρ⟩ p v
  | .non, _, h => h
  | .bl _, _, h => h
  | .int _, _, h => h
  | .str _, _, h => h
  | .tup xs, _, ⟨a, vs, e, s, r⟩ => ⟨a, vs, e, SqT.unlock hd s, Reps.unlock hd r⟩
  | .lst xs, _, ⟨a, vs, e, s, r⟩ => ⟨a, vs, e, dropF_lst hd s, Reps.unlock hd r⟩
  | .scr xs, _, ⟨a, vs, e, s, r⟩ => ⟨a, vs, e, SqL.unlock hd s, Reps.unlock hd r⟩
  | .dic ks vs, _, ⟨a, us, e, s, k, r⟩ => ⟨a, us, e, dropF_dK hd s, k, Reps.unlock hd r⟩
  | .ref n, _, h => h
theorem Reps.unlock {K : PySem.W.Frag} {W : Wd} {d : Addr} {ob : Obj} {kvs : List (Key × V)} (hd : W.F d = some (.frz ob (.dK kvs))) : ∀ {ps : List PV} {vs : List V}, Reps K W ps vs → Reps K ⟨dropF W.F d, W.ρ⟩ ps vs
  | [], _, h => h
  | _ :: _, _, ⟨v, r, e, h, t⟩ => ⟨v, r, e, Rep.unlock hd h, Reps.unlock hd t⟩
end
theorem RepF.unlock {K : PySem.W.Frag} {W : Wd} {d : Addr} {ob : Obj} {kvs : List (Key × V)} (hd : W.F d = some (.frz ob (.dK kvs))) : ∀ {fs : List (List Nat × PV)} {us : List (Str × V)}, RepF K W fs us → RepF K ⟨dropF W.F d, W.ρ⟩ fs us
  | [], _, h => h
  | (_, _) :: _, _, ⟨v, r, e, h, t⟩ => ⟨v, r, e, Rep.unlock hd h, RepF.unlock hd t⟩
section
variable {T : Txt} {W : Wd} {st : Store} {H : Hp} {d : Addr} {n : Nat} {ks vs : List PV}
theorem Sim.lock (S : Sim T W st H) (hr : W.ρ[n]? = some d) (hc : st[n]? = some (.dic ks vs)) : ∃ kvs, H d = some (.dK kvs) ∧ RepK ks (kvs.map (·.1)) ∧ Reps T.K W vs (kvs.map (·.2)) ∧
    ∀ ob, Go W H ⟨upd W.F d (.frz ob (.dK kvs)), W.ρ⟩ (upd H d (.frz ob (.dK kvs))) ∧ Sim T ⟨upd W.F d (.frz ob (.dK kvs)), W.ρ⟩ (st.set n (.dlk ks vs)) (upd H d (.frz ob (.dK kvs))) := by
  obtain ⟨kvs, f, rk, rs⟩ := S.cell n d _ hr hc
  have hn : n < st.length := (List.getElem?_eq_some_iff.mp hc).1
  have hF : W.F d = none := S.off n d _ hr hc rfl
  refine ⟨kvs, f, rk, rs, fun ob => ?_⟩
  have l : Wd.Le W ⟨upd W.F d (.frz ob (.dK kvs)), W.ρ⟩ := ⟨fun b u e => by
    have : b ≠ d := fun q => by subst q; rw [hF] at e; cases e
    show upd W.F d _ b = some u
    rw [upd_ne this]; exact e, fun _ _ e => e⟩
  refine ⟨⟨l, fun b u e1 e2 e3 => ?_⟩, ⟨fun b u e => ?_, S.nd, by simp [S.len], fun b hb => ?_, fun m b c2 e1 e2 => ?_, fun m b c2 e1 e2 e3 => ?_⟩⟩
  · have : b ≠ d := fun q => e3 (by rw [q]; exact List.mem_of_getElem? hr)
    exact ⟨(upd_ne this).trans e1, (upd_ne this).trans e2, e3⟩
  · have e : upd W.F d (.frz ob (.dK kvs)) b = some u := e
    by_cases q : b = d
    · subst q; rw [upd_same] at e ⊢; exact e
    · rw [upd_ne q] at e ⊢; exact S.sub b u e
  · by_cases q : b = d
    · rw [q, upd_same]; simp
    · rw [upd_ne q]; exact S.dom b hb
  · by_cases q : m = n
    · subst q
      rw [hr] at e1; cases e1
      rw [List.getElem?_set_self hn] at e2; cases e2
      exact ⟨ob, kvs, upd_same, rk, rs.up l⟩
    · rw [List.getElem?_set_ne (Ne.symm q)] at e2
      exact (S.cell m b c2 e1 e2).up l (upd_ne (S.other e1 hr q))
  · by_cases q : m = n
    · subst q
      rw [List.getElem?_set_self hn] at e2; cases e2
      cases e3
    · rw [List.getElem?_set_ne (Ne.symm q)] at e2
      show upd W.F d _ b = none
      rw [upd_ne (S.other e1 hr q)]; exact S.off m b c2 e1 e2 e3
theorem Sim.unlock (S : Sim T W st H) {ob : Obj} {kvs : List (Key × V)} (hr : W.ρ[n]? = some d) (hc : st[n]? = some (.dlk ks vs)) (hF : W.F d = some (.frz ob (.dK kvs))) :
    Sim T ⟨dropF W.F d, W.ρ⟩ (st.set n (.dic ks vs)) (upd H d (.dK kvs)) := by
  obtain ⟨ob', kvs', f, rk, rs⟩ := S.cell n d _ hr hc
  have hn : n < st.length := (List.getElem?_eq_some_iff.mp hc).1
  rw [hF] at f
  cases f
  have up : ∀ {b : Addr} {c : Cell}, b ≠ d → CellAt T W H b c → CellAt T ⟨dropF W.F d, W.ρ⟩ (upd H d (.dK kvs)) b c := fun {b c} nb h => by
    cases c with
    | lst xs => obtain ⟨us, h1, h2⟩ := h; exact ⟨us, (upd_ne nb).trans h1, Reps.unlock hF h2⟩
    | dic xs ys => obtain ⟨us, h1, h2, h3⟩ := h; exact ⟨us, (upd_ne nb).trans h1, h2, Reps.unlock hF h3⟩
    | dlk xs ys => obtain ⟨o2, us, h1, h2, h3⟩ := h; exact ⟨o2, us, (by show dropF W.F d b = _; unfold dropF; rw [if_neg nb]; exact h1), h2, Reps.unlock hF h3⟩
    | ins c fs => obtain ⟨dx, us, h1, h2, h3⟩ := h; exact ⟨dx, us, (upd_ne nb).trans h1, RepF.unlock hF h2, h3⟩
    | dead => exact True.intro
  refine ⟨fun b u e => ?_, S.nd, by simp [S.len], fun b hb => ?_, fun m b c2 e1 e2 => ?_, fun m b c2 e1 e2 e3 => ?_⟩
  · have e : dropF W.F d b = some u := e
    unfold dropF at e
    by_cases q : b = d
    · rw [if_pos q] at e; cases e
    · rw [if_neg q] at e; rw [upd_ne q]; exact S.sub b u e
  · by_cases q : b = d
    · rw [q, upd_same]; simp
    · rw [upd_ne q]; exact S.dom b hb
  · by_cases q : m = n
    · subst q
      rw [hr] at e1; cases e1
      rw [List.getElem?_set_self hn] at e2; cases e2
      exact ⟨kvs, upd_same, rk, Reps.unlock hF rs⟩
    · rw [List.getElem?_set_ne (Ne.symm q)] at e2
      exact up (S.other e1 hr q) (S.cell m b c2 e1 e2)
  · show dropF W.F d b = none
    unfold dropF
    by_cases q : m = n
    · subst q
      rw [hr] at e1; cases e1
      rw [if_pos rfl]
    · rw [List.getElem?_set_ne (Ne.symm q)] at e2
      rw [if_neg (S.other e1 hr q)]; exact S.off m b c2 e1 e2 e3
end

/-! ### slots -/
abbrev Sig := List (Option PV)
structure SigOk (K : PySem.W.Frag) (W : Wd) (sg : Sig) (σ : St) : Prop where
  len : sg.length = σ.length
  get : ∀ (i : Nat) p, sg[i]? = some (some p) → ∃ v, σ[i]? = some (some v) ∧ Rep K W p v
section
variable {K : PySem.W.Frag} {W W' : Wd} {sg : Sig} {σ : St}
theorem SigOk.up (h : SigOk K W sg σ) (l : W.Le W') : SigOk K W' sg σ := ⟨h.len, fun i p e => let ⟨v, a, b⟩ := h.get i p e; ⟨v, a, b.up l⟩⟩
theorem SigOk.put (h : SigOk K W sg σ) {p : PV} {v : V} (i : Nat) (r : Rep K W p v) : SigOk K W (sg.set i (some p)) (σ.set i (some v)) := by
  refine ⟨by simp [h.len], fun j q e => ?_⟩
  by_cases c : i = j
  · subst c
    have hi : i < sg.length := by
      rcases Nat.lt_or_ge i sg.length with z | z
      · exact z
      · rw [List.getElem?_eq_none (by simpa using z)] at e; cases e
    rw [List.getElem?_set_self hi] at e
    cases e
    exact ⟨v, List.getElem?_set_self (by rw [← h.len]; exact hi), r⟩
  · rw [List.getElem?_set_ne c] at e
    rw [List.getElem?_set_ne c]
    exact h.get j q e
theorem SigOk.drop (h : SigOk K W sg σ) (i : Nat) (x : Option V) : SigOk K W (sg.set i none) (σ.set i x) := by
  refine ⟨by simp [h.len], fun j q e => ?_⟩
  by_cases c : i = j
  · subst c
    by_cases hi : i < sg.length
    · rw [List.getElem?_set_self hi] at e; cases e
    · rw [List.getElem?_eq_none (by simpa using hi)] at e; cases e
  · rw [List.getElem?_set_ne c] at e
    rw [List.getElem?_set_ne c]
    exact h.get j q e
end
end Pv
set_option maxHeartbeats 2000000
/-! Pv, part B: == of pure values. -/
namespace Pv
open PySem PySem.SeqAt L2

def eqL (f : PV → PV → Option Bool) : List PV → List PV → Option Bool
  | [], [] => some true
  | x :: xs, y :: ys => match f x y, eqL f xs ys with
    | some a, some b => some (a && b)
    | _, _ => none
  | [], _ :: _ => some false
  | _ :: _, [] => some false
def eqP : Nat → PV → PV → Option Bool
  | 0, _, _ => none
  | n + 1, p, q => match p, q with
    | .non, .non => some true
    | .bl a, .bl b => some (a == b)
    | .bl a, .int j => some ((if a then 1 else 0) == j)
    | .int i, .bl b => some (i == (if b then 1 else 0))
    | .int i, .int j => some (i == j)
    | .str a, .str b => some (a == b)
    | .tup xs, .tup ys => eqL (eqP n) xs ys
    | .lst xs, .lst ys => eqL (eqP n) xs ys
    | .lst xs, .scr ys => eqL (eqP n) xs ys
    | .scr xs, .lst ys => eqL (eqP n) xs ys
    | .scr xs, .scr ys => eqL (eqP n) xs ys
    | .dic _ _, _ => none
    | .ref _, _ => none
    | _, .dic _ _ => none
    | _, .ref _ => none
    | _, _ => some false

theorem eqL_spec {f : PV → PV → Option Bool} : ∀ {xs ys : List PV} {b : Bool}, eqL f xs ys = some b →
    ∃ e : Nat → Bool, (∀ (j : Nat) p q, xs[j]? = some p → ys[j]? = some q → f p q = some (e j)) ∧ b = ((List.range (min xs.length ys.length)).all e && xs.length == ys.length)
  | [], [], b, h => by
    have h : true = b := by simpa [eqL] using h
    exact ⟨fun _ => true, fun j p q e _ => by simp at e, by subst h; rfl⟩
  | [], _ :: _, b, h => by
    have h : false = b := by simpa [eqL] using h
    exact ⟨fun _ => true, fun j p q e _ => by simp at e, by subst h; simp⟩
  | _ :: _, [], b, h => by
    have h : false = b := by simpa [eqL] using h
    exact ⟨fun _ => true, fun j p q _ e => by simp at e, by subst h; simp⟩
  | x :: xs, y :: ys, b, h => by
    unfold eqL at h
    cases hx : f x y with
    | none => rw [hx] at h; cases h
    | some a =>
      cases hr : eqL f xs ys with
      | none => rw [hx, hr] at h; cases h
      | some c =>
        rw [hx, hr] at h
        have h : (a && c) = b := by simpa using h
        obtain ⟨e, k1, k2⟩ := eqL_spec hr
        refine ⟨fun j => match j with | 0 => a | j + 1 => e j, fun j p q e1 e2 => ?_, ?_⟩
        · cases j with
          | zero =>
            have e1 : x = p := by simpa using e1
            have e2 : y = q := by simpa using e2
            subst e1; subst e2; exact hx
          | succ j => exact k1 j p q (by simpa using e1) (by simpa using e2)
        · subst h
          have m : min (x :: xs).length (y :: ys).length = min xs.length ys.length + 1 := by simp only [List.length_cons]; omega
          rw [m, List.range_succ_eq_map, List.all_cons, List.all_map, k2, Bool.and_assoc]
          have l : ((x :: xs).length == (y :: ys).length) = (xs.length == ys.length) := by simp
          rw [l]
          rfl

/-- a sequence in the concrete heap -/
theorem seq_items {X : Cx} {pins : List (Addr × Obj)} {σ : St} {H : Hp} {s : Shared} {W : Wd} (I : Inv X pins σ H s) (S : ∀ a o, W.F a = some o → H a = some o) :
    (∀ {xs : List PV} {v : V} {u : Value}, Rep X.K W (.tup xs) v → RelV v u → ∃ l vs its, u = .ref l ∧ s.heap.IsTuple l its ∧ Vals vs its.toList ∧ Reps X.K W xs vs ∧ xs.length ≤ sizeLine) ∧
    (∀ {xs : List PV} {v : V} {u : Value}, Rep X.K W (.lst xs) v → RelV v u → ∃ l vs its, u = .ref l ∧ s.heap.IsList l its ∧ Vals vs its.toList ∧ Reps X.K W xs vs ∧ xs.length ≤ sizeLine) ∧
    (∀ {xs : List PV} {v : V} {u : Value}, Rep X.K W (.scr xs) v → RelV v u → ∃ l vs its, u = .ref l ∧ s.heap.IsList l its ∧ Vals vs its.toList ∧ Reps X.K W xs vs ∧ xs.length ≤ sizeLine) := by
  refine ⟨fun {xs v u} h r => ?_, fun {xs v u} h r => ?_, fun {xs v u} h r => ?_⟩
  · obtain ⟨a, vs, rfl, q, rs⟩ := h
    cases r
    obtain ⟨its, rv, p, hz⟩ := I.tuple (SqT.up q S)
    exact ⟨a, vs, its.toArray, rfl, p, by simpa using rv, rs, by rw [← rs.length]; exact hz⟩
  · obtain ⟨a, vs, rfl, q, rs⟩ := h
    cases r
    obtain ⟨its, rv, p, hz⟩ := I.list (SqL.of (S _ _ q))
    exact ⟨a, vs, its.toArray, rfl, p.isList, by simpa using rv, rs, by rw [← rs.length]; exact hz⟩
  · obtain ⟨a, vs, rfl, q, rs⟩ := h
    cases r
    obtain ⟨its, rv, p, hz⟩ := I.list (SqL.up q S)
    exact ⟨a, vs, its.toArray, rfl, p.isList, by simpa using rv, rs, by rw [← rs.length]; exact hz⟩
theorem str_eq_iff (a b : List Nat) : ((⟨a.toArray⟩ : Str) == ⟨b.toArray⟩) = (a == b) := by
  rw [Bool.eq_iff_iff]
  simp

theorem vals_at {vs : List V} {its : Array Value} {ps : List PV} {K : PySem.W.Frag} {W : Wd} (rv : Vals vs its.toList) (rs : Reps K W ps vs) (j : Nat) (h : j < its.size) :
    ∃ p x, ps[j]? = some p ∧ Rep K W p x ∧ RelV x its[j] := by
  have l1 := rv.length
  have l2 := rs.length
  have hj : j < ps.length := by rw [← l2, l1]; simpa using h
  obtain ⟨x, hx, rx⟩ := rs.get (List.getElem?_eq_getElem hj)
  obtain ⟨u, hu, ru⟩ := rv.get hx
  refine ⟨_, x, List.getElem?_eq_getElem hj, rx, ?_⟩
  have : its.toList[j]? = some its[j] := by simp [h]
  rw [this] at hu
  cases hu
  exact ru

theorem strV_inj {a b : List Nat} (h : strV a = strV b) : a = b := by
  unfold strV at h
  injection h with h
  injection h with h
  simpa using h
theorem eqL_same {f : PV → PV → Option Bool} {K : PySem.W.Frag} {W : Wd} (ih : ∀ p q b v, f p q = some b → Rep K W p v → Rep K W q v → b = true) :
    ∀ (xs ys : List PV) (vs : List V) (b : Bool), eqL f xs ys = some b → Reps K W xs vs → Reps K W ys vs → b = true
  | [], [], _, b, h, _, _ => by simpa [eqL] using h.symm
  | [], _ :: _, _, _, _, r1, r2 => by obtain ⟨_, _, e, _⟩ := r2; cases r1; cases e
  | _ :: _, [], _, _, _, r1, r2 => by obtain ⟨_, _, e, _⟩ := r1; cases r2; cases e
  | x :: xs, y :: ys, _, b, h, ⟨v, r, e, a1, a2⟩, ⟨v', r', e', c1, c2⟩ => by
    subst e
    obtain ⟨rfl, rfl⟩ := List.cons.inj e'
    unfold eqL at h
    cases hx : f x y with
    | none => rw [hx] at h; cases h
    | some a =>
      cases hr : eqL f xs ys with
      | none => rw [hx, hr] at h; cases h
      | some c =>
        rw [hx, hr] at h
        have h : (a && c) = b := by simpa using h
        rw [← h, ih _ _ _ _ hx a1 c1, eqL_same ih xs ys _ _ hr a2 c2]
        rfl
def isSeq : PV → Bool
  | .tup _ => true | .lst _ => true | .scr _ => true | _ => false
theorem seq_val {K : PySem.W.Frag} {W : Wd} {p : PV} {v : V} (h : Rep K W p v) (hp : isSeq p = true) : ∃ u, RelV v u := by
  cases p with
  | tup xs => obtain ⟨a, _, rfl, _⟩ := h; exact ⟨.ref a, rfl⟩
  | lst xs => obtain ⟨a, _, rfl, _⟩ := h; exact ⟨.ref a, rfl⟩
  | scr xs => obtain ⟨a, _, rfl, _⟩ := h; exact ⟨.ref a, rfl⟩
  | _ => cases hp
section
variable {X : Cx} {pins : List (Addr × Obj)} {σ : St} {H : Hp} {s : Shared} {W : Wd}
theorem eq_same (I : Inv X pins σ H s) (S : ∀ a o, W.F a = some o → H a = some o) : ∀ (n : Nat) (p q : PV) (b : Bool) (v : V), eqP n p q = some b → Rep X.K W p v → Rep X.K W q v → b = true
  | 0, _, _, _, _, h, _, _ => by cases h
  | n + 1, p, q, b, v, h, e1, e2 => by
    have ih := eq_same I S n
    cases p with
    | non =>
      cases q with
      | non =>
        simpa [eqP] using h.symm
      | bl b2 =>
        cases e1; cases e2
      | int i2 =>
        cases e1; cases e2
      | str x2 =>
        cases e1; obtain ⟨e2, _⟩ := e2; cases e2
      | tup xs2 =>
        cases e1; obtain ⟨a', vs', ea, q2, rs2⟩ := e2; cases ea
      | lst xs2 =>
        cases e1; obtain ⟨a', vs', ea, q2, rs2⟩ := e2; cases ea
      | scr xs2 =>
        cases e1; obtain ⟨a', vs', ea, q2, rs2⟩ := e2; cases ea
      | dic _ _ => simp [eqP] at h
      | ref _ => simp [eqP] at h
    | bl b1 =>
      cases q with
      | non =>
        cases e1; cases e2
      | bl b2 =>
        cases e1; injection e2 with e2; subst e2; simpa [eqP] using h.symm
      | int i2 =>
        cases e1; cases e2
      | str x2 =>
        cases e1; obtain ⟨e2, _⟩ := e2; cases e2
      | tup xs2 =>
        cases e1; obtain ⟨a', vs', ea, q2, rs2⟩ := e2; cases ea
      | lst xs2 =>
        cases e1; obtain ⟨a', vs', ea, q2, rs2⟩ := e2; cases ea
      | scr xs2 =>
        cases e1; obtain ⟨a', vs', ea, q2, rs2⟩ := e2; cases ea
      | dic _ _ => simp [eqP] at h
      | ref _ => simp [eqP] at h
    | int i1 =>
      cases q with
      | non =>
        cases e1; cases e2
      | bl b2 =>
        cases e1; cases e2
      | int i2 =>
        cases e1; injection e2 with e2; subst e2; simpa [eqP] using h.symm
      | str x2 =>
        cases e1; obtain ⟨e2, _⟩ := e2; cases e2
      | tup xs2 =>
        cases e1; obtain ⟨a', vs', ea, q2, rs2⟩ := e2; cases ea
      | lst xs2 =>
        cases e1; obtain ⟨a', vs', ea, q2, rs2⟩ := e2; cases ea
      | scr xs2 =>
        cases e1; obtain ⟨a', vs', ea, q2, rs2⟩ := e2; cases ea
      | dic _ _ => simp [eqP] at h
      | ref _ => simp [eqP] at h
    | str x1 =>
      cases q with
      | non =>
        obtain ⟨e1, _⟩ := e1; cases e1; cases e2
      | bl b2 =>
        obtain ⟨e1, _⟩ := e1; cases e1; cases e2
      | int i2 =>
        obtain ⟨e1, _⟩ := e1; cases e1; cases e2
      | str x2 =>
        have e := strV_inj (e1.1.symm.trans e2.1)
        subst e; simpa [eqP] using h.symm
      | tup xs2 =>
        obtain ⟨e1, _⟩ := e1; cases e1; obtain ⟨a', vs', ea, q2, rs2⟩ := e2; cases ea
      | lst xs2 =>
        obtain ⟨e1, _⟩ := e1; cases e1; obtain ⟨a', vs', ea, q2, rs2⟩ := e2; cases ea
      | scr xs2 =>
        obtain ⟨e1, _⟩ := e1; cases e1; obtain ⟨a', vs', ea, q2, rs2⟩ := e2; cases ea
      | dic _ _ => simp [eqP] at h
      | ref _ => simp [eqP] at h
    | tup xs1 =>
      cases q with
      | non =>
        obtain ⟨a, vs, rfl, q1, rs1⟩ := e1; cases e2
      | bl b2 =>
        obtain ⟨a, vs, rfl, q1, rs1⟩ := e1; cases e2
      | int i2 =>
        obtain ⟨a, vs, rfl, q1, rs1⟩ := e1; cases e2
      | str x2 =>
        obtain ⟨a, vs, rfl, q1, rs1⟩ := e1; obtain ⟨e2, _⟩ := e2; cases e2
      | tup xs2 =>
        obtain ⟨a, vs, rfl, q1, rs1⟩ := e1
        obtain ⟨a', vs', ea, q2, rs2⟩ := e2
        cases ea
        have ev := I.tuple_inj (SqT.up q1 S) (SqT.up q2 S)
        subst ev
        exact eqL_same ih _ _ _ _ (by simpa [eqP] using h) rs1 rs2
      | lst xs2 =>
        obtain ⟨u, ru⟩ := seq_val (p := .tup xs1) e1 (by rfl)
        obtain ⟨l1, _, its1, ea, h1, _⟩ := (seq_items I S).1 e1 ru
        obtain ⟨l2, _, its2, ec, h2, _⟩ := (seq_items I S).2.1 e2 ru
        rw [ea] at ec
        cases ec
        exact absurd rfl (SeqAt.ne_of_list_tuple h2 h1)
      | scr xs2 =>
        obtain ⟨u, ru⟩ := seq_val (p := .tup xs1) e1 (by rfl)
        obtain ⟨l1, _, its1, ea, h1, _⟩ := (seq_items I S).1 e1 ru
        obtain ⟨l2, _, its2, ec, h2, _⟩ := (seq_items I S).2.2 e2 ru
        rw [ea] at ec
        cases ec
        exact absurd rfl (SeqAt.ne_of_list_tuple h2 h1)
      | dic _ _ => simp [eqP] at h
      | ref _ => simp [eqP] at h
    | lst xs1 =>
      cases q with
      | non =>
        obtain ⟨a, vs, rfl, q1, rs1⟩ := e1; cases e2
      | bl b2 =>
        obtain ⟨a, vs, rfl, q1, rs1⟩ := e1; cases e2
      | int i2 =>
        obtain ⟨a, vs, rfl, q1, rs1⟩ := e1; cases e2
      | str x2 =>
        obtain ⟨a, vs, rfl, q1, rs1⟩ := e1; obtain ⟨e2, _⟩ := e2; cases e2
      | tup xs2 =>
        obtain ⟨u, ru⟩ := seq_val (p := .lst xs1) e1 (by rfl)
        obtain ⟨l1, _, its1, ea, h1, _⟩ := (seq_items I S).2.1 e1 ru
        obtain ⟨l2, _, its2, ec, h2, _⟩ := (seq_items I S).1 e2 ru
        rw [ea] at ec
        cases ec
        exact absurd rfl (SeqAt.ne_of_list_tuple h1 h2)
      | lst xs2 =>
        obtain ⟨a, vs, rfl, q1, rs1⟩ := e1
        obtain ⟨a', vs', ea, q2, rs2⟩ := e2
        cases ea
        have ev := I.list_inj (SqL.of (S _ _ q1)) (SqL.of (S _ _ q2))
        subst ev
        exact eqL_same ih _ _ _ _ (by simpa [eqP] using h) rs1 rs2
      | scr xs2 =>
        obtain ⟨a, vs, rfl, q1, rs1⟩ := e1
        obtain ⟨a', vs', ea, q2, rs2⟩ := e2
        cases ea
        have ev := I.list_inj (SqL.of (S _ _ q1)) (SqL.up q2 S)
        subst ev
        exact eqL_same ih _ _ _ _ (by simpa [eqP] using h) rs1 rs2
      | dic _ _ => simp [eqP] at h
      | ref _ => simp [eqP] at h
    | scr xs1 =>
      cases q with
      | non =>
        obtain ⟨a, vs, rfl, q1, rs1⟩ := e1; cases e2
      | bl b2 =>
        obtain ⟨a, vs, rfl, q1, rs1⟩ := e1; cases e2
      | int i2 =>
        obtain ⟨a, vs, rfl, q1, rs1⟩ := e1; cases e2
      | str x2 =>
        obtain ⟨a, vs, rfl, q1, rs1⟩ := e1; obtain ⟨e2, _⟩ := e2; cases e2
      | tup xs2 =>
        obtain ⟨u, ru⟩ := seq_val (p := .scr xs1) e1 (by rfl)
        obtain ⟨l1, _, its1, ea, h1, _⟩ := (seq_items I S).2.2 e1 ru
        obtain ⟨l2, _, its2, ec, h2, _⟩ := (seq_items I S).1 e2 ru
        rw [ea] at ec
        cases ec
        exact absurd rfl (SeqAt.ne_of_list_tuple h1 h2)
      | lst xs2 =>
        obtain ⟨a, vs, rfl, q1, rs1⟩ := e1
        obtain ⟨a', vs', ea, q2, rs2⟩ := e2
        cases ea
        have ev := I.list_inj (SqL.up q1 S) (SqL.of (S _ _ q2))
        subst ev
        exact eqL_same ih _ _ _ _ (by simpa [eqP] using h) rs1 rs2
      | scr xs2 =>
        obtain ⟨a, vs, rfl, q1, rs1⟩ := e1
        obtain ⟨a', vs', ea, q2, rs2⟩ := e2
        cases ea
        have ev := I.list_inj (SqL.up q1 S) (SqL.up q2 S)
        subst ev
        exact eqL_same ih _ _ _ _ (by simpa [eqP] using h) rs1 rs2
      | dic _ _ => simp [eqP] at h
      | ref _ => simp [eqP] at h
    | dic _ _ => simp [eqP] at h
    | ref _ => simp [eqP] at h
end
section
variable {X : Cx} {pins : List (Addr × Obj)} {σ : St} {H : Hp} {s : Shared} {W : Wd}

theorem eq_at (I : Inv X pins σ H s) (S : ∀ a o, W.F a = some o → H a = some o) : ∀ (n : Nat) (A : Around) (p q : PV) (b : Bool) (v u : V) (y z : Value), A.units + n < cLine → eqP n p q = some b →
    Rep X.K W p v → Rep X.K W q u → RelV v y → RelV u z → EqAt A s y z b ∧ RcAt A s y z b ∧ RcNeAt A s y z (!b)
  | 0, _, _, _, _, _, _, _, _, _, h, _, _, _, _ => by cases h
  | n + 1, A, p, q, b, v, u, y, z, hu, h, e1, e2, r1, r2 => by
    have hA : A.units < cLine := by omega
    have same : v = u → b = true := fun e => eq_same I S (n + 1) p q b v h e1 (e ▸ e2)
    have ih := eq_at I S n A.in1
    have hu1 : A.in1.units + n < cLine := by show A.units + 1 + n < cLine; omega
    cases p with
    | non =>
      cases q with
      | non =>
        cases e1; cases r1
        cases e2; cases r2
        have h : true = b := by simpa [eqP] using h
        subst h
        exact ⟨EqAt.same _, RcAt.none_none, RcNeAt.none_none⟩
      | bl b2 =>
        cases e1; cases r1
        cases e2; cases r2
        have h : false = b := by simpa [eqP] using h
        subst h
        exact ⟨EqAt.none_bool b2, RcAt.none_bool b2, RcNeAt.none_bool b2⟩
      | int i2 =>
        cases e1; cases r1
        cases e2; obtain ⟨t2, rfl⟩ := r2
        have h : false = b := by simpa [eqP] using h
        subst h
        exact ⟨EqAt.none_int i2 t2, RcAt.none_int i2 t2, RcNeAt.none_int i2 t2⟩
      | str x2 =>
        cases e1; cases r1
        obtain ⟨e2, _⟩ := e2; cases e2; obtain ⟨t2, rfl⟩ := r2
        have h : false = b := by simpa [eqP] using h
        subst h
        exact ⟨EqAt.none_str ⟨x2.toArray⟩ t2, RcAt.none_str ⟨x2.toArray⟩ t2, RcNeAt.none_str ⟨x2.toArray⟩ t2⟩
      | tup xs2 =>
        cases e1; cases r1
        obtain ⟨l2, vs2, its2, rfl, h2, rv2, rs2, z2⟩ := (seq_items I S).1 e2 r2
        have h : false = b := by simpa [eqP] using h
        subst h
        exact ⟨EqAt.none_tuple h2 hA, RcAt.none_tuple h2 hA, RcNeAt.none_tuple h2 hA⟩
      | lst xs2 =>
        cases e1; cases r1
        obtain ⟨l2, vs2, its2, rfl, h2, rv2, rs2, z2⟩ := (seq_items I S).2.1 e2 r2
        have h : false = b := by simpa [eqP] using h
        subst h
        exact ⟨EqAt.none_list h2 hA, RcAt.none_list h2 hA, RcNeAt.none_list h2 hA⟩
      | scr xs2 =>
        cases e1; cases r1
        obtain ⟨l2, vs2, its2, rfl, h2, rv2, rs2, z2⟩ := (seq_items I S).2.2 e2 r2
        have h : false = b := by simpa [eqP] using h
        subst h
        exact ⟨EqAt.none_list h2 hA, RcAt.none_list h2 hA, RcNeAt.none_list h2 hA⟩
      | dic _ _ => simp [eqP] at h
      | ref _ => simp [eqP] at h
    | bl b1 =>
      cases q with
      | non =>
        cases e1; cases r1
        cases e2; cases r2
        have h : false = b := by simpa [eqP] using h
        subst h
        exact ⟨EqAt.bool_none b1, RcAt.bool_none b1, RcNeAt.bool_none b1⟩
      | bl b2 =>
        cases e1; cases r1
        cases e2; cases r2
        have h : (b1 == b2) = b := by simpa [eqP] using h
        subst h
        exact ⟨EqAt.bool_bool b1 b2, RcAt.bool_bool b1 b2, RcNeAt.bool_bool b1 b2⟩
      | int i2 =>
        cases e1; cases r1
        cases e2; obtain ⟨t2, rfl⟩ := r2
        have h : ((if b1 then 1 else 0) == i2) = b := by simpa [eqP] using h
        subst h
        exact ⟨EqAt.bool_int b1 i2 t2, RcAt.bool_int b1 i2 t2, RcNeAt.bool_int b1 i2 t2⟩
      | str x2 =>
        cases e1; cases r1
        obtain ⟨e2, _⟩ := e2; cases e2; obtain ⟨t2, rfl⟩ := r2
        have h : false = b := by simpa [eqP] using h
        subst h
        exact ⟨EqAt.bool_str b1 ⟨x2.toArray⟩ t2, RcAt.bool_str b1 ⟨x2.toArray⟩ t2, RcNeAt.bool_str b1 ⟨x2.toArray⟩ t2⟩
      | tup xs2 =>
        cases e1; cases r1
        obtain ⟨l2, vs2, its2, rfl, h2, rv2, rs2, z2⟩ := (seq_items I S).1 e2 r2
        have h : false = b := by simpa [eqP] using h
        subst h
        exact ⟨EqAt.bool_tuple b1 h2 hA, RcAt.bool_tuple b1 h2 hA, RcNeAt.bool_tuple b1 h2 hA⟩
      | lst xs2 =>
        cases e1; cases r1
        obtain ⟨l2, vs2, its2, rfl, h2, rv2, rs2, z2⟩ := (seq_items I S).2.1 e2 r2
        have h : false = b := by simpa [eqP] using h
        subst h
        exact ⟨EqAt.bool_list b1 h2 hA, RcAt.bool_list b1 h2 hA, RcNeAt.bool_list b1 h2 hA⟩
      | scr xs2 =>
        cases e1; cases r1
        obtain ⟨l2, vs2, its2, rfl, h2, rv2, rs2, z2⟩ := (seq_items I S).2.2 e2 r2
        have h : false = b := by simpa [eqP] using h
        subst h
        exact ⟨EqAt.bool_list b1 h2 hA, RcAt.bool_list b1 h2 hA, RcNeAt.bool_list b1 h2 hA⟩
      | dic _ _ => simp [eqP] at h
      | ref _ => simp [eqP] at h
    | int i1 =>
      cases q with
      | non =>
        cases e1; obtain ⟨t1, rfl⟩ := r1
        cases e2; cases r2
        have h : false = b := by simpa [eqP] using h
        subst h
        exact ⟨EqAt.int_none i1 t1, RcAt.int_none i1 t1, RcNeAt.int_none i1 t1⟩
      | bl b2 =>
        cases e1; obtain ⟨t1, rfl⟩ := r1
        cases e2; cases r2
        have h : (i1 == (if b2 then 1 else 0)) = b := by simpa [eqP] using h
        subst h
        exact ⟨EqAt.int_bool i1 t1 b2, RcAt.int_bool i1 t1 b2, RcNeAt.int_bool i1 t1 b2⟩
      | int i2 =>
        cases e1; obtain ⟨t1, rfl⟩ := r1
        cases e2; obtain ⟨t2, rfl⟩ := r2
        have h : (i1 == i2) = b := by simpa [eqP] using h
        subst h
        exact ⟨EqAt.int_int i1 t1 i2 t2, RcAt.int_int i1 t1 i2 t2, RcNeAt.int_int i1 t1 i2 t2⟩
      | str x2 =>
        cases e1; obtain ⟨t1, rfl⟩ := r1
        obtain ⟨e2, _⟩ := e2; cases e2; obtain ⟨t2, rfl⟩ := r2
        have h : false = b := by simpa [eqP] using h
        subst h
        exact ⟨EqAt.int_str i1 t1 ⟨x2.toArray⟩ t2, RcAt.int_str i1 t1 ⟨x2.toArray⟩ t2, RcNeAt.int_str i1 t1 ⟨x2.toArray⟩ t2⟩
      | tup xs2 =>
        cases e1; obtain ⟨t1, rfl⟩ := r1
        obtain ⟨l2, vs2, its2, rfl, h2, rv2, rs2, z2⟩ := (seq_items I S).1 e2 r2
        have h : false = b := by simpa [eqP] using h
        subst h
        exact ⟨EqAt.int_tuple i1 t1 h2 hA, RcAt.int_tuple i1 t1 h2 hA, RcNeAt.int_tuple i1 t1 h2 hA⟩
      | lst xs2 =>
        cases e1; obtain ⟨t1, rfl⟩ := r1
        obtain ⟨l2, vs2, its2, rfl, h2, rv2, rs2, z2⟩ := (seq_items I S).2.1 e2 r2
        have h : false = b := by simpa [eqP] using h
        subst h
        exact ⟨EqAt.int_list i1 t1 h2 hA, RcAt.int_list i1 t1 h2 hA, RcNeAt.int_list i1 t1 h2 hA⟩
      | scr xs2 =>
        cases e1; obtain ⟨t1, rfl⟩ := r1
        obtain ⟨l2, vs2, its2, rfl, h2, rv2, rs2, z2⟩ := (seq_items I S).2.2 e2 r2
        have h : false = b := by simpa [eqP] using h
        subst h
        exact ⟨EqAt.int_list i1 t1 h2 hA, RcAt.int_list i1 t1 h2 hA, RcNeAt.int_list i1 t1 h2 hA⟩
      | dic _ _ => simp [eqP] at h
      | ref _ => simp [eqP] at h
    | str x1 =>
      cases q with
      | non =>
        obtain ⟨e1, _⟩ := e1; cases e1; obtain ⟨t1, rfl⟩ := r1
        cases e2; cases r2
        have h : false = b := by simpa [eqP] using h
        subst h
        exact ⟨EqAt.str_none ⟨x1.toArray⟩ t1, RcAt.str_none ⟨x1.toArray⟩ t1, RcNeAt.str_none ⟨x1.toArray⟩ t1⟩
      | bl b2 =>
        obtain ⟨e1, _⟩ := e1; cases e1; obtain ⟨t1, rfl⟩ := r1
        cases e2; cases r2
        have h : false = b := by simpa [eqP] using h
        subst h
        exact ⟨EqAt.str_bool ⟨x1.toArray⟩ t1 b2, RcAt.str_bool ⟨x1.toArray⟩ t1 b2, RcNeAt.str_bool ⟨x1.toArray⟩ t1 b2⟩
      | int i2 =>
        obtain ⟨e1, _⟩ := e1; cases e1; obtain ⟨t1, rfl⟩ := r1
        cases e2; obtain ⟨t2, rfl⟩ := r2
        have h : false = b := by simpa [eqP] using h
        subst h
        exact ⟨EqAt.str_int ⟨x1.toArray⟩ t1 i2 t2, RcAt.str_int ⟨x1.toArray⟩ t1 i2 t2, RcNeAt.str_int ⟨x1.toArray⟩ t1 i2 t2⟩
      | str x2 =>
        obtain ⟨e1, _⟩ := e1; cases e1; obtain ⟨t1, rfl⟩ := r1
        obtain ⟨e2, _⟩ := e2; cases e2; obtain ⟨t2, rfl⟩ := r2
        have h : (x1 == x2) = b := by simpa [eqP] using h
        subst h
        rw [← str_eq_iff]
        exact ⟨EqAt.str_str ⟨x1.toArray⟩ t1 ⟨x2.toArray⟩ t2, RcAt.str_str ⟨x1.toArray⟩ t1 ⟨x2.toArray⟩ t2, RcNeAt.str_str ⟨x1.toArray⟩ t1 ⟨x2.toArray⟩ t2⟩
      | tup xs2 =>
        obtain ⟨e1, _⟩ := e1; cases e1; obtain ⟨t1, rfl⟩ := r1
        obtain ⟨l2, vs2, its2, rfl, h2, rv2, rs2, z2⟩ := (seq_items I S).1 e2 r2
        have h : false = b := by simpa [eqP] using h
        subst h
        exact ⟨EqAt.str_tuple ⟨x1.toArray⟩ t1 h2 hA, RcAt.str_tuple ⟨x1.toArray⟩ t1 h2 hA, RcNeAt.str_tuple ⟨x1.toArray⟩ t1 h2 hA⟩
      | lst xs2 =>
        obtain ⟨e1, _⟩ := e1; cases e1; obtain ⟨t1, rfl⟩ := r1
        obtain ⟨l2, vs2, its2, rfl, h2, rv2, rs2, z2⟩ := (seq_items I S).2.1 e2 r2
        have h : false = b := by simpa [eqP] using h
        subst h
        exact ⟨EqAt.str_list ⟨x1.toArray⟩ t1 h2 hA, RcAt.str_list ⟨x1.toArray⟩ t1 h2 hA, RcNeAt.str_list ⟨x1.toArray⟩ t1 h2 hA⟩
      | scr xs2 =>
        obtain ⟨e1, _⟩ := e1; cases e1; obtain ⟨t1, rfl⟩ := r1
        obtain ⟨l2, vs2, its2, rfl, h2, rv2, rs2, z2⟩ := (seq_items I S).2.2 e2 r2
        have h : false = b := by simpa [eqP] using h
        subst h
        exact ⟨EqAt.str_list ⟨x1.toArray⟩ t1 h2 hA, RcAt.str_list ⟨x1.toArray⟩ t1 h2 hA, RcNeAt.str_list ⟨x1.toArray⟩ t1 h2 hA⟩
      | dic _ _ => simp [eqP] at h
      | ref _ => simp [eqP] at h
    | tup xs1 =>
      cases q with
      | non =>
        obtain ⟨l1, vs1, its1, rfl, h1, rv1, rs1, z1⟩ := (seq_items I S).1 e1 r1
        cases e2; cases r2
        have h : false = b := by simpa [eqP] using h
        subst h
        exact ⟨EqAt.tuple_none h1 hA, RcAt.tuple_none h1 hA, RcNeAt.tuple_none h1 hA⟩
      | bl b2 =>
        obtain ⟨l1, vs1, its1, rfl, h1, rv1, rs1, z1⟩ := (seq_items I S).1 e1 r1
        cases e2; cases r2
        have h : false = b := by simpa [eqP] using h
        subst h
        exact ⟨EqAt.tuple_bool b2 h1 hA, RcAt.tuple_bool b2 h1 hA, RcNeAt.tuple_bool b2 h1 hA⟩
      | int i2 =>
        obtain ⟨l1, vs1, its1, rfl, h1, rv1, rs1, z1⟩ := (seq_items I S).1 e1 r1
        cases e2; obtain ⟨t2, rfl⟩ := r2
        have h : false = b := by simpa [eqP] using h
        subst h
        exact ⟨EqAt.tuple_int i2 t2 h1 hA, RcAt.tuple_int i2 t2 h1 hA, RcNeAt.tuple_int i2 t2 h1 hA⟩
      | str x2 =>
        obtain ⟨l1, vs1, its1, rfl, h1, rv1, rs1, z1⟩ := (seq_items I S).1 e1 r1
        obtain ⟨e2, _⟩ := e2; cases e2; obtain ⟨t2, rfl⟩ := r2
        have h : false = b := by simpa [eqP] using h
        subst h
        exact ⟨EqAt.tuple_str ⟨x2.toArray⟩ t2 h1 hA, RcAt.tuple_str ⟨x2.toArray⟩ t2 h1 hA, RcNeAt.tuple_str ⟨x2.toArray⟩ t2 h1 hA⟩
      | tup xs2 =>
        obtain ⟨l1, vs1, its1, rfl, h1, rv1, rs1, z1⟩ := (seq_items I S).1 e1 r1
        obtain ⟨l2, vs2, its2, rfl, h2, rv2, rs2, z2⟩ := (seq_items I S).1 e2 r2
        obtain ⟨e, k1, k2⟩ := eqL_spec (f := eqP n) (by simpa [eqP] using h)
        have he : ∀ j (j1 : j < its1.size) (j2 : j < its2.size), EqAt A.in1 s its1[j] its2[j] (e j) := fun j j1 j2 => by
          obtain ⟨p1, w1, a1, a2, a3⟩ := vals_at rv1 rs1 j j1
          obtain ⟨p2, w2, c1, c2, c3⟩ := vals_at rv2 rs2 j j2
          exact (ih p1 p2 (e j) w1 w2 _ _ hu1 (k1 j p1 p2 a1 c1) a2 c2 a3 c3).1
        have n1 : its1.size = xs1.length := by have a := rv1.length; have b := rs1.length; simp at a; omega
        have n2 : its2.size = xs2.length := by have a := rv2.length; have b := rs2.length; simp at a; omega
        rw [← n1, ← n2] at k2
        have rc : RcAt A s (.ref l1) (.ref l2) b := by rw [k2]; exact RcAt.tuples h1 h2 hA he
        have rn : RcNeAt A s (.ref l1) (.ref l2) (!b) := by rw [k2]; exact RcNeAt.tuples h1 h2 hA he
        refine ⟨?_, rc, rn⟩
        by_cases hl : l1 = l2
        · subst hl
          -- the very object: equal, as its items are
          have hb : b = true := same (RelV.inj r1 r2)
          subst hb
          exact EqAt.same _
        · exact EqAt.of_refs hl rc
      | lst xs2 =>
        obtain ⟨l1, vs1, its1, rfl, h1, rv1, rs1, z1⟩ := (seq_items I S).1 e1 r1
        obtain ⟨l2, vs2, its2, rfl, h2, rv2, rs2, z2⟩ := (seq_items I S).2.1 e2 r2
        have h : false = b := by simpa [eqP] using h
        subst h
        exact ⟨EqAt.tuple_list h1 h2 hA, RcAt.tuple_list h1 h2 hA, RcNeAt.tuple_list h1 h2 hA⟩
      | scr xs2 =>
        obtain ⟨l1, vs1, its1, rfl, h1, rv1, rs1, z1⟩ := (seq_items I S).1 e1 r1
        obtain ⟨l2, vs2, its2, rfl, h2, rv2, rs2, z2⟩ := (seq_items I S).2.2 e2 r2
        have h : false = b := by simpa [eqP] using h
        subst h
        exact ⟨EqAt.tuple_list h1 h2 hA, RcAt.tuple_list h1 h2 hA, RcNeAt.tuple_list h1 h2 hA⟩
      | dic _ _ => simp [eqP] at h
      | ref _ => simp [eqP] at h
    | lst xs1 =>
      cases q with
      | non =>
        obtain ⟨l1, vs1, its1, rfl, h1, rv1, rs1, z1⟩ := (seq_items I S).2.1 e1 r1
        cases e2; cases r2
        have h : false = b := by simpa [eqP] using h
        subst h
        exact ⟨EqAt.list_none h1 hA, RcAt.list_none h1 hA, RcNeAt.list_none h1 hA⟩
      | bl b2 =>
        obtain ⟨l1, vs1, its1, rfl, h1, rv1, rs1, z1⟩ := (seq_items I S).2.1 e1 r1
        cases e2; cases r2
        have h : false = b := by simpa [eqP] using h
        subst h
        exact ⟨EqAt.list_bool b2 h1 hA, RcAt.list_bool b2 h1 hA, RcNeAt.list_bool b2 h1 hA⟩
      | int i2 =>
        obtain ⟨l1, vs1, its1, rfl, h1, rv1, rs1, z1⟩ := (seq_items I S).2.1 e1 r1
        cases e2; obtain ⟨t2, rfl⟩ := r2
        have h : false = b := by simpa [eqP] using h
        subst h
        exact ⟨EqAt.list_int i2 t2 h1 hA, RcAt.list_int i2 t2 h1 hA, RcNeAt.list_int i2 t2 h1 hA⟩
      | str x2 =>
        obtain ⟨l1, vs1, its1, rfl, h1, rv1, rs1, z1⟩ := (seq_items I S).2.1 e1 r1
        obtain ⟨e2, _⟩ := e2; cases e2; obtain ⟨t2, rfl⟩ := r2
        have h : false = b := by simpa [eqP] using h
        subst h
        exact ⟨EqAt.list_str ⟨x2.toArray⟩ t2 h1 hA, RcAt.list_str ⟨x2.toArray⟩ t2 h1 hA, RcNeAt.list_str ⟨x2.toArray⟩ t2 h1 hA⟩
      | tup xs2 =>
        obtain ⟨l1, vs1, its1, rfl, h1, rv1, rs1, z1⟩ := (seq_items I S).2.1 e1 r1
        obtain ⟨l2, vs2, its2, rfl, h2, rv2, rs2, z2⟩ := (seq_items I S).1 e2 r2
        have h : false = b := by simpa [eqP] using h
        subst h
        exact ⟨EqAt.list_tuple h1 h2 hA, RcAt.list_tuple h1 h2 hA, RcNeAt.list_tuple h1 h2 hA⟩
      | lst xs2 =>
        obtain ⟨l1, vs1, its1, rfl, h1, rv1, rs1, z1⟩ := (seq_items I S).2.1 e1 r1
        obtain ⟨l2, vs2, its2, rfl, h2, rv2, rs2, z2⟩ := (seq_items I S).2.1 e2 r2
        obtain ⟨e, k1, k2⟩ := eqL_spec (f := eqP n) (by simpa [eqP] using h)
        have he : ∀ j (j1 : j < its1.size) (j2 : j < its2.size), EqAt A.in1 s its1[j] its2[j] (e j) := fun j j1 j2 => by
          obtain ⟨p1, w1, a1, a2, a3⟩ := vals_at rv1 rs1 j j1
          obtain ⟨p2, w2, c1, c2, c3⟩ := vals_at rv2 rs2 j j2
          exact (ih p1 p2 (e j) w1 w2 _ _ hu1 (k1 j p1 p2 a1 c1) a2 c2 a3 c3).1
        have n1 : its1.size = xs1.length := by have a := rv1.length; have b := rs1.length; simp at a; omega
        have n2 : its2.size = xs2.length := by have a := rv2.length; have b := rs2.length; simp at a; omega
        rw [← n1, ← n2] at k2
        have rc : RcAt A s (.ref l1) (.ref l2) b ∧ RcNeAt A s (.ref l1) (.ref l2) (!b) := by
          by_cases hsz : its1.size = its2.size
          · rw [← hsz, Nat.min_self, beq_self_eq_true, Bool.and_true] at k2
            rw [k2]; exact ⟨RcAt.lists h1 h2 hsz hA he, RcNeAt.lists h1 h2 hsz hA he⟩
          · have : b = false := by rw [k2]; simp [hsz]
            subst this
            exact ⟨RcAt.lists_lengths h1 h2 (by simpa using hsz) hA, RcNeAt.lists_lengths h1 h2 (by simpa using hsz) hA⟩
        refine ⟨?_, rc.1, rc.2⟩
        have rc := rc.1
        by_cases hl : l1 = l2
        · subst hl
          -- the very object: equal, as its items are
          have hb : b = true := same (RelV.inj r1 r2)
          subst hb
          exact EqAt.same _
        · exact EqAt.of_refs hl rc
      | scr xs2 =>
        obtain ⟨l1, vs1, its1, rfl, h1, rv1, rs1, z1⟩ := (seq_items I S).2.1 e1 r1
        obtain ⟨l2, vs2, its2, rfl, h2, rv2, rs2, z2⟩ := (seq_items I S).2.2 e2 r2
        obtain ⟨e, k1, k2⟩ := eqL_spec (f := eqP n) (by simpa [eqP] using h)
        have he : ∀ j (j1 : j < its1.size) (j2 : j < its2.size), EqAt A.in1 s its1[j] its2[j] (e j) := fun j j1 j2 => by
          obtain ⟨p1, w1, a1, a2, a3⟩ := vals_at rv1 rs1 j j1
          obtain ⟨p2, w2, c1, c2, c3⟩ := vals_at rv2 rs2 j j2
          exact (ih p1 p2 (e j) w1 w2 _ _ hu1 (k1 j p1 p2 a1 c1) a2 c2 a3 c3).1
        have n1 : its1.size = xs1.length := by have a := rv1.length; have b := rs1.length; simp at a; omega
        have n2 : its2.size = xs2.length := by have a := rv2.length; have b := rs2.length; simp at a; omega
        rw [← n1, ← n2] at k2
        have rc : RcAt A s (.ref l1) (.ref l2) b ∧ RcNeAt A s (.ref l1) (.ref l2) (!b) := by
          by_cases hsz : its1.size = its2.size
          · rw [← hsz, Nat.min_self, beq_self_eq_true, Bool.and_true] at k2
            rw [k2]; exact ⟨RcAt.lists h1 h2 hsz hA he, RcNeAt.lists h1 h2 hsz hA he⟩
          · have : b = false := by rw [k2]; simp [hsz]
            subst this
            exact ⟨RcAt.lists_lengths h1 h2 (by simpa using hsz) hA, RcNeAt.lists_lengths h1 h2 (by simpa using hsz) hA⟩
        refine ⟨?_, rc.1, rc.2⟩
        have rc := rc.1
        by_cases hl : l1 = l2
        · subst hl
          -- the very object: equal, as its items are
          have hb : b = true := same (RelV.inj r1 r2)
          subst hb
          exact EqAt.same _
        · exact EqAt.of_refs hl rc
      | dic _ _ => simp [eqP] at h
      | ref _ => simp [eqP] at h
    | scr xs1 =>
      cases q with
      | non =>
        obtain ⟨l1, vs1, its1, rfl, h1, rv1, rs1, z1⟩ := (seq_items I S).2.2 e1 r1
        cases e2; cases r2
        have h : false = b := by simpa [eqP] using h
        subst h
        exact ⟨EqAt.list_none h1 hA, RcAt.list_none h1 hA, RcNeAt.list_none h1 hA⟩
      | bl b2 =>
        obtain ⟨l1, vs1, its1, rfl, h1, rv1, rs1, z1⟩ := (seq_items I S).2.2 e1 r1
        cases e2; cases r2
        have h : false = b := by simpa [eqP] using h
        subst h
        exact ⟨EqAt.list_bool b2 h1 hA, RcAt.list_bool b2 h1 hA, RcNeAt.list_bool b2 h1 hA⟩
      | int i2 =>
        obtain ⟨l1, vs1, its1, rfl, h1, rv1, rs1, z1⟩ := (seq_items I S).2.2 e1 r1
        cases e2; obtain ⟨t2, rfl⟩ := r2
        have h : false = b := by simpa [eqP] using h
        subst h
        exact ⟨EqAt.list_int i2 t2 h1 hA, RcAt.list_int i2 t2 h1 hA, RcNeAt.list_int i2 t2 h1 hA⟩
      | str x2 =>
        obtain ⟨l1, vs1, its1, rfl, h1, rv1, rs1, z1⟩ := (seq_items I S).2.2 e1 r1
        obtain ⟨e2, _⟩ := e2; cases e2; obtain ⟨t2, rfl⟩ := r2
        have h : false = b := by simpa [eqP] using h
        subst h
        exact ⟨EqAt.list_str ⟨x2.toArray⟩ t2 h1 hA, RcAt.list_str ⟨x2.toArray⟩ t2 h1 hA, RcNeAt.list_str ⟨x2.toArray⟩ t2 h1 hA⟩
      | tup xs2 =>
        obtain ⟨l1, vs1, its1, rfl, h1, rv1, rs1, z1⟩ := (seq_items I S).2.2 e1 r1
        obtain ⟨l2, vs2, its2, rfl, h2, rv2, rs2, z2⟩ := (seq_items I S).1 e2 r2
        have h : false = b := by simpa [eqP] using h
        subst h
        exact ⟨EqAt.list_tuple h1 h2 hA, RcAt.list_tuple h1 h2 hA, RcNeAt.list_tuple h1 h2 hA⟩
      | lst xs2 =>
        obtain ⟨l1, vs1, its1, rfl, h1, rv1, rs1, z1⟩ := (seq_items I S).2.2 e1 r1
        obtain ⟨l2, vs2, its2, rfl, h2, rv2, rs2, z2⟩ := (seq_items I S).2.1 e2 r2
        obtain ⟨e, k1, k2⟩ := eqL_spec (f := eqP n) (by simpa [eqP] using h)
        have he : ∀ j (j1 : j < its1.size) (j2 : j < its2.size), EqAt A.in1 s its1[j] its2[j] (e j) := fun j j1 j2 => by
          obtain ⟨p1, w1, a1, a2, a3⟩ := vals_at rv1 rs1 j j1
          obtain ⟨p2, w2, c1, c2, c3⟩ := vals_at rv2 rs2 j j2
          exact (ih p1 p2 (e j) w1 w2 _ _ hu1 (k1 j p1 p2 a1 c1) a2 c2 a3 c3).1
        have n1 : its1.size = xs1.length := by have a := rv1.length; have b := rs1.length; simp at a; omega
        have n2 : its2.size = xs2.length := by have a := rv2.length; have b := rs2.length; simp at a; omega
        rw [← n1, ← n2] at k2
        have rc : RcAt A s (.ref l1) (.ref l2) b ∧ RcNeAt A s (.ref l1) (.ref l2) (!b) := by
          by_cases hsz : its1.size = its2.size
          · rw [← hsz, Nat.min_self, beq_self_eq_true, Bool.and_true] at k2
            rw [k2]; exact ⟨RcAt.lists h1 h2 hsz hA he, RcNeAt.lists h1 h2 hsz hA he⟩
          · have : b = false := by rw [k2]; simp [hsz]
            subst this
            exact ⟨RcAt.lists_lengths h1 h2 (by simpa using hsz) hA, RcNeAt.lists_lengths h1 h2 (by simpa using hsz) hA⟩
        refine ⟨?_, rc.1, rc.2⟩
        have rc := rc.1
        by_cases hl : l1 = l2
        · subst hl
          -- the very object: equal, as its items are
          have hb : b = true := same (RelV.inj r1 r2)
          subst hb
          exact EqAt.same _
        · exact EqAt.of_refs hl rc
      | scr xs2 =>
        obtain ⟨l1, vs1, its1, rfl, h1, rv1, rs1, z1⟩ := (seq_items I S).2.2 e1 r1
        obtain ⟨l2, vs2, its2, rfl, h2, rv2, rs2, z2⟩ := (seq_items I S).2.2 e2 r2
        obtain ⟨e, k1, k2⟩ := eqL_spec (f := eqP n) (by simpa [eqP] using h)
        have he : ∀ j (j1 : j < its1.size) (j2 : j < its2.size), EqAt A.in1 s its1[j] its2[j] (e j) := fun j j1 j2 => by
          obtain ⟨p1, w1, a1, a2, a3⟩ := vals_at rv1 rs1 j j1
          obtain ⟨p2, w2, c1, c2, c3⟩ := vals_at rv2 rs2 j j2
          exact (ih p1 p2 (e j) w1 w2 _ _ hu1 (k1 j p1 p2 a1 c1) a2 c2 a3 c3).1
        have n1 : its1.size = xs1.length := by have a := rv1.length; have b := rs1.length; simp at a; omega
        have n2 : its2.size = xs2.length := by have a := rv2.length; have b := rs2.length; simp at a; omega
        rw [← n1, ← n2] at k2
        have rc : RcAt A s (.ref l1) (.ref l2) b ∧ RcNeAt A s (.ref l1) (.ref l2) (!b) := by
          by_cases hsz : its1.size = its2.size
          · rw [← hsz, Nat.min_self, beq_self_eq_true, Bool.and_true] at k2
            rw [k2]; exact ⟨RcAt.lists h1 h2 hsz hA he, RcNeAt.lists h1 h2 hsz hA he⟩
          · have : b = false := by rw [k2]; simp [hsz]
            subst this
            exact ⟨RcAt.lists_lengths h1 h2 (by simpa using hsz) hA, RcNeAt.lists_lengths h1 h2 (by simpa using hsz) hA⟩
        refine ⟨?_, rc.1, rc.2⟩
        have rc := rc.1
        by_cases hl : l1 = l2
        · subst hl
          -- the very object: equal, as its items are
          have hb : b = true := same (RelV.inj r1 r2)
          subst hb
          exact EqAt.same _
        · exact EqAt.of_refs hl rc
      | dic _ _ => simp [eqP] at h
      | ref _ => simp [eqP] at h
    | dic _ _ => simp [eqP] at h
    | ref _ => simp [eqP] at h
end
end Pv
/-! Pv, part C: operations on pure values and their rules. -/
namespace Pv
open PySem PySem.Spec PyProof.Rows PySem.SeqAt L2

/-! ### what is wanted behind an answer -/
def Post (T : Txt) (W : Wd) (st : Store) (H : Hp) (z : PV) (Q : VK) : Prop := ∀ W' H', Go W H W' H' → Sim T W' st H' → ∀ w, Rep T.K W' z w → Q w H'
section
variable {T : Txt} {W : Wd} {st : Store} {H : Hp} {z : PV} {Q : VK}
theorem Post.here (k : Post T W st H z Q) (S : Sim T W st H) {w : V} (r : Rep T.K W z w) : Q w H := k W H (.refl W H) S w r
theorem Post.later (k : Post T W st H z Q) {W' : Wd} {H' : Hp} (g : Go W H W' H') : Post T W' st H' z Q := fun W2 H2 g2 => k W2 H2 (g.trans g2)
theorem Post.tup {xs : List PV} {vs : List V} (k : Post T W st H (.tup xs) Q) (S : Sim T W st H) (r : Reps T.K W xs vs) : ∀ p, H p = none → Q (.ref p) (upd H p (.tup vs)) := fun p hp => by
  obtain ⟨g, S'⟩ := S.laid hp (.tup vs)
  exact k _ _ g S' _ ⟨p, vs, rfl, SqT.of upd_same, r.up g.le⟩
theorem Post.lst {xs : List PV} {vs : List V} (k : Post T W st H (.lst xs) Q) (S : Sim T W st H) (r : Reps T.K W xs vs) : ∀ p, H p = none → Q (.ref p) (upd H p (.lst vs)) := fun p hp => by
  obtain ⟨g, S'⟩ := S.laid hp (.lst vs)
  exact k _ _ g S' _ ⟨p, vs, rfl, upd_same, r.up g.le⟩
end

/-! ### views -/
/-- a list's items, frozen or a cell's -/
def asL : PV → Store → Option (List PV)
  | .lst xs, _ => some xs
  | .ref n, st => match st[n]? with
    | some (.lst xs) => some xs
    | _ => none
  | _, _ => none
/-- .. to be read -/
def asR : PV → Store → Option (List PV)
  | .scr xs, _ => some xs
  | p, st => asL p st
/-- a list's or a tuple's items -/
def asQ : PV → Store → Option (List PV)
  | .tup xs, _ => some xs
  | p, st => asR p st
def asD : PV → Store → Option (List PV × List PV)
  | .dic ks vs, _ => some (ks, vs)
  | .ref n, st => match st[n]? with
    | some (.dic ks vs) => some (ks, vs)
    | some (.dlk ks vs) => some (ks, vs)
    | _ => none
  | _, _ => none
section
variable {T : Txt} {W : Wd} {st : Store} {H : Hp}
theorem asL_at (S : Sim T W st H) {p : PV} {v : V} (r : Rep T.K W p v) {xs : List PV} (h : asL p st = some xs) : ∃ a vs, v = .ref a ∧ H a = some (.lst vs) ∧ Reps T.K W xs vs := by
  cases p with
  | lst ys =>
    have h : ys = xs := by simpa [asL] using h
    subst h
    obtain ⟨a, vs, e, f, rs⟩ := r
    exact ⟨a, vs, e, S.sub _ _ f, rs⟩
  | ref n =>
    cases hc : st[n]? with
    | none => simp only [asL, hc] at h; cases h
    | some c =>
      simp only [asL, hc] at h
      cases c with
      | lst ys =>
        have h : ys = xs := by simpa using h
        subst h
        obtain ⟨a, e, rfl⟩ := r
        obtain ⟨vs, f, rs⟩ := S.cell n a _ e hc
        exact ⟨a, vs, rfl, f, rs⟩
      | _ => cases h
  | _ => simp [asL] at h
theorem asR_at (S : Sim T W st H) {p : PV} {v : V} (r : Rep T.K W p v) {xs : List PV} (h : asR p st = some xs) : ∃ a vs, v = .ref a ∧ SqL T.K H a vs ∧ Reps T.K W xs vs := by
  cases p with
  | scr ys =>
    have h : ys = xs := by simpa [asR] using h
    subst h
    obtain ⟨a, vs, e, f, rs⟩ := r
    exact ⟨a, vs, e, SqL.up f S.sub, rs⟩
  | lst ys =>
    obtain ⟨a, vs, e, f, rs⟩ := asL_at S r (by simpa [asR] using h)
    exact ⟨a, vs, e, SqL.of f, rs⟩
  | ref n =>
    obtain ⟨a, vs, e, f, rs⟩ := asL_at S r (by simpa [asR] using h)
    exact ⟨a, vs, e, SqL.of f, rs⟩
  | _ => simp [asR, asL] at h
theorem asQ_at (S : Sim T W st H) {p : PV} {v : V} (r : Rep T.K W p v) {xs : List PV} (h : asQ p st = some xs) : ∃ a vs, v = .ref a ∧ (SqL T.K H a vs ∨ SqT T.K H a vs) ∧ Reps T.K W xs vs := by
  cases p with
  | tup ys =>
    have h : ys = xs := by simpa [asQ] using h
    subst h
    obtain ⟨a, vs, e, f, rs⟩ := r
    exact ⟨a, vs, e, .inr (SqT.up f S.sub), rs⟩
  | _ =>
    obtain ⟨a, vs, e, f, rs⟩ := asR_at S r (by simpa [asQ] using h)
    exact ⟨a, vs, e, .inl f, rs⟩
theorem asD_at (S : Sim T W st H) {p : PV} {v : V} (r : Rep T.K W p v) {ks vs : List PV} (h : asD p st = some (ks, vs)) :
    ∃ a kvs, v = .ref a ∧ Rd H a (.dK kvs) ∧ RepK ks (kvs.map (·.1)) ∧ Reps T.K W vs (kvs.map (·.2)) := by
  cases p with
  | dic ks' vs' =>
    have h : ks' = ks ∧ vs' = vs := by simpa [asD] using h
    obtain ⟨rfl, rfl⟩ := h
    obtain ⟨a, kvs, e, f, rk, rs⟩ := r
    exact ⟨a, kvs, e, .inl (S.sub _ _ f), rk, rs⟩
  | ref n =>
    cases hc : st[n]? with
    | none => simp only [asD, hc] at h; cases h
    | some c =>
      simp only [asD, hc] at h
      obtain ⟨a, e, rfl⟩ := r
      cases c with
      | dic ks' vs' =>
        have h : ks' = ks ∧ vs' = vs := by simpa using h
        obtain ⟨rfl, rfl⟩ := h
        obtain ⟨kvs, f, rk, rs⟩ := S.cell n a _ e hc
        exact ⟨a, kvs, rfl, .inl f, rk, rs⟩
      | dlk ks' vs' =>
        have h : ks' = ks ∧ vs' = vs := by simpa using h
        obtain ⟨rfl, rfl⟩ := h
        obtain ⟨ob, kvs, f, rk, rs⟩ := S.cell n a _ e hc
        exact ⟨a, kvs, rfl, .inr ⟨ob, S.sub _ _ f⟩, rk, rs⟩
      | _ => cases h
  | _ => simp [asD] at h
end

/-! ### two-place operations: no new cell, nothing raised -/
def rP2 (T : Txt) (h : PV → PV → Store → Option PV) : R2 := fun v u H Q => ∃ W st p q z, Sim T W st H ∧ Rep T.K W p v ∧ Rep T.K W q u ∧ h p q st = some z ∧ Post T W st H z Q
def rP1 (T : Txt) (h : PV → Store → Option PV) : V → Hp → VK → Prop := fun v H Q => ∃ W st p z, Sim T W st H ∧ Rep T.K W p v ∧ h p st = some z ∧ Post T W st H z Q

def addP (p q : PV) (st : Store) : Option PV :=
  match p, q with
  | .int i, .int j => some (.int (i + j))
  | .str a, .str b => if a.length + b.length ≤ sizeLine then some (.str (a ++ b)) else none
  | .tup xs, .tup ys => if xs.length + ys.length ≤ sizeLine then some (.tup (xs ++ ys)) else none
  | p, q => match asL p st, asL q st with
    | some xs, some ys => if xs.length + ys.length ≤ sizeLine then some (.lst (xs ++ ys)) else none
    | _, _ => none
def subP (p q : PV) (_ : Store) : Option PV := match p, q with
  | .int i, .int j => some (.int (i - j))
  | _, _ => none
def mulP (p q : PV) (_ : Store) : Option PV := match p, q with
  | .int i, .int j => if (-(2 ^ 64) < i ∧ i < 2 ^ 64) ∨ (-(2 ^ 64) < j ∧ j < 2 ^ 64) then some (.int (i * j)) else none
  | .str [c], .int j => if 2 ≤ j ∧ j ≤ 1000 then some (.str (List.replicate j.toNat c)) else none
  | _, _ => none
def divP (p q : PV) (_ : Store) : Option PV := match p, q with
  | .int i, .int j => if 0 < j ∧ j < 1073741824 then some (.int (i / j)) else none
  | _, _ => none
def modP (p q : PV) (_ : Store) : Option PV := match p, q with
  | .int i, .int j => if 0 < j then some (.int (i % j)) else none
  | _, _ => none
def powP (p q : PV) (_ : Store) : Option PV := match p, q with
  | .int i, .int j => if 0 ≤ j ∧ j ≤ 1000000 ∧ i.natAbs < 2 ^ 64 then some (.int (i ^ j.toNat)) else none
  | _, _ => none
def negP (p : PV) (_ : Store) : Option PV := match p with
  | .int i => some (.int (-i))
  | _ => none

theorem str_app (a b : List Nat) : ((⟨a.toArray⟩ : Str) ++ ⟨b.toArray⟩) = ⟨(a ++ b).toArray⟩ := by
  show (⟨a.toArray ++ b.toArray⟩ : Str) = _
  simp
theorem str_len (a : List Nat) : (⟨a.toArray⟩ : Str).length = a.length := by
  show a.toArray.size = _
  simp

section
variable {X : Cx} {T : Txt}
theorem opAdd (hK : T.K = X.K) : OpR X (binaryOp .Add) (rP2 T addP) := by
  obtain ⟨K, cl⟩ := T
  have hK : K = X.K := hK
  subst hK
  rintro pins s σ H x y v u Q I rx ry ⟨W, st, p, q, z, S, rp, rq, h, k⟩
  have lists : ∀ {xs ys : List PV}, asL p st = some xs → asL q st = some ys → xs.length + ys.length ≤ sizeLine → z = .lst (xs ++ ys) → wpAny (model X.prog X.w) X.A (binaryOp .Add v u) (EP X pins σ Q) X.xe s := fun {xs ys} h1 h2 hz e => by
    subst e
    obtain ⟨a, vs, rfl, e1, r1⟩ := asL_at S rp h1
    obtain ⟨b, us, rfl, e2, r2⟩ := asL_at S rq h2
    exact op_cat pins s σ H _ _ v u Q I rx ry ⟨a, b, vs, us, rfl, rfl, e1, e2, by rw [Reps.length r1, Reps.length r2]; exact hz, k.lst S (r1.app r2)⟩
  have rest : (match asL p st, asL q st with | some xs, some ys => if xs.length + ys.length ≤ sizeLine then some (PV.lst (xs ++ ys)) else none | _, _ => none) = some z → wpAny (model X.prog X.w) X.A (binaryOp .Add v u) (EP X pins σ Q) X.xe s := fun h => by
    cases h1 : asL p st with
    | none => rw [h1] at h; cases h
    | some xs =>
      cases h2 : asL q st with
      | none => rw [h1, h2] at h; cases h
      | some ys =>
        rw [h1, h2] at h
        have h : (if xs.length + ys.length ≤ sizeLine then some (PV.lst (xs ++ ys)) else none) = some z := h
        by_cases hz : xs.length + ys.length ≤ sizeLine
        · rw [if_pos hz] at h
          exact lists h1 h2 hz (Option.some.inj h).symm
        · rw [if_neg hz] at h; cases h
  cases p with
  | int i =>
    cases q with
    | int j =>
      have h : PV.int (i + j) = z := by simpa [addP] using h
      subst h; cases rp; cases rq
      exact op_add pins s σ H _ _ v u Q I rx ry ⟨i, j, rfl, rfl, k.here S rfl⟩
    | _ => simp [addP, asL] at h
  | str a =>
    cases q with
    | str b =>
      unfold addP at h
      by_cases hz : a.length + b.length ≤ sizeLine
      · have h : PV.str (a ++ b) = z := by simpa [hz] using h
        subst h
        obtain ⟨rfl, _⟩ := rp; obtain ⟨rfl, _⟩ := rq
        refine op_add_str pins s σ H _ _ v u Q I rx ry ⟨_, _, rfl, rfl, by rw [str_len, str_len]; exact hz, k.here S ?_⟩
        rw [str_app]
        exact ⟨rfl, by rw [List.length_append]; exact hz⟩
      · simp [hz] at h
    | _ => simp [addP, asL] at h
  | tup xs =>
    cases q with
    | tup ys =>
      unfold addP at h
      by_cases hz : xs.length + ys.length ≤ sizeLine
      · have h : PV.tup (xs ++ ys) = z := by simpa [hz] using h
        subst h
        obtain ⟨a, vs, rfl, q1, r1⟩ := rp
        obtain ⟨b, us, rfl, q2, r2⟩ := rq
        refine op_catA pins s σ H _ _ v u Q I rx ry ⟨a, b, vs, us, rfl, rfl, SqT.up q1 S.sub, SqT.up q2 S.sub, by rw [Reps.length r1, Reps.length r2]; exact hz, fun e => ?_, fun e1 e2 => ?_, fun _ _ => k.tup S (r1.app r2)⟩
        · subst e
          have : xs = [] := by have := Reps.length r1; simp at this; exact List.length_eq_zero_iff.mp this.symm
          subst this
          exact k.here S ⟨b, us, rfl, q2, r2⟩
        · subst e2
          have : ys = [] := by have := Reps.length r2; simp at this; exact List.length_eq_zero_iff.mp this.symm
          subst this
          exact k.here S ⟨a, vs, rfl, q1, by simpa using r1⟩
      · simp [hz] at h
    | _ => simp [addP, asL] at h
  | lst xs => exact rest (by cases q <;> simpa [addP] using h)
  | ref n => exact rest (by cases q <;> simpa [addP] using h)
  | _ => cases q <;> simp [addP, asL] at h

theorem opSub (hK : T.K = X.K) : OpR X (binaryOp .Sub) (rP2 T subP) := by
  rintro pins s σ H x y v u Q I rx ry ⟨W, st, p, q, z, S, rp, rq, h, k⟩
  cases p <;> cases q <;> simp [subP] at h
  subst h; cases rp; cases rq
  exact op_sub pins s σ H _ _ v u Q I rx ry ⟨_, _, rfl, rfl, k.here S rfl⟩
theorem rep_fold (c : Nat) : ∀ (k : Nat) (acc : Array Nat), (List.replicate k #[c]).foldl (· ++ ·) acc = acc ++ (List.replicate k c).toArray
  | 0, acc => by simp
  | k + 1, acc => by
    rw [List.replicate_succ, List.foldl_cons, rep_fold c k, List.replicate_succ]
    apply Array.ext'
    simp
theorem op_mul_str {X : Cx} : OpR X (binaryOp .Mult) (fun x y H Q => ∃ (c : Nat) (n : Int), x = .str ⟨#[c]⟩ ∧ y = .int n ∧ 2 ≤ n ∧ n ≤ 1000 ∧ Q (.str ⟨(List.replicate n.toNat c).toArray⟩) H) := by
  intro pins s σ H x y v u Q I rx ry h
  obtain ⟨c, n, rfl, rfl, h2, hm, q⟩ := h
  obtain ⟨t, rfl⟩ := rx
  obtain ⟨t', rfl⟩ := ry
  have e1 : (⟨#[c]⟩ : Str).length = 1 := rfl
  refine PySem.P.mul_str (by simp; omega) (fun _ _ => ?_) (fun _ _ => ?_) ?_
  · rw [e1]
    have : (1 : Int) ≤ (2 ^ 63 - 1) / n := Int.le_ediv_of_mul_le (by omega) (by omega)
    omega
  · rw [e1]
    unfold Builtin.Str.tooLong
    simp [sizeLine_eq]
    omega
  · rw [if_neg (by omega), if_neg (by simp [e1]; omega), rep_fold]
    refine ⟨?_, .str _, H, I.tok _, ⟨s.toks, by simp⟩, q⟩
    simp [Str.length, sizeLine_eq]
    omega
theorem opMul (hK : T.K = X.K) : OpR X (binaryOp .Mult) (rP2 T mulP) := by
  rintro pins s σ H x y v u Q I rx ry ⟨W, st, p, q, z, S, rp, rq, h, k⟩
  cases p with
  | int i =>
    cases q with
    | int j =>
      unfold mulP at h
      by_cases hc : (-(2 ^ 64) < i ∧ i < 2 ^ 64) ∨ (-(2 ^ 64) < j ∧ j < 2 ^ 64)
      · have h : PV.int (i * j) = z := by simpa only [if_pos hc, Option.some.injEq] using h
        subst h; cases rp; cases rq
        exact op_mul pins s σ H _ _ v u Q I rx ry ⟨i, j, rfl, rfl, hc, k.here S rfl⟩
      · simp only [if_neg hc] at h; cases h
    | _ => simp [mulP] at h
  | str a =>
    cases a with
    | nil => simp [mulP] at h
    | cons c r =>
      cases r with
      | cons _ _ => simp [mulP] at h
      | nil =>
        cases q with
        | int j =>
          unfold mulP at h
          by_cases hc : 2 ≤ j ∧ j ≤ 1000
          · have h : PV.str (List.replicate j.toNat c) = z := by simpa only [if_pos hc, Option.some.injEq] using h
            subst h
            obtain ⟨rfl, _⟩ := rp; cases rq
            exact op_mul_str pins s σ H _ _ v u Q I rx ry ⟨c, j, rfl, rfl, hc.1, hc.2, k.here S ⟨rfl, by rw [List.length_replicate, sizeLine_eq]; omega⟩⟩
          · simp only [if_neg hc] at h; cases h
        | _ => simp [mulP] at h
  | _ => simp [mulP] at h
theorem opDiv (hK : T.K = X.K) : OpR X (binaryOp .FloorDiv) (rP2 T divP) := by
  rintro pins s σ H x y v u Q I rx ry ⟨W, st, p, q, z, S, rp, rq, h, k⟩
  cases p with
  | int i =>
    cases q with
    | int j =>
      unfold divP at h
      by_cases hc : 0 < j ∧ j < 1073741824
      · have h : PV.int (i / j) = z := by simpa only [if_pos hc, Option.some.injEq] using h
        subst h; cases rp; cases rq
        exact op_fdiv pins s σ H _ _ v u Q I rx ry ⟨i, j, rfl, rfl, hc, k.here S rfl⟩
      · simp only [if_neg hc] at h; cases h
    | _ => simp [divP] at h
  | _ => simp [divP] at h
theorem opMod (hK : T.K = X.K) : OpR X (binaryOp .Mod) (rP2 T modP) := by
  rintro pins s σ H x y v u Q I rx ry ⟨W, st, p, q, z, S, rp, rq, h, k⟩
  cases p with
  | int i =>
    cases q with
    | int j =>
      unfold modP at h
      by_cases hc : 0 < j
      · have h : PV.int (i % j) = z := by simpa only [if_pos hc, Option.some.injEq] using h
        subst h; cases rp; cases rq
        exact op_mod pins s σ H _ _ v u Q I rx ry ⟨i, j, rfl, rfl, hc, k.here S rfl⟩
      · simp only [if_neg hc] at h; cases h
    | _ => simp [modP] at h
  | _ => simp [modP] at h
theorem opPow (hK : T.K = X.K) : OpR X (binaryOp .Pow) (rP2 T powP) := by
  rintro pins s σ H x y v u Q I rx ry ⟨W, st, p, q, z, S, rp, rq, h, k⟩
  cases p with
  | int i =>
    cases q with
    | int j =>
      unfold powP at h
      by_cases hc : 0 ≤ j ∧ j ≤ 1000000 ∧ i.natAbs < 2 ^ 64
      · have h : PV.int (i ^ j.toNat) = z := by simpa only [if_pos hc, Option.some.injEq] using h
        subst h; cases rp; cases rq
        exact op_pow pins s σ H _ _ v u Q I rx ry ⟨i, j, rfl, rfl, hc, k.here S rfl⟩
      · simp only [if_neg hc] at h; cases h
    | _ => simp [powP] at h
  | _ => simp [powP] at h
theorem unNeg (hK : T.K = X.K) : UnR X (unaryOp .USub) (rP1 T negP) := by
  rintro pins s σ H x v Q I rx ⟨W, st, p, z, S, rp, h, k⟩
  cases p <;> simp [negP] at h
  subst h; cases rp
  exact un_neg pins s σ H _ v Q I rx ⟨_, rfl, k.here S rfl⟩

/-! ### comparisons -/
/-- a list in a cell, seen as a value; the store where it is frozen -/
def dreP (p : PV) (st : Store) : PV := match p with
  | .ref n => match st[n]? with
    | some (.lst xs) => .lst xs
    | _ => p
  | _ => p
def dreS (p : PV) (st : Store) : Store := match p with
  | .ref n => match st[n]? with
    | some (.lst _) => st.set n .dead
    | _ => st
  | _ => st
theorem dre_at {W : Wd} {st : Store} {H : Hp} (S : Sim T W st H) {p : PV} {v : V} (r : Rep T.K W p v) : ∃ W', W.Le W' ∧ Sim T W' (dreS p st) H ∧ Rep T.K W' (dreP p st) v := by
  cases p with
  | ref n =>
    cases hc : st[n]? with
    | none => exact ⟨W, .refl W, by simp only [dreS, hc]; exact S, by simp only [dreP, hc]; exact r⟩
    | some c =>
      cases c with
      | lst xs =>
        obtain ⟨a, e, rfl⟩ := r
        obtain ⟨vs, f, rs⟩ := S.cell n a _ e hc
        obtain ⟨g, S'⟩ := S.froze e hc rfl f
        exact ⟨_, g.le, by simp only [dreS, hc]; exact S', by simp only [dreP, hc]; exact ⟨a, vs, rfl, upd_same, rs.up g.le⟩⟩
      | _ => exact ⟨W, .refl W, by simp only [dreS, hc]; exact S, by simp only [dreP, hc]; exact r⟩
  | _ => exact ⟨W, .refl W, S, r⟩
def eqB (p q : PV) (st : Store) : Option Bool := eqP 200 (dreP p st) (dreP q (dreS p st))
def eqC (p q : PV) (st : Store) : Option PV := (eqB p q st).map .bl
def neC (p q : PV) (st : Store) : Option PV := (eqB p q st).map fun b => .bl (!b)
theorem dre2_at {W : Wd} {st : Store} {H : Hp} (S : Sim T W st H) {p q : PV} {v u : V} (r : Rep T.K W p v) (r' : Rep T.K W q u) : ∃ W' st', Sim T W' st' H ∧ Rep T.K W' (dreP p st) v ∧ Rep T.K W' (dreP q (dreS p st)) u := by
  obtain ⟨W1, l1, S1, r1⟩ := dre_at S r
  obtain ⟨W2, l2, S2, r2⟩ := dre_at S1 (r'.up l1)
  exact ⟨W2, _, S2, r1.up l2, r2⟩
theorem opEq (hK : T.K = X.K) (hu : X.A.units + 200 < cLine) : OpR X (compareOp .Eq) (rP2 T eqC) := by
  obtain ⟨K, cl⟩ := T
  have hK : K = X.K := hK
  subst hK
  rintro pins s σ H x y v u Q I rx ry ⟨W, st, p, q, z, S, rp, rq, h, k⟩
  obtain ⟨b, e, rfl⟩ := Option.map_eq_some_iff.mp h
  obtain ⟨W2, st2, S2, rp2, rq2⟩ := dre2_at S rp rq
  exact (eq_at I S2.sub 200 X.A _ _ b x y v u hu e rp2 rq2 rx ry).2.1 X.prog X.w _ _ ⟨.bl b, H, I, rfl, k.here S rfl⟩
theorem opNe (hK : T.K = X.K) (hu : X.A.units + 200 < cLine) : OpR X (compareOp .NotEq) (rP2 T neC) := by
  obtain ⟨K, cl⟩ := T
  have hK : K = X.K := hK
  subst hK
  rintro pins s σ H x y v u Q I rx ry ⟨W, st, p, q, z, S, rp, rq, h, k⟩
  obtain ⟨b, e, rfl⟩ := Option.map_eq_some_iff.mp h
  obtain ⟨W2, st2, S2, rp2, rq2⟩ := dre2_at S rp rq
  exact (eq_at I S2.sub 200 X.A _ _ b x y v u hu e rp2 rq2 rx ry).2.2 X.prog X.w _ _ ⟨.bl (!b), H, I, rfl, k.here S rfl⟩

def ltN : List Nat → List Nat → Bool
  | [], [] => false
  | [], _ :: _ => true
  | _ :: _, [] => false
  | x :: xs, y :: ys => if x < y then true else if y < x then false else ltN xs ys
theorem ltN_eq : ∀ a b : List Nat, ltN a b = decide (a < b)
  | [], [] => by simp [ltN]
  | [], y :: ys => by simp [ltN]
  | x :: xs, [] => by simp [ltN]
  | x :: xs, y :: ys => by
    unfold ltN
    rw [ltN_eq xs ys]
    by_cases h1 : x < y
    · rw [if_pos h1]
      exact (decide_eq_true (List.cons_lt_cons_iff.mpr (.inl h1))).symm
    · rw [if_neg h1]
      by_cases h2 : y < x
      · rw [if_pos h2]
        exact (decide_eq_false fun z => (List.cons_lt_cons_iff.mp z).elim (fun a => h1 a) fun a => by omega).symm
      · rw [if_neg h2]
        have e : x = y := by omega
        subst e
        exact decide_eq_decide.mpr ⟨fun a => List.cons_lt_cons_iff.mpr (.inr ⟨rfl, a⟩), fun a => (List.cons_lt_cons_iff.mp a).elim (fun z => absurd z h1) fun z => z.2⟩
def ltC (p q : PV) (_ : Store) : Option PV := match p, q with
  | .int i, .int j => some (.bl (decide (i < j)))
  | .str a, .str b => some (.bl (ltN a b))
  | _, _ => none
def leC (p q : PV) (_ : Store) : Option PV := match p, q with
  | .int i, .int j => some (.bl (decide (i ≤ j)))
  | _, _ => none
def gtC (p q : PV) (_ : Store) : Option PV := match p, q with
  | .int i, .int j => some (.bl (decide (j < i)))
  | _, _ => none
def geC (p q : PV) (_ : Store) : Option PV := match p, q with
  | .int i, .int j => some (.bl (decide (j ≤ i)))
  | _, _ => none
theorem opLt (hK : T.K = X.K) : OpR X (compareOp .Lt) (rP2 T ltC) := by
  rintro pins s σ H x y v u Q I rx ry ⟨W, st, p, q, z, S, rp, rq, h, k⟩
  cases p with
  | int i =>
    cases q <;> simp [ltC] at h
    subst h; cases rp; cases rq
    exact op_lt pins s σ H _ _ v u Q I rx ry ⟨_, _, rfl, rfl, k.here S rfl⟩
  | str a =>
    cases q <;> simp [ltC] at h
    subst h
    obtain ⟨rfl, _⟩ := rp; obtain ⟨rfl, _⟩ := rq
    refine op_lt_str pins s σ H _ _ v u Q I rx ry ⟨_, _, rfl, rfl, k.here S ?_⟩
    rw [ltN_eq]
    exact rfl
  | _ => simp [ltC] at h
theorem opLe (hK : T.K = X.K) : OpR X (compareOp .LtE) (rP2 T leC) := by
  rintro pins s σ H x y v u Q I rx ry ⟨W, st, p, q, z, S, rp, rq, h, k⟩
  cases p <;> cases q <;> simp [leC] at h
  subst h; cases rp; cases rq
  exact op_le pins s σ H _ _ v u Q I rx ry ⟨_, _, rfl, rfl, k.here S rfl⟩
theorem opGt (hK : T.K = X.K) : OpR X (compareOp .Gt) (rP2 T gtC) := by
  rintro pins s σ H x y v u Q I rx ry ⟨W, st, p, q, z, S, rp, rq, h, k⟩
  cases p <;> cases q <;> simp [gtC] at h
  subst h; cases rp; cases rq
  exact op_gt pins s σ H _ _ v u Q I rx ry ⟨_, _, rfl, rfl, k.here S rfl⟩
theorem opGe (hK : T.K = X.K) : OpR X (compareOp .GtE) (rP2 T geC) := by
  rintro pins s σ H x y v u Q I rx ry ⟨W, st, p, q, z, S, rp, rq, h, k⟩
  cases p <;> cases q <;> simp [geC] at h
  subst h; cases rp; cases rq
  exact op_ge pins s σ H _ _ v u Q I rx ry ⟨_, _, rfl, rfl, k.here S rfl⟩
/-- is None -/
def isNon : PV → Bool
  | .non => true
  | _ => false
theorem rep_non {K : PySem.W.Frag} {W : Wd} {p : PV} {v : V} (r : Rep K W p v) : isNon p = decide (v = .non) := by
  cases p with
  | non => cases r; rfl
  | bl _ => cases r; rfl
  | int _ => cases r; rfl
  | str _ => obtain ⟨rfl, _⟩ := r; rfl
  | tup _ => obtain ⟨_, _, rfl, _⟩ := r; rfl
  | lst _ => obtain ⟨_, _, rfl, _⟩ := r; rfl
  | scr _ => obtain ⟨_, _, rfl, _⟩ := r; rfl
  | dic _ _ => obtain ⟨_, _, rfl, _⟩ := r; rfl
  | ref _ => obtain ⟨_, _, rfl⟩ := r; rfl
def isC (p q : PV) (_ : Store) : Option PV := match q with
  | .non => some (.bl (isNon p))
  | _ => none
def isntC (p q : PV) (_ : Store) : Option PV := match q with
  | .non => some (.bl (!isNon p))
  | _ => none
theorem opIs (hK : T.K = X.K) : OpR X (compareOp .Is) (rP2 T isC) := by
  rintro pins s σ H x y v u Q I rx ry ⟨W, st, p, q, z, S, rp, rq, h, k⟩
  cases q <;> simp [isC] at h
  subst h; cases rq
  exact op_isN pins s σ H _ _ v u Q I rx ry ⟨rfl, k.here S (by rw [rep_non rp]; exact rfl)⟩
theorem opIsnt (hK : T.K = X.K) : OpR X (compareOp .IsNot) (rP2 T isntC) := by
  rintro pins s σ H x y v u Q I rx ry ⟨W, st, p, q, z, S, rp, rq, h, k⟩
  cases q <;> simp [isntC] at h
  subst h; cases rq
  exact op_notN pins s σ H _ _ v u Q I rx ry ⟨rfl, k.here S (by rw [rep_non rp]; exact rfl)⟩
end
end Pv
/-! Pv, part D: membership, subscripts, slices, truth, built-ins, methods. -/
namespace Pv
open PySem PySem.Spec PyProof.Rows PySem.SeqAt L2

/-! ### flat values, keys -/
def flat : PV → Bool
  | .non => true | .bl _ => true | .int _ => true | .str _ => true | _ => false
def eqF : PV → PV → Bool
  | .non, .non => true
  | .bl a, .bl b => a == b
  | .bl a, .int b => (if a then 1 else 0) == b
  | .int a, .bl b => a == (if b then 1 else 0)
  | .int a, .int b => a == b
  | .str a, .str b => a == b
  | _, _ => false
theorem flat_V {K : PySem.W.Frag} {W : Wd} {p : PV} {v : V} (r : Rep K W p v) (h : flat p = true) : flatV v = true := by
  cases p with
  | non => cases r; rfl
  | bl _ => cases r; rfl
  | int _ => cases r; rfl
  | str _ => obtain ⟨rfl, _⟩ := r; rfl
  | _ => cases h
theorem eqF_V {K : PySem.W.Frag} {W : Wd} {p q : PV} {v u : V} (r : Rep K W p v) (r' : Rep K W q u) (h : flat p = true) (h' : flat q = true) : eqV v u = eqF p q := by
  cases p with
  | non => cases q <;> first | (cases r; cases r'; rfl) | (cases r; obtain ⟨rfl, _⟩ := r'; rfl) | (cases h'; done)
  | bl _ => cases q <;> first | (cases r; cases r'; rfl) | (cases r; obtain ⟨rfl, _⟩ := r'; rfl) | (cases h'; done)
  | int _ => cases q <;> first | (cases r; cases r'; rfl) | (cases r; obtain ⟨rfl, _⟩ := r'; rfl) | (cases h'; done)
  | str _ => cases q <;> first | (obtain ⟨rfl, _⟩ := r; cases r'; rfl) | (obtain ⟨rfl, _⟩ := r; obtain ⟨rfl, _⟩ := r'; exact str_eq_iff _ _) | (cases h'; done)
  | _ => cases h
theorem flats_V {K : PySem.W.Frag} {W : Wd} : ∀ {ps : List PV} {vs : List V}, Reps K W ps vs → ps.all flat = true → vs.all flatV = true
  | [], _, h, _ => by cases h; rfl
  | p :: ps, _, ⟨v, r, e, a, b⟩, h => by
    subst e
    rw [List.all_cons, Bool.and_eq_true] at h
    rw [List.all_cons, flat_V a h.1, flats_V b h.2]; rfl
theorem inV_any {K : PySem.W.Frag} {W : Wd} {q : PV} {u : V} (r' : Rep K W q u) (h' : flat q = true) : ∀ {ps : List PV} {vs : List V}, Reps K W ps vs → ps.all flat = true → inV u vs = ps.any (eqF · q)
  | [], _, h, _ => by cases h; rfl
  | p :: ps, _, ⟨v, r, e, a, b⟩, h => by
    subst e
    rw [List.all_cons, Bool.and_eq_true] at h
    have ih := inV_any r' h' b h.2
    show ((v :: r).any fun y => eqV y u) = _
    rw [List.any_cons, List.any_cons, eqF_V a r' h.1 h', ← ih]
    rfl
def keyOf : PV → Option Key
  | .int i => some (.inl i)
  | .str s => some (.inr ⟨s.toArray⟩)
  | _ => none
def keyEq : PV → PV → Bool
  | .int i, .int j => i == j
  | .str a, .str b => a == b
  | _, _ => false
theorem keyOf_V {K : PySem.W.Frag} {W : Wd} {p : PV} {v : V} {k : Key} (r : Rep K W p v) (h : keyOf p = some k) : v = kV k := by
  cases p with
  | int i => cases h; exact r
  | str s => cases h; exact r.1
  | _ => cases h
theorem repK1_of {K : PySem.W.Frag} {W : Wd} {p : PV} {v : V} {k : Key} (r : Rep K W p v) (h : keyOf p = some k) : RepK1 p k := by
  cases p with
  | int i => cases h; rfl
  | str s => cases h; exact ⟨rfl, r.2⟩
  | _ => cases h
theorem rep_of_key {K : PySem.W.Frag} {W : Wd} {p : PV} {k : Key} (h : RepK1 p k) : Rep K W p (kV k) := by
  cases p with
  | int i => cases h; rfl
  | str s => obtain ⟨rfl, hz⟩ := h; exact ⟨rfl, hz⟩
  | _ => cases h
theorem keyEq_iff {p q : PV} {k j : Key} (h : RepK1 p k) (h' : RepK1 q j) : keyEq p q = decide (k = j) := by
  cases p with
  | int i =>
    cases h
    cases q with
    | int j => cases h'; rw [Bool.eq_iff_iff]; simp [keyEq]
    | str s => obtain ⟨rfl, _⟩ := h'; simp [keyEq]
    | _ => cases h'
  | str i =>
    obtain ⟨rfl, _⟩ := h
    cases q with
    | int j => cases h'; simp [keyEq]
    | str s => obtain ⟨rfl, _⟩ := h'; rw [Bool.eq_iff_iff]; simp [keyEq]
    | _ => cases h'
  | _ => cases h
def lookD (k : PV) : List PV → List PV → Option PV
  | k' :: ks, v :: vs => if keyEq k' k then some v else lookD k ks vs
  | _, _ => none
def repD (k v : PV) : List PV → List PV → List PV
  | k' :: ks, v' :: vs => (if keyEq k' k then v else v') :: repD k v ks vs
  | _, _ => []
def hasD (k : PV) (ks : List PV) : Bool := ks.any (keyEq · k)
def putDk (k : PV) (ks : List PV) : List PV := if hasD k ks then ks else ks ++ [k]
def putDv (k v : PV) (ks vs : List PV) : List PV := if hasD k ks then repD k v ks vs else vs ++ [v]
theorem lookD_at {K : PySem.W.Frag} {W : Wd} {p : PV} {k : Key} (hk : RepK1 p k) : ∀ {ks vs : List PV} {kvs : List (Key × V)}, RepK ks (kvs.map (·.1)) → Reps K W vs (kvs.map (·.2)) →
    (lookD p ks vs = none ∧ valV kvs k = none) ∨ ∃ z u, lookD p ks vs = some z ∧ valV kvs k = some u ∧ Rep K W z u
  | [], vs, [], _, _ => .inl ⟨by cases vs <;> rfl, rfl⟩
  | [], _, _ :: _, h, _ => by cases h
  | _ :: _, _, [], ⟨_, _, e, _⟩, _ => by cases e
  | k' :: ks, [], _ :: _, _, h => by cases h
  | k' :: ks, v' :: vs, (j, u) :: r, ⟨j', r', e, a, b⟩, ⟨u', s', e', c, d⟩ => by
    cases e; cases e'
    have q := keyEq_iff a hk
    by_cases h : j = k
    · right
      refine ⟨v', u, ?_, valV_pos (p := (j, u)) h, c⟩
      unfold lookD
      rw [q, decide_eq_true h, if_pos rfl]
    · have h1 : lookD p (k' :: ks) (v' :: vs) = lookD p ks vs := by
        show (if keyEq k' p = true then some v' else lookD p ks vs) = _
        rw [q, decide_eq_false h, if_neg Bool.false_ne_true]
      rw [h1, valV_neg (p := (j, u)) h]
      exact lookD_at hk b d
theorem hasD_at {p : PV} {k : Key} (hk : RepK1 p k) : ∀ {ks : List PV} {kvs : List (Key × V)}, RepK ks (kvs.map (·.1)) → (kvs.any fun kv => decide (kv.1 = k)) = hasD p ks
  | [], [], _ => rfl
  | [], _ :: _, h => by cases h
  | _ :: _, [], ⟨_, _, e, _⟩ => by cases e
  | k' :: ks, (j, u) :: r, ⟨j', r', e, a, b⟩ => by
    cases e
    have ih := hasD_at hk b
    unfold hasD at ih ⊢
    rw [List.any_cons, List.any_cons, keyEq_iff a hk, ih]
theorem repD_at {K : PySem.W.Frag} {W : Wd} {p z : PV} {k : Key} {u : V} (hk : RepK1 p k) (rz : Rep K W z u) : ∀ {ks vs : List PV} {kvs : List (Key × V)}, RepK ks (kvs.map (·.1)) → Reps K W vs (kvs.map (·.2)) →
    Reps K W (repD p z ks vs) ((kvs.map fun kv => if kv.1 = k then (kv.1, u) else kv).map (·.2))
  | [], vs, [], _, _ => by cases vs <;> rfl
  | [], _, _ :: _, h, _ => by cases h
  | _ :: _, _, [], ⟨_, _, e, _⟩, _ => by cases e
  | k' :: ks, [], _ :: _, _, h => by cases h
  | k' :: ks, v' :: vs, (j, w) :: r, ⟨j', r', e, a, b⟩, ⟨u', s', e', c, d⟩ => by
    cases e; cases e'
    have q := keyEq_iff a hk
    have ih := repD_at hk rz b d
    refine ⟨_, _, rfl, ?_, ih⟩
    show Rep K W (if keyEq k' p = true then z else v') (if j = k then (j, u) else (j, w)).2
    rw [q]
    by_cases h : j = k
    · rw [decide_eq_true h, if_pos rfl, if_pos h]; exact rz
    · rw [decide_eq_false h, if_neg Bool.false_ne_true, if_neg h]; exact c
theorem RepK.app : ∀ {ks js : List PV} {a b : List Key}, RepK ks a → RepK js b → RepK (ks ++ js) (a ++ b)
  | [], _, _, _, h, s => by cases h; exact s
  | _ :: _, _, _, _, ⟨v, r, e, h, t⟩, s => by subst e; exact ⟨v, _, rfl, h, RepK.app t s⟩
theorem putD_at {K : PySem.W.Frag} {W : Wd} {p z : PV} {k : Key} {u : V} (hk : RepK1 p k) (rz : Rep K W z u) {ks vs : List PV} {kvs : List (Key × V)} (h1 : RepK ks (kvs.map (·.1))) (h2 : Reps K W vs (kvs.map (·.2))) :
    RepK (putDk p ks) ((putK kvs k u).map (·.1)) ∧ Reps K W (putDv p z ks vs) ((putK kvs k u).map (·.2)) := by
  have hh := hasD_at hk h1
  unfold putDk putDv putK
  cases hc : hasD p ks with
  | true =>
    rw [hh, hc, if_pos rfl, if_pos rfl, if_pos rfl]
    refine ⟨?_, repD_at hk rz h1 h2⟩
    have : ((kvs.map fun kv => if kv.1 = k then (kv.1, u) else kv).map (·.1)) = kvs.map (·.1) := by
      rw [List.map_map]
      refine List.map_congr_left fun x _ => ?_
      show (if x.1 = k then (x.1, u) else x).1 = x.1
      split <;> rfl
    rw [this]; exact h1
  | false =>
    rw [hh, hc, if_neg Bool.false_ne_true, if_neg Bool.false_ne_true, if_neg Bool.false_ne_true]
    rw [List.map_append, List.map_append]
    exact ⟨h1.app ⟨k, [], rfl, hk, rfl⟩, h2.app ⟨u, [], rfl, rz, rfl⟩⟩

/-! ### in, not in -/
def inB (p q : PV) (st : Store) : Option Bool :=
  match q with
  | .str b => match p with
    | .str [c] => some (b.contains c)
    | _ => none
  | q => match asQ q st with
    | some xs => if flat p && xs.all flat then some (xs.any (eqF · p)) else none
    | none => match asD q st with
      | some (ks, _) => (keyOf p).map fun _ => hasD p ks
      | none => none
def inC (p q : PV) (st : Store) : Option PV := (inB p q st).map .bl
def ninC (p q : PV) (st : Store) : Option PV := (inB p q st).map fun b => .bl (!b)
theorem opIn_core {X : Cx} {T : Txt} (hK : T.K = X.K) (hu : X.A.units + 1 < cLine) (neg : Bool) : OpR X (compareOp (if neg then .NotIn else .In)) (rP2 T fun p q st => (inB p q st).map fun b => .bl (if neg then !b else b)) := by
  obtain ⟨K, cl⟩ := T
  have hK : K = X.K := hK
  subst hK
  rintro pins s σ H x y v u Q I rx ry ⟨W, st, p, q, z, S, rp, rq, h, k⟩
  obtain ⟨b, e, rfl⟩ := Option.map_eq_some_iff.mp h
  have seqs : ∀ xs, asQ q st = some xs → (flat p && xs.all flat) = true → xs.any (eqF · p) = b → wpAny (model X.prog X.w) X.A (compareOp (if neg then .NotIn else .In) v u) (EP X pins σ Q) X.xe s := fun xs h1 h2 h3 => by
    rw [Bool.and_eq_true] at h2
    obtain ⟨a, vs, rfl, e1, r1⟩ := asQ_at S rq h1
    have e2 := inV_any rp h2.1 r1 h2.2
    rw [h3] at e2
    cases neg with
    | true => exact op_notIn_seq pins s σ H _ _ v u Q I rx ry ⟨a, vs, rfl, e1, flat_V rp h2.1, flats_V r1 h2.2, k.here S (by rw [e2]; exact rfl)⟩
    | false => exact op_in_seq pins s σ H _ _ v u Q I rx ry ⟨a, vs, rfl, e1, flat_V rp h2.1, flats_V r1 h2.2, k.here S (by rw [e2]; exact rfl)⟩
  have dicts : ∀ ks vs, asD q st = some (ks, vs) → (keyOf p).map (fun _ => hasD p ks) = some b → wpAny (model X.prog X.w) X.A (compareOp (if neg then .NotIn else .In) v u) (EP X pins σ Q) X.xe s := fun ks vs h1 h2 => by
    obtain ⟨ky, hk, hb⟩ := Option.map_eq_some_iff.mp h2
    obtain ⟨a, kvs, rfl, e1, r1, r2⟩ := asD_at S rq h1
    cases (show u = Value.ref a from ry)
    have hk1 := repK1_of rp hk
    have hv := keyOf_V rp hk
    have g : DGet H a x (valV kvs ky) := .inl ⟨kvs, ky, e1, hv, rfl⟩
    have hh := hasD_at hk1 r1
    rw [valV_any, hb] at hh
    cases neg with
    | true => exact d_notIn hu I g rx fun s3 I3 => ⟨.bl (!(valV kvs ky).isSome), H, I3, rfl, k.here S (by rw [hh]; exact rfl)⟩
    | false => exact d_in hu I g rx fun s3 I3 => ⟨.bl (valV kvs ky).isSome, H, I3, rfl, k.here S (by rw [hh]; exact rfl)⟩
  have other : (match asQ q st with
    | some xs => if flat p && xs.all flat then some (xs.any (eqF · p)) else none
    | none => match asD q st with
      | some (ks, _) => (keyOf p).map fun _ => hasD p ks
      | none => none) = some b → wpAny (model X.prog X.w) X.A (compareOp (if neg then .NotIn else .In) v u) (EP X pins σ Q) X.xe s := fun e => by
    cases h1 : asQ q st with
    | some xs =>
      simp only [h1] at e
      by_cases h2 : (flat p && xs.all flat) = true
      · rw [if_pos h2] at e; exact seqs xs h1 h2 (Option.some.inj e)
      · rw [if_neg h2] at e; cases e
    | none =>
      simp only [h1] at e
      cases h2 : asD q st with
      | none => simp only [h2] at e; cases e
      | some kv => obtain ⟨ks, vs⟩ := kv; simp only [h2] at e; exact dicts ks vs h2 e
  cases q with
  | str bs =>
    cases p with
    | str cs =>
      cases cs with
      | nil => cases e
      | cons c r =>
        cases r with
        | cons _ _ => cases e
        | nil =>
          have e : bs.contains c = b := by simpa [inB] using e
          obtain ⟨rfl, _⟩ := rp; obtain ⟨rfl, _⟩ := rq
          have ed : decide (c ∈ (⟨bs.toArray⟩ : Str).cps.toList) = b := by rw [← e, Bool.eq_iff_iff]; simp
          cases neg with
          | true => exact op_notIn_sign pins s σ H _ _ v u Q I rx ry ⟨c, ⟨bs.toArray⟩, rfl, rfl, k.here S (by rw [ed]; exact rfl)⟩
          | false => exact op_in_sign pins s σ H _ _ v u Q I rx ry ⟨c, ⟨bs.toArray⟩, rfl, rfl, k.here S (by rw [ed]; exact rfl)⟩
    | _ => cases e
  | _ => exact other e
theorem opIn {X : Cx} {T : Txt} (hK : T.K = X.K) (hu : X.A.units + 1 < cLine) : OpR X (compareOp .In) (rP2 T inC) := opIn_core hK hu false
theorem opNin {X : Cx} {T : Txt} (hK : T.K = X.K) (hu : X.A.units + 1 < cLine) : OpR X (compareOp .NotIn) (rP2 T ninC) := opIn_core hK hu true

/-! ### subscripts -/
def idxQ (p q : PV) (st : Store) : Option PV :=
  match asQ p st with
  | some xs => match q with
    | .int i => atI xs i
    | _ => none
  | none => match asD p st with
    | some (ks, vs) => (keyOf q).bind fun _ => lookD q ks vs
    | none => none
def idxP (p q : PV) (st : Store) : Option PV :=
  match p with
  | .str a => match q with
    | .int i => (atI a i).map fun c => .str [c]
    | _ => none
  | p => idxQ p q st
theorem Reps.atI {K : PySem.W.Frag} {W : Wd} {ps : List PV} {vs : List V} {i : Int} {p : PV} (r : Reps K W ps vs) (h : L2.atI ps i = some p) : ∃ v, L2.atI vs i = some v ∧ Rep K W p v := by
  unfold L2.atI at h ⊢
  rw [r.length]
  cases e : ixN ps.length i with
  | none => rw [e] at h; cases h
  | some j => rw [e] at h; exact r.get h
theorem ixP {X : Cx} {T : Txt} (hK : T.K = X.K) (hu : X.A.units + 1 < cLine) : IxR X (rP2 T idxP) := by
  obtain ⟨K, cl⟩ := T
  have hK : K = X.K := hK
  subst hK
  rintro value slice pins s σ H x y v u Q I rx ry ⟨W, st, p, q, z, S, rp, rq, h, k⟩ hs
  have other : idxQ p q st = some z → wpAny (model X.prog X.w) X.A (subscriptTail value slice v u) (EP X pins σ Q) X.xe s := fun e => by
    unfold idxQ at e
    cases h1 : asQ p st with
    | some xs =>
      simp only [h1] at e
      cases q with
      | int i =>
        obtain ⟨a, vs, rfl, e1, r1⟩ := asQ_at S rp h1
        obtain ⟨w, hw, rw'⟩ := r1.atI e
        cases rq
        rcases e1 with e1 | e1
        · exact ix_list value slice pins s σ H _ _ v u Q I rx ry ⟨a, vs, i, w, rfl, rfl, e1, hw, k.here S rw'⟩ hs
        · exact ix_tup value slice pins s σ H _ _ v u Q I rx ry ⟨a, vs, i, w, rfl, rfl, e1, hw, k.here S rw'⟩ hs
      | _ => cases e
    | none =>
      simp only [h1] at e
      cases h2 : asD p st with
      | none => simp only [h2] at e; cases e
      | some kv =>
        obtain ⟨ks, vs⟩ := kv
        simp only [h2] at e
        obtain ⟨ky, hk, hz⟩ := Option.bind_eq_some_iff.mp e
        obtain ⟨a, kvs, rfl, e1, r1, r2⟩ := asD_at S rp h2
        cases (show v = Value.ref a from rx)
        have hk1 := repK1_of rq hk
        have hv := keyOf_V rq hk
        rcases lookD_at hk1 r1 r2 with ⟨q1, _⟩ | ⟨z', w, q1, q2, q3⟩
        · rw [q1] at hz; cases hz
        · rw [q1] at hz; cases hz
          have g : DGet H a y (some w) := .inl ⟨kvs, ky, e1, hv, q2.symm⟩
          exact tail_any (dict_typeIs I g) PySem.F.slot_dict_getitem.lookup (d_getItem hu I g ry fun w' s3 I3 rw' => ⟨w, H, I3, rw', k.here S q3⟩) hs
  cases p with
  | str a =>
    cases q with
    | int i =>
      have h : (L2.atI a i).map (fun c => PV.str [c]) = some z := h
      obtain ⟨c, hc, rfl⟩ := Option.map_eq_some_iff.mp h
      obtain ⟨rfl, hz⟩ := rp
      cases rq
      exact ix_str value slice pins s σ H _ _ v u Q I rx ry ⟨⟨a.toArray⟩, i, c, rfl, rfl, by rw [str_len]; exact hz, by simpa using hc, k.here S ⟨by simp [strV], by rw [sizeLine_eq, List.length_singleton]; decide⟩⟩ hs
    | _ => cases h
  | _ => exact other h

/-! ### slices -/
def cutP {α : Type} (xs : List α) (lo hi : Option Int) : List α := (xs.drop (HT.sIx xs.length 0 lo)).take (HT.sIx xs.length xs.length hi - HT.sIx xs.length 0 lo)
theorem cutP_length {α : Type} (xs : List α) (lo hi : Option Int) : (cutP xs lo hi).length ≤ xs.length := by
  unfold cutP
  rw [List.length_take, List.length_drop]
  omega
theorem Reps.cut {K : PySem.W.Frag} {W : Wd} {ps : List PV} {vs : List V} (lo hi : Option Int) (r : Reps K W ps vs) : Reps K W (cutP ps lo hi) (cutV vs lo hi) := by
  unfold cutP cutV
  rw [r.length]
  exact (r.drop _).take _
def slcP (p : PV) (lo hi : Option Int) (st : Store) : Option PV :=
  match p with
  | .str a => some (.str (cutP a lo hi))
  | .tup xs => some (.tup (cutP xs lo hi))
  | p => (asR p st).map fun xs => .lst (cutP xs lo hi)
def rPS (T : Txt) : V → Option Int → Option Int → Hp → VK → Prop := fun v lo hi H Q => ∃ W st p z, Sim T W st H ∧ Rep T.K W p v ∧ slcP p lo hi st = some z ∧ Post T W st H z Q
theorem slP {X : Cx} {T : Txt} (hK : T.K = X.K) : SlR X (rPS T) := by
  obtain ⟨K, cl⟩ := T
  have hK : K = X.K := hK
  subst hK
  rintro pins s σ H x v vl vu lo hi sl Q I rx hs pl pu ⟨W, st, p, z, S, rp, h, k⟩
  have lists : (asR p st).map (fun xs => PV.lst (cutP xs lo hi)) = some z → ∃ T id, typeLookup (.type T) "__getitem__" = pure (some (.builtin id)) ∧ s.TypeIs v T ∧ wpAny (model X.prog X.w) X.A (getItem v (.ref sl)) (EP X pins σ Q) X.xe s := fun e => by
    obtain ⟨xs, h1, rfl⟩ := Option.map_eq_some_iff.mp e
    obtain ⟨a, vs, rfl, e1, r1⟩ := asR_at S rp h1
    exact sl_list pins s σ H _ v vl vu lo hi sl Q I rx hs pl pu ⟨a, vs, rfl, e1, k.lst S (r1.cut lo hi)⟩
  cases p with
  | str a =>
    have h : PV.str (cutP a lo hi) = z := Option.some.inj h
    subst h
    obtain ⟨rfl, hz⟩ := rp
    refine sl_str pins s σ H _ v vl vu lo hi sl Q I rx hs pl pu ⟨⟨a.toArray⟩, rfl, by rw [str_len]; exact hz, k.here S ⟨?_, Nat.le_trans (cutP_length _ _ _) hz⟩⟩
    unfold cutS cutP strV
    rw [str_len]
  | tup xs =>
    have h : PV.tup (cutP xs lo hi) = z := Option.some.inj h
    subst h
    obtain ⟨a, vs, rfl, q1, r1⟩ := rp
    refine sl_tupA pins s σ H _ v vl vu lo hi sl Q I rx hs pl pu ⟨a, vs, rfl, SqT.up q1 S.sub, fun e => ?_, fun _ => k.tup S (r1.cut lo hi)⟩
    refine k.here S ⟨a, vs, rfl, q1, ?_⟩
    have : cutP xs lo hi = xs := by
      unfold cutP
      rw [← r1.length, e.1, e.2]
      simp [r1.length]
    rw [this]; exact r1
  | _ => exact lists h

/-! ### truth -/
def truP (p : PV) (st : Store) : Option Bool :=
  match p with
  | .non => some false
  | .bl b => some b
  | .int i => some (i != 0)
  | .str a => some (!a.isEmpty)
  | .dic ks _ => some (!ks.isEmpty)
  | p => match asQ p st with
    | some xs => some (!xs.isEmpty)
    | none => match p with
      | .ref n => match st[n]? with
        | some (.dic ks _) => some (!ks.isEmpty)
        | _ => none
      | _ => none
theorem reps_empty {K : PySem.W.Frag} {W : Wd} {ps : List PV} {vs : List V} (r : Reps K W ps vs) : vs.isEmpty = ps.isEmpty := by
  have h := r.length
  cases ps <;> cases vs <;> simp at h ⊢
theorem repK_empty {ps : List PV} {kvs : List (Key × V)} (r : RepK ps (kvs.map (·.1))) : kvs.isEmpty = ps.isEmpty := by
  have h := r.length
  cases ps <;> cases kvs <;> simp at h ⊢
theorem truP_at {T : Txt} {W : Wd} {st : Store} {H : Hp} (S : Sim T W st H) {p : PV} {v : V} (r : Rep T.K W p v) {b : Bool} (h : truP p st = some b) : TruV T.K v H b := by
  have seqs : ∀ xs, asQ p st = some xs → (!xs.isEmpty) = b → TruV T.K v H b := fun xs h1 h2 => by
    obtain ⟨a, vs, rfl, e1, r1⟩ := asQ_at S r h1
    rcases e1 with e1 | e1
    · exact .inl ⟨vs, e1, by rw [reps_empty r1]; exact h2.symm⟩
    · exact .inr (.inl ⟨vs, e1, by rw [reps_empty r1]; exact h2.symm⟩)
  cases p with
  | non => cases r; exact (Option.some.inj h).symm
  | bl _ => cases r; exact (Option.some.inj h).symm
  | int _ => cases r; exact (Option.some.inj h).symm
  | str a =>
    obtain ⟨rfl, hz⟩ := r
    refine ⟨by rw [str_len]; exact hz, ?_⟩
    rw [← Option.some.inj h, str_len]
    cases a with
    | nil => rfl
    | cons c r => rw [Bool.eq_iff_iff]; simp; omega
  | dic ks vs =>
    obtain ⟨a, kvs, rfl, f, rk, rs⟩ := r
    exact .inr (.inr ⟨kvs, S.sub _ _ f, by rw [repK_empty rk]; exact (Option.some.inj h).symm⟩)
  | ref n =>
    cases h1 : asQ (.ref n) st with
    | some xs => simp only [truP, h1] at h; exact seqs xs h1 (Option.some.inj h)
    | none =>
      simp only [truP, h1] at h
      cases hc : st[n]? with
      | none => simp only [hc] at h; cases h
      | some c =>
        simp only [hc] at h
        cases c with
        | dic ks vs =>
          obtain ⟨a, e, rfl⟩ := r
          obtain ⟨kvs, f, rk, rs⟩ := S.cell n a _ e hc
          exact .inr (.inr ⟨kvs, f, by rw [repK_empty rk]; exact (Option.some.inj h).symm⟩)
        | _ => cases h
  | tup xs => exact seqs xs rfl (Option.some.inj h)
  | lst xs => exact seqs xs rfl (Option.some.inj h)
  | scr xs => exact seqs xs rfl (Option.some.inj h)
end Pv
/-! Pv, part E: built-ins and methods. -/
namespace Pv
open PySem PySem.Spec PyProof.Rows PySem.SeqAt L2

/-- a new list: frozen, or a cell -/
def newL (bx : Bool) (xs : List PV) (st : Store) : PV × Store := if bx then (.ref st.length, st ++ [.lst xs]) else (.lst xs, st)
def newD (bx : Bool) (ks vs : List PV) (st : Store) : PV × Store := if bx then (.ref st.length, st ++ [.dic ks vs]) else (.dic ks vs, st)
/-- a call's answer -/
def PostS (T : Txt) (W : Wd) (H : Hp) (r : PV × Store) (Q : VK) : Prop := ∀ W' H', Go W H W' H' → Sim T W' r.2 H' → ∀ w, Rep T.K W' r.1 w → Q w H'
section
variable {T : Txt} {W : Wd} {st : Store} {H : Hp} {Q : VK}
theorem PostS.here {z : PV} (k : PostS T W H (z, st) Q) (S : Sim T W st H) {w : V} (r : Rep T.K W z w) : Q w H := k W H (.refl W H) S w r
theorem PostS.newL {bx : Bool} {xs : List PV} {vs : List V} (k : PostS T W H (newL bx xs st) Q) (S : Sim T W st H) (r : Reps T.K W xs vs) : ∀ p, H p = none → Q (.ref p) (upd H p (.lst vs)) := fun p hp => by
  cases bx with
  | false =>
    obtain ⟨g, S'⟩ := S.laid hp (.lst vs)
    exact k _ _ g S' _ ⟨p, vs, rfl, upd_same, r.up g.le⟩
  | true =>
    obtain ⟨g, S', e⟩ := S.boxed hp (.lst vs) (c := .lst xs) ⟨vs, upd_same, r⟩
    exact k _ _ g S' _ ⟨p, e, rfl⟩
theorem PostS.newD {bx : Bool} {ks vs : List PV} {kvs : List (Key × V)} (k : PostS T W H (newD bx ks vs st) Q) (S : Sim T W st H) (rk : RepK ks (kvs.map (·.1))) (r : Reps T.K W vs (kvs.map (·.2))) : ∀ p, H p = none → Q (.ref p) (upd H p (.dK kvs)) := fun p hp => by
  cases bx with
  | false =>
    obtain ⟨g, S'⟩ := S.laid hp (.dK kvs)
    exact k _ _ g S' _ ⟨p, kvs, rfl, upd_same, rk, r.up g.le⟩
  | true =>
    obtain ⟨g, S', e⟩ := S.boxed hp (.dK kvs) (c := .dic ks vs) ⟨kvs, upd_same, rk, r⟩
    exact k _ _ g S' _ ⟨p, e, rfl⟩
theorem PostS.tup {xs : List PV} {vs : List V} (k : PostS T W H (.tup xs, st) Q) (S : Sim T W st H) (r : Reps T.K W xs vs) : ∀ p, H p = none → Q (.ref p) (upd H p (.tup vs)) := fun p hp => by
  obtain ⟨g, S'⟩ := S.laid hp (.tup vs)
  exact k _ _ g S' _ ⟨p, vs, rfl, SqT.of upd_same, r.up g.le⟩
end
def rC (T : Txt) (h : List PV → Store → Option (PV × Store)) : List V → Hp → VK → Prop := fun xs H Q => ∃ W st ps z, Sim T W st H ∧ Reps T.K W ps xs ∧ h ps st = some z ∧ PostS T W H z Q
def rM (T : Txt) (h : PV → List PV → Store → Option (PV × Store)) : V → List V → Hp → VK → Prop := fun x xs H Q => ∃ W st p ps z, Sim T W st H ∧ Rep T.K W p x ∧ Reps T.K W ps xs ∧ h p ps st = some z ∧ PostS T W H z Q

theorem reps1 {K : PySem.W.Frag} {W : Wd} {p : PV} {xs : List V} (r : Reps K W [p] xs) : ∃ v, xs = [v] ∧ Rep K W p v := by
  obtain ⟨v, t, rfl, h, rfl⟩ := r
  exact ⟨v, rfl, h⟩
theorem reps2 {K : PySem.W.Frag} {W : Wd} {p q : PV} {xs : List V} (r : Reps K W [p, q] xs) : ∃ v u, xs = [v, u] ∧ Rep K W p v ∧ Rep K W q u := by
  obtain ⟨v, t, rfl, h, u, t', rfl, h', rfl⟩ := r
  exact ⟨v, u, rfl, h, h'⟩

/-- a dict that is not walked just now -/
def asDw : PV → Store → Option (List PV × List PV)
  | .dic ks vs, _ => some (ks, vs)
  | .ref n, st => match st[n]? with
    | some (.dic ks vs) => some (ks, vs)
    | _ => none
  | _, _ => none
theorem asDw_at {T : Txt} {W : Wd} {st : Store} {H : Hp} (S : Sim T W st H) {p : PV} {v : V} (r : Rep T.K W p v) {ks vs : List PV} (h : asDw p st = some (ks, vs)) :
    ∃ a kvs, v = .ref a ∧ H a = some (.dK kvs) ∧ RepK ks (kvs.map (·.1)) ∧ Reps T.K W vs (kvs.map (·.2)) := by
  cases p with
  | dic ks' vs' =>
    have h : ks' = ks ∧ vs' = vs := by simpa [asDw] using h
    obtain ⟨rfl, rfl⟩ := h
    obtain ⟨a, kvs, e, f, rk, rs⟩ := r
    exact ⟨a, kvs, e, S.sub _ _ f, rk, rs⟩
  | ref n =>
    cases hc : st[n]? with
    | none => simp only [asDw, hc] at h; cases h
    | some c =>
      simp only [asDw, hc] at h
      obtain ⟨a, e, rfl⟩ := r
      cases c with
      | dic ks' vs' =>
        have h : ks' = ks ∧ vs' = vs := by simpa using h
        obtain ⟨rfl, rfl⟩ := h
        obtain ⟨kvs, f, rk, rs⟩ := S.cell n a _ e hc
        exact ⟨a, kvs, rfl, f, rk, rs⟩
      | _ => cases h
  | _ => simp [asDw] at h
/-! ### len, str, int, abs, min, max -/
def lenB : List PV → Store → Option (PV × Store)
  | [.str a], st => some (.int a.length, st)
  | [p], st => match asQ p st with
    | some xs => some (.int xs.length, st)
    | none => match asDw p st with
      | some (ks, _) => some (.int ks.length, st)
      | none => none
  | _, _ => none
def strI (i : Int) : List Nat := if 0 ≤ i then (Nat.toDigits 10 i.natAbs).map Char.toNat else 45 :: (Nat.toDigits 10 i.natAbs).map Char.toNat
def strB : List PV → Store → Option (PV × Store)
  | [.str a], st => some (.str a, st)
  | [.int i], st => if i.natAbs < 1000000000000 then some (.str (strI i), st) else none
  | _, _ => none
def intB : List PV → Store → Option (PV × Store)
  | [.int i], st => some (.int i, st)
  | [.bl b], st => some (.int (if b then 1 else 0), st)
  | [.str a], st => if a.length ≤ 640 then (PySem.intText? ⟨a.toArray⟩).map fun n => (.int n, st) else none
  | _, _ => none
def absB : List PV → Store → Option (PV × Store)
  | [.int i], st => some (.int (if i < 0 then -i else i), st)
  | _, _ => none
def maxB : List PV → Store → Option (PV × Store)
  | [.int i, .int j], st => some (.int (if j > i then j else i), st)
  | _, _ => none
def minB : List PV → Store → Option (PV × Store)
  | [.int i, .int j], st => some (.int (if j < i then j else i), st)
  | _, _ => none
/-! ### tuple, list, all, any -/
def tupB : List PV → Store → Option (PV × Store)
  | [.tup xs], st => some (.tup xs, st)
  | [p], st => (asR p st).map fun xs => (.tup xs, st)
  | _, _ => none
def lstB (bx : Bool) : List PV → Store → Option (PV × Store)
  | [p], st => match asQ p st with
    | some xs => some (newL bx xs st)
    | none => none
  | _, _ => none
def boolL : List PV → Option (List Bool)
  | [] => some []
  | .bl b :: r => (boolL r).map (b :: ·)
  | _ :: _ => none
def allB : List PV → Store → Option (PV × Store)
  | [p], st => ((asR p st).bind boolL).map fun bs => (.bl (bs.all id), st)
  | _, _ => none
def anyB : List PV → Store → Option (PV × Store)
  | [p], st => ((asR p st).bind boolL).map fun bs => (.bl (bs.any id), st)
  | _, _ => none
theorem bools_at {K : PySem.W.Frag} {W : Wd} : ∀ {ps : List PV} {vs : List V} {bs : List Bool}, Reps K W ps vs → boolL ps = some bs → vs = bs.map V.bl
  | [], _, _, h, e => by cases h; cases e; rfl
  | p :: ps, _, bs, ⟨v, r, e, a, b⟩, h => by
    subst e
    cases p with
    | bl c =>
      obtain ⟨cs, h1, rfl⟩ := Option.map_eq_some_iff.mp h
      cases a
      rw [bools_at b h1]; rfl
    | _ => cases h

theorem str_toString (i : Int) : (Str.ofString (toString i)) = ⟨(strI i).toArray⟩ := by
  have key : (Str.ofString (toString i)).cps.toList = strI i := by
    unfold strI
    by_cases h : 0 ≤ i
    · rw [if_pos h]
      obtain ⟨m, rfl⟩ := Int.eq_ofNat_of_zero_le h
      exact PySem.W.KIN.signs_num m
    · rw [if_neg h, toString_neg (by omega)]
      obtain ⟨m, hm⟩ := Int.eq_ofNat_of_zero_le (show (0 : Int) ≤ 0 - i by omega)
      have e : i.natAbs = m := by omega
      rw [hm, e, signs_ofString, String.toList_append, List.map_append]
      have e2 := PySem.W.KIN.signs_num m
      rw [signs_ofString] at e2
      rw [e2]
      rfl
  have e : (Str.ofString (toString i)).cps = (strI i).toArray := by
    rw [← key]
  generalize Str.ofString (toString i) = x at e ⊢
  cases x
  exact congrArg _ e
theorem log2_small {n : Nat} (h : n < 1000000000000) : n.log2 < 1920 := by
  by_cases h0 : n = 0
  · subst h0; decide
  · exact (Nat.log2_lt h0).mpr (Nat.lt_of_lt_of_le h (Nat.le_trans (by decide : 1000000000000 ≤ 2 ^ 40) (Nat.pow_le_pow_right (by decide) (by decide))))
theorem strI_length (i : Int) (h : i.natAbs < 1000000000000) : (strI i).length ≤ sizeLine := by
  have h1 := int_text_len_1921 (log2_small h)
  rw [str_toString, str_len] at h1
  rw [sizeLine_eq]; omega

section
variable {X : Cx} {T : Txt}
theorem biLen (hK : T.K = X.K) : CallR X (.builtin "len") (rC T lenB) := by
  obtain ⟨K, cl⟩ := T
  have hK : K = X.K := hK
  subst hK
  rintro pins s σ H xs us Q I r ⟨W, st, ps, z, S, rs, h, k⟩
  match ps, h with
  | [p], h =>
    obtain ⟨v, rfl, rp⟩ := reps1 rs
    have seqs : ∀ ys, asQ p st = some ys → z = (.int ys.length, st) → wpAny (model X.prog X.w) X.A (call (.builtin "len") us) (EP X pins σ Q) X.xe s := fun ys h1 h2 => by
      subst h2
      obtain ⟨a, vs, rfl, e1, r1⟩ := asQ_at S rp h1
      refine call_len pins s σ H _ us Q I r ⟨_, vs.length, rfl, ?_, k.here S (by rw [Reps.length r1]; exact rfl)⟩
      rcases e1 with e1 | e1
      · exact .inl ⟨vs, e1, rfl⟩
      · exact .inr ⟨vs, e1, rfl⟩
    have other : (match asQ p st with
        | some xs => some (PV.int xs.length, st)
        | none => match asDw p st with
          | some (ks, _) => some (PV.int ks.length, st)
          | none => none) = some z → wpAny (model X.prog X.w) X.A (call (.builtin "len") us) (EP X pins σ Q) X.xe s := fun e => by
      cases h1 : asQ p st with
      | some ys => simp only [h1] at e; exact seqs ys h1 (Option.some.inj e).symm
      | none =>
        simp only [h1] at e
        cases h2 : asDw p st with
        | none => simp only [h2] at e; cases e
        | some kv =>
          obtain ⟨ks, vs⟩ := kv
          simp only [h2] at e
          have e := Option.some.inj e
          subst e
          obtain ⟨a, kvs, rfl, e1, r1, r2⟩ := asDw_at S rp h2
          have hl : kvs.length = ks.length := by have := r1.length; simpa using this
          exact call_lenD pins s σ H _ us Q I r ⟨a, kvs, rfl, e1, k.here S (by rw [hl]; exact rfl)⟩
    cases p with
    | str a =>
      have h : (PV.int a.length, st) = z := Option.some.inj h
      subst h
      obtain ⟨rfl, hz⟩ := rp
      exact call_len pins s σ H _ us Q I r ⟨_, a.length, rfl, ⟨by rw [str_len]; exact hz, (str_len a).symm⟩, k.here S rfl⟩
    | _ => exact other h
  | [], h => cases h
  | _ :: _ :: _, h => unfold lenB at h; split at h <;> simp_all
theorem biStr (hK : T.K = X.K) : CallR X (.type "str") (rC T strB) := by
  rintro pins s σ H xs us Q I r ⟨W, st, ps, z, S, rs, h, k⟩
  match ps, h with
  | [.str a], h =>
    obtain ⟨v, rfl, rp⟩ := reps1 rs
    have h : (PV.str a, st) = z := Option.some.inj h
    subst h
    obtain ⟨rfl, hz⟩ := rp
    exact SkE.call_str_str pins s σ H _ us Q I r ⟨_, rfl, k.here S ⟨rfl, hz⟩⟩
  | [.int i], h =>
    obtain ⟨v, rfl, rp⟩ := reps1 rs
    have h : (if i.natAbs < 1000000000000 then some (PV.str (strI i), st) else none) = some z := h
    by_cases hz : i.natAbs < 1000000000000
    · rw [if_pos hz] at h
      have h : (PV.str (strI i), st) = z := Option.some.inj h
      subst h
      cases rp
      refine call_str_int pins s σ H _ us Q I r ⟨i, rfl, log2_small hz, k.here S ⟨?_, strI_length i hz⟩⟩
      rw [str_toString]; rfl
    · rw [if_neg hz] at h; cases h
theorem biInt (hK : T.K = X.K) : CallR X (.type "int") (rC T intB) := by
  rintro pins s σ H xs us Q I r ⟨W, st, ps, z, S, rs, h, k⟩
  match ps, h with
  | [.int i], h =>
    obtain ⟨v, rfl, rp⟩ := reps1 rs
    have h : (PV.int i, st) = z := Option.some.inj h
    subst h; cases rp
    exact call_int1 pins s σ H _ us Q I r (.inl ⟨i, rfl, k.here S rfl⟩)
  | [.bl b], h =>
    obtain ⟨v, rfl, rp⟩ := reps1 rs
    have h : (PV.int (if b then 1 else 0), st) = z := Option.some.inj h
    subst h; cases rp
    exact call_int1 pins s σ H _ us Q I r (.inr ⟨b, rfl, k.here S rfl⟩)
  | [.str a], h =>
    obtain ⟨v, rfl, rp⟩ := reps1 rs
    have h : (if a.length ≤ 640 then (PySem.intText? ⟨a.toArray⟩).map fun n => (PV.int n, st) else none) = some z := h
    by_cases hz : a.length ≤ 640
    · rw [if_pos hz] at h
      obtain ⟨n, hn, h⟩ := Option.map_eq_some_iff.mp h
      subst h
      obtain ⟨rfl, _⟩ := rp
      exact call_int_str pins s σ H _ us Q I r ⟨_, n, rfl, hn, by rw [str_len]; exact hz, k.here S rfl⟩
    · rw [if_neg hz] at h; cases h
theorem biAbs (hK : T.K = X.K) : CallR X (.builtin "abs") (rC T absB) := by
  rintro pins s σ H xs us Q I r ⟨W, st, ps, z, S, rs, h, k⟩
  match ps, h with
  | [.int i], h =>
    obtain ⟨v, rfl, rp⟩ := reps1 rs
    have h : (PV.int (if i < 0 then -i else i), st) = z := Option.some.inj h
    subst h; cases rp
    exact call_abs pins s σ H _ us Q I r ⟨i, rfl, k.here S rfl⟩
theorem biMax (hK : T.K = X.K) (hc : X.calm = true) : CallR X (.builtin "max") (rC T maxB) := by
  rintro pins s σ H xs us Q I r ⟨W, st, ps, z, S, rs, h, k⟩
  match ps, h with
  | [.int i, .int j], h =>
    obtain ⟨v, u, rfl, rp, rq⟩ := reps2 rs
    have h : (PV.int (if j > i then j else i), st) = z := Option.some.inj h
    subst h; cases rp; cases rq
    exact call_max2 hc pins s σ H _ us Q I r ⟨i, j, rfl, k.here S rfl⟩
theorem biMin (hK : T.K = X.K) (hc : X.calm = true) : CallR X (.builtin "min") (rC T minB) := by
  rintro pins s σ H xs us Q I r ⟨W, st, ps, z, S, rs, h, k⟩
  match ps, h with
  | [.int i, .int j], h =>
    obtain ⟨v, u, rfl, rp, rq⟩ := reps2 rs
    have h : (PV.int (if j < i then j else i), st) = z := Option.some.inj h
    subst h; cases rp; cases rq
    exact call_min2 hc pins s σ H _ us Q I r ⟨i, j, rfl, k.here S rfl⟩
theorem biTup (hK : T.K = X.K) : CallR X (.type "tuple") (rC T tupB) := by
  obtain ⟨K, cl⟩ := T
  have hK : K = X.K := hK
  subst hK
  rintro pins s σ H xs us Q I r ⟨W, st, ps, z, S, rs, h, k⟩
  match ps, h with
  | [p], h =>
    obtain ⟨v, rfl, rp⟩ := reps1 rs
    have other : (asR p st).map (fun ys => (PV.tup ys, st)) = some z → wpAny (model X.prog X.w) X.A (call (.type "tuple") us) (EP X pins σ Q) X.xe s := fun e => by
      obtain ⟨ys, h1, rfl⟩ := Option.map_eq_some_iff.mp e
      obtain ⟨a, vs, rfl, e1, r1⟩ := asR_at S rp h1
      exact call_tuple_of pins s σ H _ us Q I r ⟨a, vs, rfl, .inl ⟨e1, k.tup S r1⟩⟩
    cases p with
    | tup ys =>
      have h : (PV.tup ys, st) = z := Option.some.inj h
      subst h
      obtain ⟨a, vs, rfl, q1, r1⟩ := rp
      exact call_tuple_of pins s σ H _ us Q I r ⟨a, vs, rfl, .inr ⟨SqT.up q1 S.sub, k.here S ⟨a, vs, rfl, q1, r1⟩⟩⟩
    | _ => exact other h
  | [], h => cases h
  | _ :: _ :: _, h => unfold tupB at h; split at h <;> simp_all
theorem biLst (hK : T.K = X.K) (bx : Bool) : CallR X (.type "list") (rC T (lstB bx)) := by
  obtain ⟨K, cl⟩ := T
  have hK : K = X.K := hK
  subst hK
  rintro pins s σ H xs us Q I r ⟨W, st, ps, z, S, rs, h, k⟩
  match ps, h with
  | [p], h =>
    obtain ⟨v, rfl, rp⟩ := reps1 rs
    cases h1 : asQ p st with
    | none => simp only [lstB, h1] at h; cases h
    | some ys =>
      simp only [lstB, h1] at h
      have h := Option.some.inj h
      subst h
      obtain ⟨a, vs, rfl, e1, r1⟩ := asQ_at S rp h1
      exact call_list_of pins s σ H _ us Q I r ⟨a, vs, rfl, e1, k.newL S r1⟩
  | [], h => cases h
  | _ :: _ :: _, h => cases h
theorem biAll (hK : T.K = X.K) (hc : X.calm = true) : CallR X (.builtin "all") (rC T allB) := by
  obtain ⟨K, cl⟩ := T
  have hK : K = X.K := hK
  subst hK
  rintro pins s σ H xs us Q I r ⟨W, st, ps, z, S, rs, h, k⟩
  match ps, h with
  | [p], h =>
    obtain ⟨v, rfl, rp⟩ := reps1 rs
    obtain ⟨bs, h1, rfl⟩ := Option.map_eq_some_iff.mp h
    obtain ⟨ys, h2, h3⟩ := Option.bind_eq_some_iff.mp h1
    obtain ⟨a, vs, rfl, e1, r1⟩ := asR_at S rp h2
    have e := bools_at r1 h3
    subst e
    exact cr_all hc pins s σ H _ us Q I r ⟨a, bs, rfl, e1, k.here S rfl⟩
theorem biAny (hK : T.K = X.K) (hc : X.calm = true) : CallR X (.builtin "any") (rC T anyB) := by
  obtain ⟨K, cl⟩ := T
  have hK : K = X.K := hK
  subst hK
  rintro pins s σ H xs us Q I r ⟨W, st, ps, z, S, rs, h, k⟩
  match ps, h with
  | [p], h =>
    obtain ⟨v, rfl, rp⟩ := reps1 rs
    obtain ⟨bs, h1, rfl⟩ := Option.map_eq_some_iff.mp h
    obtain ⟨ys, h2, h3⟩ := Option.bind_eq_some_iff.mp h1
    obtain ⟨a, vs, rfl, e1, r1⟩ := asR_at S rp h2
    have e := bools_at r1 h3
    subst e
    exact cr_any hc pins s σ H _ us Q I r ⟨a, bs, rfl, e1, k.here S rfl⟩
end

/-! ### sorted: texts (fewer than 64), intL -/
def insS (x : List Nat) : List (List Nat) → List (List Nat)
  | [] => [x]
  | y :: r => if ltN y x then y :: insS x r else x :: y :: r
def srtS : List (List Nat) → List (List Nat)
  | [] => []
  | x :: r => insS x (srtS r)
def insI (x : Int) : List Int → List Int
  | [] => [x]
  | y :: r => if y < x then y :: insI x r else x :: y :: r
def srtI : List Int → List Int
  | [] => []
  | x :: r => insI x (srtI r)
theorem insS_perm (x : List Nat) : ∀ l, (insS x l).Perm (x :: l)
  | [] => .refl _
  | y :: r => by
    unfold insS
    split
    · exact (List.Perm.cons y (insS_perm x r)).trans (List.Perm.swap x y r)
    · exact .refl _
theorem srtS_perm : ∀ l, (srtS l).Perm l
  | [] => .refl _
  | x :: r => (insS_perm x _).trans (List.Perm.cons x (srtS_perm r))
theorem insI_perm (x : Int) : ∀ l, (insI x l).Perm (x :: l)
  | [] => .refl _
  | y :: r => by
    unfold insI
    split
    · exact (List.Perm.cons y (insI_perm x r)).trans (List.Perm.swap x y r)
    · exact .refl _
theorem srtI_perm : ∀ l, (srtI l).Perm l
  | [] => .refl _
  | x :: r => (insI_perm x _).trans (List.Perm.cons x (srtI_perm r))
theorem insI_sorted (x : Int) : ∀ l : List Int, l.Pairwise (· ≤ ·) → (insI x l).Pairwise (· ≤ ·)
  | [], _ => by simp [insI]
  | y :: r, h => by
    obtain ⟨h1, h2⟩ := List.pairwise_cons.mp h
    unfold insI
    split
    · rename_i hlt
      refine List.pairwise_cons.mpr ⟨fun z hz => ?_, insI_sorted x r h2⟩
      rcases List.mem_cons.mp ((insI_perm x r).mem_iff.mp hz) with rfl | hz
      · omega
      · exact h1 z hz
    · rename_i hlt
      refine List.pairwise_cons.mpr ⟨fun z hz => ?_, h⟩
      rcases List.mem_cons.mp hz with rfl | hz
      · omega
      · have := h1 z hz; omega
theorem srtI_sorted : ∀ l, (srtI l).Pairwise (· ≤ ·)
  | [] => .nil
  | x :: r => insI_sorted x _ (srtI_sorted r)
theorem insS_sorted (x : List Nat) : ∀ l : List (List Nat), l.Pairwise (· ≤ ·) → (insS x l).Pairwise (· ≤ ·)
  | [], _ => by simp [insS]
  | y :: r, h => by
    obtain ⟨h1, h2⟩ := List.pairwise_cons.mp h
    unfold insS
    split
    · rename_i hlt
      rw [ltN_eq, decide_eq_true_eq] at hlt
      refine List.pairwise_cons.mpr ⟨fun z hz => ?_, insS_sorted x r h2⟩
      rcases List.mem_cons.mp ((insS_perm x r).mem_iff.mp hz) with rfl | hz
      · exact List.le_of_lt hlt
      · exact h1 z hz
    · rename_i hlt
      rw [ltN_eq, decide_eq_true_eq] at hlt
      have hle : x ≤ y := List.not_lt.mp hlt
      refine List.pairwise_cons.mpr ⟨fun z hz => ?_, h⟩
      rcases List.mem_cons.mp hz with rfl | hz
      · exact hle
      · exact List.le_trans hle (h1 z hz)
theorem srtS_sorted : ∀ l, (srtS l).Pairwise (· ≤ ·)
  | [] => .nil
  | x :: r => insS_sorted x _ (srtS_sorted r)
def strL : List PV → Option (List (List Nat))
  | [] => some []
  | .str a :: r => (strL r).map (a :: ·)
  | _ :: _ => none
def intL : List PV → Option (List Int)
  | [] => some []
  | .int a :: r => (intL r).map (a :: ·)
  | _ :: _ => none
def srtB (bx : Bool) : List PV → Store → Option (PV × Store)
  | [p], st => match asR p st with
    | some xs => match strL xs with
      | some ss => if ss.length < 64 then some (newL bx ((srtS ss).map .str) st) else none
      | none => match intL xs with
        | some ns => some (newL bx ((srtI ns).map .int) st)
        | none => none
    | none => none
  | _, _ => none

theorem strs_at {K : PySem.W.Frag} {W : Wd} : ∀ {ps : List PV} {vs : List V} {ss : List (List Nat)}, Reps K W ps vs → strL ps = some ss → vs = ss.map strV ∧ ps = ss.map .str ∧ ∀ x ∈ ss, x.length ≤ sizeLine
  | [], _, _, h, e => by cases h; cases e; exact ⟨rfl, rfl, by simp⟩
  | p :: ps, _, ss, ⟨v, r, e, a, b⟩, h => by
    subst e
    cases p with
    | str c =>
      obtain ⟨cs, h1, rfl⟩ := Option.map_eq_some_iff.mp h
      obtain ⟨rfl, hz⟩ := a
      obtain ⟨e1, e2, e3⟩ := strs_at b h1
      refine ⟨by rw [e1]; rfl, by rw [e2]; rfl, fun x hx => ?_⟩
      rcases List.mem_cons.mp hx with rfl | hx
      · exact hz
      · exact e3 x hx
    | _ => cases h
theorem ints_at {K : PySem.W.Frag} {W : Wd} : ∀ {ps : List PV} {vs : List V} {ns : List Int}, Reps K W ps vs → intL ps = some ns → vs = ns.map V.int
  | [], _, _, h, e => by cases h; cases e; rfl
  | p :: ps, _, _, ⟨v, r, e, a, b⟩, h => by
    subst e
    cases p with
    | int c =>
      obtain ⟨cs, h1, rfl⟩ := Option.map_eq_some_iff.mp h
      cases a
      rw [ints_at b h1]; rfl
    | _ => cases h
theorem reps_strs {K : PySem.W.Frag} {W : Wd} : ∀ {ss : List (List Nat)}, (∀ x ∈ ss, x.length ≤ sizeLine) → Reps K W (ss.map .str) (ss.map strV)
  | [], _ => rfl
  | x :: r, h => ⟨_, _, rfl, ⟨rfl, h x (by simp)⟩, reps_strs fun y hy => h y (by simp [hy])⟩
theorem reps_ints {K : PySem.W.Frag} {W : Wd} : ∀ (ns : List Int), Reps K W (ns.map .int) (ns.map V.int)
  | [] => rfl
  | x :: r => ⟨_, _, rfl, rfl, reps_ints r⟩
theorem ltCps_ltN : ∀ a b : List Nat, ltCps a b = ltN a b
  | [], [] => rfl
  | [], _ :: _ => rfl
  | _ :: _, [] => rfl
  | x :: xs, y :: ys => by
    have ih := ltCps_ltN xs ys
    by_cases h1 : x < y
    · simp [ltCps, ltN, h1]
    · by_cases h2 : y < x
      · have h3 : x ≠ y := by omega
        simp [ltCps, ltN, h1, h2, h3]
      · have h3 : x = y := by omega
        subst h3
        simp [ltCps, ltN, ih]
theorem sortedS_pair : ∀ {ys : List Str}, sortedS ys = true → (ys.map fun y => y.cps.toList).Pairwise (· ≤ ·)
  | [], _ => .nil
  | x :: r, h => by
    have go : ∀ (r : List Str) (x : Str), risingS x r = true → ((x :: r).map fun y => y.cps.toList).Pairwise (· ≤ ·) := by
      intro r
      induction r with
      | nil => intro x _; simp
      | cons y r ih =>
        intro x h
        unfold risingS at h
        rw [Bool.and_eq_true] at h
        obtain ⟨h1, h2⟩ := h
        have p := ih y h2
        have hxy : x.cps.toList ≤ y.cps.toList := by
          refine List.not_lt.mp fun z => ?_
          have : ltCps y.cps.toList x.cps.toList = true := by rw [ltCps_ltN, ltN_eq]; exact decide_eq_true z
          rw [this] at h1; cases h1
        rw [List.map_cons]
        refine List.pairwise_cons.mpr ⟨fun z hz => ?_, p⟩
        rw [List.map_cons] at hz p
        rcases List.mem_cons.mp hz with rfl | hz
        · exact hxy
        · exact List.le_trans hxy ((List.pairwise_cons.mp p).1 z hz)
    exact go r x h
theorem biSrt {X : Cx} {T : Txt} (hK : T.K = X.K) (hc : X.calm = true) (bx : Bool) : CallR X (.builtin "sorted") (rC T (srtB bx)) := by
  obtain ⟨K, cl⟩ := T
  have hK : K = X.K := hK
  subst hK
  rintro pins s σ H xs us Q I r ⟨W, st, ps, z, S, rs, h, k⟩
  match ps, h with
  | [p], h =>
    obtain ⟨v, rfl, rp⟩ := reps1 rs
    cases h1 : asR p st with
    | none => simp only [srtB, h1] at h; cases h
    | some ys =>
      simp only [srtB, h1] at h
      obtain ⟨a, vs, rfl, e1, r1⟩ := asR_at S rp h1
      cases h2 : strL ys with
      | some ss =>
        simp only [h2] at h
        by_cases h64 : ss.length < 64
        · rw [if_pos h64] at h
          have h := Option.some.inj h
          subst h
          obtain ⟨rfl, _, hz⟩ := strs_at r1 h2
          refine cr_sortedS pins s σ H _ us Q I r ⟨a, ss.map fun x => ⟨x.toArray⟩, rfl, by rw [List.map_map]; exact e1, by simpa using h64, fun zs p hp hs hn => ?_⟩
          have same : zs = (srtS ss).map fun x => (⟨x.toArray⟩ : Str) := by
            have q1 : (zs.map fun y => y.cps.toList).Perm ss := by
              have := hp.map fun y : Str => y.cps.toList
              rw [List.map_map] at this
              simpa [Function.comp_def] using this
            have q2 : (zs.map fun y => y.cps.toList) = srtS ss :=
              List.Perm.eq_of_pairwise (fun _ _ _ _ h1 h2 => List.le_antisymm h1 h2) (sortedS_pair hs) (srtS_sorted ss) (q1.trans (srtS_perm ss).symm)
            rw [← q2, List.map_map]
            have : ((fun x : List Nat => (⟨x.toArray⟩ : Str)) ∘ fun y : Str => y.cps.toList) = id := by
              funext y; cases y; simp
            rw [this, List.map_id]
          subst same
          rw [List.map_map]
          exact k.newL S (reps_strs fun x hx => hz x ((srtS_perm ss).mem_iff.mp hx)) p hn
        · rw [if_neg h64] at h; cases h
      | none =>
        simp only [h2] at h
        cases h3 : intL ys with
        | none => simp only [h3] at h; cases h
        | some ns =>
          simp only [h3] at h
          have h := Option.some.inj h
          subst h
          have e := ints_at r1 h3
          subst e
          refine cr_sortedI pins s σ H _ us Q I r ⟨a, ns, rfl, e1, fun zs p hp hs hn => ?_⟩
          have same : zs = srtI ns := List.Perm.eq_of_pairwise (fun _ _ _ _ h1 h2 => Int.le_antisymm h1 h2) hs (srtI_sorted ns) (hp.trans (srtI_perm ns).symm)
          subst same
          exact k.newL S (reps_ints _) p hn
  | [], h => cases h
  | _ :: _ :: _, h => cases h
end Pv
/-! Pv, part F: isinstance, methods of built-in types. -/
namespace Pv
open PySem PySem.Spec PyProof.Rows PySem.SeqAt L2

/-! ### isinstance -/
inductive Ty where
  | non | bool | int | str | tuple | list | dict
  deriving DecidableEq
def Ty.name : Ty → String
  | .non => "NoneType" | .bool => "bool" | .int => "int" | .str => "str" | .tuple => "tuple" | .list => "list" | .dict => "dict"
def isI (t c : Ty) : Bool := decide (t = c) || (decide (t = .bool) && decide (c = .int))
theorem isI_kit (t c : Ty) (hc : c ≠ .non) : kitB t.name c.name = some (isI t c) := by
  cases c <;> first | exact absurd rfl hc | (cases t <;> decide +kernel)
def tyP (p : PV) (st : Store) : Option Ty :=
  match p with
  | .non => some .non | .bl _ => some .bool | .int _ => some .int | .str _ => some .str | .tup _ => some .tuple | .lst _ => some .list | .scr _ => none | .dic _ _ => some .dict
  | .ref n => match st[n]? with
    | some (.lst _) => some .list
    | some (.dic _ _) => some .dict
    | some (.dlk _ _) => some .dict
    | _ => none
theorem tyP_at {T : Txt} {W : Wd} {st : Store} {H : Hp} (S : Sim T W st H) {p : PV} {v : V} (r : Rep T.K W p v) {t : Ty} (h : tyP p st = some t) : TyX T.K H v (.type t.name) := by
  cases p with
  | non => cases h; cases r; exact .base .non
  | bl b => cases h; cases r; exact .base (.bl b)
  | int i => cases h; cases r; exact .base (.int i)
  | str s => cases h; obtain ⟨rfl, _⟩ := r; exact .base (.str _)
  | tup xs =>
    cases h
    obtain ⟨a, vs, rfl, q, _⟩ := r
    rcases SqT.up q S.sub with (q | ⟨o, q⟩) | ⟨o, its, n, hk, hc, _⟩
    · exact .base (.tup q)
    · exact .fTuple q
    · exact .kTuple hk hc
  | lst xs =>
    cases h
    obtain ⟨a, vs, rfl, q, _⟩ := r
    exact .base (.lst (S.sub _ _ q))
  | scr xs => cases h
  | dic ks vs =>
    cases h
    obtain ⟨a, kvs, rfl, q, _⟩ := r
    exact .base (.dK (S.sub _ _ q))
  | ref n =>
    cases hc : st[n]? with
    | none => simp only [tyP, hc] at h; cases h
    | some c =>
      simp only [tyP, hc] at h
      obtain ⟨a, e, rfl⟩ := r
      have z := S.cell n a _ e hc
      cases c with
      | lst xs => cases h; obtain ⟨vs, f, _⟩ := z; exact .base (.lst f)
      | dic ks vs => cases h; obtain ⟨kvs, f, _⟩ := z; exact .base (.dK f)
      | dlk ks vs => cases h; obtain ⟨ob, kvs, f, _⟩ := z; exact .fDict (S.sub _ _ f)
      | ins _ _ => cases h
      | dead => cases h

/-! ### a list's methods -/
def appM (p : PV) (ps : List PV) (st : Store) : Option (PV × Store) :=
  match p, ps with
  | .ref n, [q] => match st[n]? with
    | some (.lst xs) => if xs.length < sizeLine then some (.non, st.set n (.lst (xs ++ [q]))) else none
    | _ => none
  | _, _ => none
def popM (p : PV) (ps : List PV) (st : Store) : Option (PV × Store) :=
  match p with
  | .ref n => match st[n]? with
    | some (.lst xs) => match ps with
      | [] => xs[xs.length - 1]?.map fun q => (q, st.set n (.lst xs.dropLast))
      | [.int i] => match ixN xs.length i with
        | some k => if xs.length < 2 ^ 62 then xs[k]?.map fun q => (q, st.set n (.lst (xs.eraseIdx k))) else none
        | none => none
      | _ => none
    | _ => none
  | _ => none
def extM (p : PV) (ps : List PV) (st : Store) : Option (PV × Store) :=
  match p, ps with
  | .ref n, [q] => match st[n]? with
    | some (.lst xs) => match asL q st with
      | some ys => if xs.length + ys.length ≤ sizeLine then some (.non, st.set n (.lst (xs ++ ys))) else none
      | none => none
    | _ => none
  | _, _ => none
def joinL (sep : List Nat) : List (List Nat) → List Nat
  | [] => []
  | [x] => x
  | x :: r => x ++ sep ++ joinL sep r
def joinM (p : PV) (ps : List PV) (st : Store) : Option (PV × Store) :=
  match p, ps with
  | .str a, [q] => match (asQ q st).bind strL with
    | some ss => if (ss.map (·.length)).sum + ss.length * a.length ≤ 16777216 then some (.str (joinL a ss), st) else none
    | none => none
  | _, _ => none
theorem joinL_eq (sep : List Nat) : ∀ ss : List (List Nat), Txt.join ⟨sep.toArray⟩ (ss.map fun x => ⟨x.toArray⟩) = ⟨(joinL sep ss).toArray⟩ := by
  intro ss
  show Builtin.Str.glued ⟨sep.toArray⟩ _ = _
  rw [PySem.StrLaws.glued_eq_join]
  induction ss with
  | nil => rfl
  | cons x r ih =>
    cases r with
    | nil => rfl
    | cons y r =>
      show (⟨x.toArray⟩ : Str) ++ ⟨sep.toArray⟩ ++ Str.join ⟨sep.toArray⟩ ((y :: r).map fun x => (⟨x.toArray⟩ : Str)) = ⟨(x ++ sep ++ joinL sep (y :: r)).toArray⟩
      rw [ih, str_app, str_app]
theorem joinL_length (sep : List Nat) : ∀ ss : List (List Nat), (joinL sep ss).length ≤ (ss.map (·.length)).sum + ss.length * sep.length
  | [] => by simp [joinL]
  | [x] => by simp [joinL]
  | x :: y :: r => by
    have ih := joinL_length sep (y :: r)
    simp only [joinL, List.length_append, List.map_cons, List.sum_cons, List.length_cons] at ih ⊢
    have e1 : (r.length + 1) * sep.length = r.length * sep.length + sep.length := by rw [Nat.add_mul, Nat.one_mul]
    have e2 : (r.length + 1 + 1) * sep.length = r.length * sep.length + sep.length + sep.length := by rw [Nat.add_mul, Nat.one_mul, e1]
    rw [e1] at ih
    rw [e2]
    omega
section
variable {X : Cx} {T : Txt}
theorem meApp (hK : T.K = X.K) : MtR X "list.append" (rM T appM) := by
  rintro pins s σ H x xs v us Q I rx rs ⟨W, st, p, ps, z, S, rp, rps, h, k⟩
  match p, ps, h with
  | .ref n, [q], h =>
    obtain ⟨u, rfl, rq⟩ := reps1 rps
    cases hc : st[n]? with
    | none => simp only [appM, hc] at h; cases h
    | some c =>
      simp only [appM, hc] at h
      cases c with
      | lst ys =>
        have h : (if ys.length < sizeLine then some (PV.non, st.set n (.lst (ys ++ [q]))) else none) = some z := h
        by_cases hz : ys.length < sizeLine
        · rw [if_pos hz] at h
          have h := Option.some.inj h
          subst h
          obtain ⟨a, e, rfl⟩ := rp
          obtain ⟨vs, f, r1⟩ := S.cell n a _ e hc
          refine mt_append pins s σ H _ _ v us Q I rx rs ⟨a, vs, u, rfl, rfl, f, by rw [Reps.length r1]; exact hz, ?_⟩
          obtain ⟨g, S'⟩ := S.write e hc rfl (.lst (vs ++ [u])) (c' := .lst (ys ++ [q])) ⟨_, upd_same, r1.app (Reps.one rq)⟩
          exact k _ _ g S' _ rfl
        · rw [if_neg hz] at h; cases h
      | _ => cases h
theorem mePop (hK : T.K = X.K) : MtR X "list.pop" (rM T popM) := by
  rintro pins s σ H x xs v us Q I rx rs ⟨W, st, p, ps, z, S, rp, rps, h, k⟩
  cases p with
  | ref n =>
    cases hc : st[n]? with
    | none => simp only [popM, hc] at h; cases h
    | some c =>
      simp only [popM, hc] at h
      cases c with
      | lst ys =>
        obtain ⟨a, e, rfl⟩ := rp
        obtain ⟨vs, f, r1⟩ := S.cell n a _ e hc
        match ps, h with
        | [], h =>
          cases rps
          obtain ⟨q, hq, rfl⟩ := Option.map_eq_some_iff.mp h
          obtain ⟨w, hw, rw'⟩ := r1.get hq
          refine mt_pop pins s σ H _ _ v us Q I rx rs ⟨a, vs, w, rfl, rfl, f, by rw [Reps.length r1]; exact hw, ?_⟩
          have r2 : Reps T.K W ys.dropLast vs.dropLast := by
            rw [List.dropLast_eq_take, List.dropLast_eq_take, Reps.length r1]; exact r1.take _
          obtain ⟨g, S'⟩ := S.write e hc rfl (.lst vs.dropLast) (c' := .lst ys.dropLast) ⟨_, upd_same, r2⟩
          exact k _ _ g S' _ rw'
        | [.int i], h =>
          obtain ⟨u, rfl, rq⟩ := reps1 rps
          cases rq
          have h : (match ixN ys.length i with
            | some k => if ys.length < 2 ^ 62 then ys[k]?.map fun q => (q, st.set n (Cell.lst (ys.eraseIdx k))) else none
            | none => none) = some z := h
          cases hi : ixN ys.length i with
          | none => simp only [hi] at h; cases h
          | some j =>
            simp only [hi] at h
            by_cases hz : ys.length < 2 ^ 62
            · rw [if_pos hz] at h
              obtain ⟨q, hq, rfl⟩ := Option.map_eq_some_iff.mp h
              obtain ⟨w, hw, rw'⟩ := r1.get hq
              obtain ⟨k1, k2, k3, k4⟩ := ixN_seq hi
              refine mt_popAt pins s σ H _ _ v us Q I rx rs ⟨a, vs, i, j, w, rfl, rfl, f, by omega, by omega, by rw [Reps.length r1]; exact k1, hw, ?_⟩
              obtain ⟨g, S'⟩ := S.write e hc rfl (.lst (vs.eraseIdx j)) (c' := .lst (ys.eraseIdx j)) ⟨_, upd_same, r1.erase j⟩
              exact k _ _ g S' _ rw'
            · rw [if_neg hz] at h; cases h
      | _ => cases h
  | _ => cases h
theorem meExt (hK : T.K = X.K) : MtR X "list.extend" (rM T extM) := by
  rintro pins s σ H x xs v us Q I rx rs ⟨W, st, p, ps, z, S, rp, rps, h, k⟩
  match p, ps, h with
  | .ref n, [q], h =>
    obtain ⟨u, rfl, rq⟩ := reps1 rps
    cases hc : st[n]? with
    | none => simp only [extM, hc] at h; cases h
    | some c =>
      simp only [extM, hc] at h
      cases c with
      | lst ys =>
        cases hq : asL q st with
        | none => simp only [hq] at h; cases h
        | some ws =>
          simp only [hq] at h
          by_cases hz : ys.length + ws.length ≤ sizeLine
          · rw [if_pos hz] at h
            have h := Option.some.inj h
            subst h
            obtain ⟨a, e, rfl⟩ := rp
            obtain ⟨vs, f, r1⟩ := S.cell n a _ e hc
            obtain ⟨b, us', rfl, f2, r2⟩ := asL_at S rq hq
            refine mt_extend pins s σ H _ _ v us Q I rx rs ⟨a, b, vs, us', rfl, rfl, f, f2, by rw [Reps.length r1, Reps.length r2]; exact hz, ?_⟩
            obtain ⟨g, S'⟩ := S.write e hc rfl (.lst (vs ++ us')) (c' := .lst (ys ++ ws)) ⟨_, upd_same, r1.app r2⟩
            exact k _ _ g S' _ rfl
          · rw [if_neg hz] at h; cases h
      | _ => cases h
theorem meJoin (hK : T.K = X.K) : MtR X "str.join" (rM T joinM) := by
  obtain ⟨K, cl⟩ := T
  have hK : K = X.K := hK
  subst hK
  rintro pins s σ H x xs v us Q I rx rs ⟨W, st, p, ps, z, S, rp, rps, h, k⟩
  match p, ps, h with
  | .str a, [q], h =>
    obtain ⟨u, rfl, rq⟩ := reps1 rps
    have h : (match (asQ q st).bind strL with
      | some ss => if (ss.map (·.length)).sum + ss.length * a.length ≤ 16777216 then some (PV.str (joinL a ss), st) else none
      | none => none) = some z := h
    cases hq : (asQ q st).bind strL with
    | none => simp only [hq] at h; cases h
    | some ss =>
      simp only [hq] at h
      by_cases hz : (ss.map (·.length)).sum + ss.length * a.length ≤ 16777216
      · rw [if_pos hz] at h
        have h := Option.some.inj h
        subst h
        obtain ⟨ys, h1, h2⟩ := Option.bind_eq_some_iff.mp hq
        obtain ⟨b, vs, rfl, e1, r1⟩ := asQ_at S rq h1
        obtain ⟨rfl, _, _⟩ := strs_at r1 h2
        obtain ⟨rfl, _⟩ := rp
        refine mt_join pins s σ H _ _ v us Q I rx rs ⟨⟨a.toArray⟩, b, ss.map fun x => ⟨x.toArray⟩, rfl, rfl, by rw [List.map_map]; exact e1, ?_, k.here S ?_⟩
        · rw [List.map_map, List.length_map, str_len]
          have : ((fun x : Str => x.length) ∘ fun x : List Nat => (⟨x.toArray⟩ : Str)) = fun x => x.length := by funext x; exact str_len x
          rw [this]; exact hz
        · rw [joinL_eq]
          exact ⟨rfl, Nat.le_trans (joinL_length a ss) (by rw [sizeLine_eq]; exact hz)⟩
      · rw [if_neg hz] at h; cases h
end
end Pv
set_option maxHeartbeats 4000000
/-! Pv, part R: sorted() of tuples whose first words rise already. -/
namespace Pv
open PySem PySem.Spec PyProof.Rows PySem.SeqAt L2

def keyT : PV → Option (List Nat)
  | .tup (.str s :: _) => some s
  | _ => none
def keysT : List PV → Option (List (List Nat))
  | [] => some []
  | p :: ps => (keyT p).bind fun k => (keysT ps).map fun ks => k :: ks
def ascN : List (List Nat) → Bool
  | a :: b :: r => decide (a < b) && ascN (b :: r)
  | _ => true
def srtT (bx : Bool) (ps : List PV) (st : Store) : Option (PV × Store) := match srtB bx ps st with
  | some z => some z
  | none => match ps with
    | [p] => (asR p st).bind fun xs => (keysT xs).bind fun ks => if ascN ks then some (newL bx xs st) else none
    | _ => none
theorem ascN_pair : ∀ {l : List (List Nat)}, ascN l = true → l.Pairwise (· < ·)
  | [], _ => .nil
  | [a], _ => List.pairwise_singleton _ _
  | a :: b :: r, h => by
    unfold ascN at h
    rw [Bool.and_eq_true] at h
    have ih := ascN_pair h.2
    have hab : a < b := of_decide_eq_true h.1
    refine List.pairwise_cons.mpr ⟨fun z hz => ?_, ih⟩
    rcases List.mem_cons.mp hz with rfl | hz
    · exact hab
    · exact List.lt_trans hab ((List.pairwise_cons.mp ih).1 z hz)
/-- a tuple at v whose first item is the text s -/
def Tk (h : Heap) (v : Value) (s : List Nat) : Prop := ∃ a o items t r n, v = .ref a ∧ h.get? a = some o ∧ o.cls = .type "tuple" ∧ o.data = .seq items n ∧ items.toList = .str ⟨s.toArray⟩ t :: r
theorem Tk.uniq {h : Heap} {v : Value} {s s' : List Nat} (a : Tk h v s) (b : Tk h v s') : s = s' := by
  obtain ⟨a, o, it, t, r, n, rfl, e1, _, d1, l1⟩ := a
  obtain ⟨a', o', it', t', r', n', e, e2, _, d2, l2⟩ := b
  cases e
  rw [e1] at e2; cases e2
  rw [d1] at d2; cases d2
  rw [l1] at l2
  cases l2
  rfl
open Classical in
noncomputable def keyV (h : Heap) (v : Value) : List Nat := if q : ∃ s, Tk h v s then q.choose else []
theorem keyV_of {h : Heap} {v : Value} {s : List Nat} (t : Tk h v s) : keyV h v = s := by
  unfold keyV
  have q : ∃ s, Tk h v s := ⟨s, t⟩
  rw [dif_pos q]
  exact q.choose_spec.uniq t
noncomputable def ltK (h : Heap) (v u : Value) : Bool := decide (keyV h v < keyV h u)
theorem swoK (h : Heap) : SrtO.Swo (ltK h) := ⟨fun x y e => by
    unfold ltK at e ⊢
    exact decide_eq_false (List.lt_asymm (of_decide_eq_true e)), fun x y z e1 e2 => by
    unfold ltK at e1 e2 ⊢
    exact decide_eq_false (List.not_lt.mpr (List.le_trans (List.not_lt.mp (of_decide_eq_false e1)) (List.not_lt.mp (of_decide_eq_false e2))))⟩
theorem pair_inj {α : Type} {f : α → List Nat} : ∀ {l : List α}, (l.map f).Pairwise (· < ·) → ∀ {a b : α}, a ∈ l → b ∈ l → f a = f b → a = b
  | [], _, _, _, h, _, _ => absurd h (by simp)
  | x :: r, p, a, b, ha, hb, e => by
    rw [List.map_cons, List.pairwise_cons] at p
    rcases List.mem_cons.mp ha with ea | ha'
    · rcases List.mem_cons.mp hb with eb | hb'
      · rw [ea, eb]
      · exact absurd (p.1 _ (List.mem_map_of_mem hb')) (by rw [← e, ea]; exact List.lt_irrefl _)
    · rcases List.mem_cons.mp hb with eb | hb'
      · exact absurd (p.1 _ (List.mem_map_of_mem ha')) (by rw [e, eb]; exact List.lt_irrefl _)
      · exact pair_inj p.2 ha' hb' e
/-- what the items are -/
def Tks (h : Heap) : List Value → List (List Nat) → Prop
  | [], ks => ks = []
  | v :: r, ks => ∃ k t, ks = k :: t ∧ Tk h v k ∧ Tks h r t
theorem Tks.mem {h : Heap} : ∀ {vs : List Value} {ks : List (List Nat)}, Tks h vs ks → ∀ v ∈ vs, ∃ s, Tk h v s
  | [], _, _, v, hv => absurd hv (by simp)
  | x :: r, _, ⟨k, t, _, a, b⟩, v, hv => by
    rcases List.mem_cons.mp hv with rfl | hv
    · exact ⟨k, a⟩
    · exact b.mem v hv
theorem Tks.map {h : Heap} : ∀ {vs : List Value} {ks : List (List Nat)}, Tks h vs ks → vs.map (keyV h) = ks
  | [], _, e => by cases e; rfl
  | x :: r, _, ⟨k, t, e, a, b⟩ => by rw [List.map_cons, keyV_of a, b.map, e]
theorem Tks.firsts {h : Heap} : ∀ {vs : List Value} {ks : List (List Nat)}, Tks h vs ks → ∃ fs, PySem.W.KatTups h vs fs ∧ fs.length = vs.length ∧ ∀ f ∈ fs, ∃ s t, f = Value.str s t
  | [], _, _ => ⟨[], .nil, rfl, fun _ h => absurd h (by simp)⟩
  | x :: r, _, ⟨k, t, _, tk, b⟩ => by
    obtain ⟨a, o, it, tt, rr, n, rfl, e1, c1, d1, l1⟩ := tk
    obtain ⟨fs, h1, h2, h3⟩ := b.firsts
    refine ⟨_ :: fs, .cons e1 c1 d1 (f := .str ⟨k.toArray⟩ tt) (by rw [← Array.getElem?_toList, l1]; rfl) h1, by simp [h2], fun f hf => ?_⟩
    rcases List.mem_cons.mp hf with rfl | hf
    · exact ⟨_, _, rfl⟩
    · exact h3 f hf
theorem Tk.keeps {h h' : Heap} {v : Value} {s : List Nat} (t : Tk h v s) (k : ∀ b o, v = .ref b → h.get? b = some o → h'.get? b = some o) : Tk h' v s := by
  obtain ⟨a, o, it, tt, r, n, e, e1, c1, d1, l1⟩ := t
  exact ⟨a, o, it, tt, r, n, e, k a o e e1, c1, d1, l1⟩
section
variable {prog : Program} {w : World} {A : Around} {s : Shared}
theorem lex_self {b fin : Bool} {Q : Bool → Shared → Prop} (h : Q fin s) : ∀ (l : List Value) (i : Nat), PySem.W.KatLex prog w A b fin Q (l.zip l) i s
  | [], i => PySem.W.kat_nil h
  | v :: r, i => PySem.W.kat_cons (EqAt.same v prog w _ _ (PySem.W.kat_yes (lex_self h r (i + 1))))
theorem cmpK {h0 : Heap} {vs : List Value} {ks : List (List Nat)} (hk : Tks h0 vs ks) (hp : ks.Pairwise (· < ·)) (keep : ∀ v ∈ vs, ∀ k, Tk h0 v k → Tk s.heap v k) : SrtO.Cmp prog w A s (tuples' true) (fun p => p.1 ∈ vs) (SrtO.lt2 (ltK h0)) := by
  intro p q hm hm'
  have inj := @pair_inj _ (keyV h0) vs (by rw [hk.map]; exact hp)
  obtain ⟨k1, t1⟩ := hk.mem _ hm
  obtain ⟨k2, t2⟩ := hk.mem _ hm'
  have e1 := keyV_of t1
  have e2 := keyV_of t2
  show wpAny (model prog w) A (keyLt' (tuples' true) p.1 q.1) (fun r s' => s' = s ∧ r = ltK h0 p.1 q.1) (fun _ _ => False) s
  obtain ⟨a, o, it, t, r, n, ea, ho, hc, hd, l1⟩ := keep _ hm _ t1
  obtain ⟨a', o', it', t', r', n', ea', ho', hc', hd', l2⟩ := keep _ hm' _ t2
  by_cases hpq : p.1 = q.1
  · rw [← hpq, ea]
    refine PySem.W.kat_lt ho hd ho hd (lex_self ⟨rfl, ?_⟩ _ _)
    unfold ltK
    rw [decide_eq_false (Nat.lt_irrefl _), decide_eq_false (List.lt_irrefl _)]
  · have hne : k1 ≠ k2 := fun e => hpq (inj hm hm' (by rw [e1, e2, e]))
    unfold ltK
    rw [e1, e2, ea, ea']
    refine PySem.W.kat_lt ho hd ho' hd' ?_
    rw [l1, l2]
    refine PySem.W.kat_cons (SeqAt.EqAt.str_str _ _ _ _ prog w _ _ ?_)
    have hb : ((⟨k1.toArray⟩ : PySem.Str) == ⟨k2.toArray⟩) = false := beq_eq_false_iff_ne.mpr fun e => hne (by injection e with e; simpa using e)
    rw [hb]
    exact PySem.W.kat_no (oneLt_str ⟨rfl, by simp⟩)
theorem sortK {h0 : Heap} {a : Addr} {vs : List Value} {ks : List (List Nat)} (hk : Tks h0 vs ks) (k0 : ∀ v k, Tk h0 v k → Tk s.heap v k) (hp : ks.Pairwise (· < ·)) (h2 : 2 ≤ vs.length) (ha : ∀ o, s.heap.get? a = some o → o.cls ≠ .type "tuple") : SrtO.SortableO prog w A s a vs (ltK h0) := by
  intro h' keep
  have kk : ∀ v ∈ vs, ∀ k, Tk h0 v k → Tk h' v k := fun v _ k t => by
    obtain ⟨b, o, it, t, r, n, e, e1, c1, d1, l1⟩ := k0 v k t
    exact ⟨b, o, it, t, r, n, e, keep b o (fun z => by subst z; exact ha o e1 c1) e1, c1, d1, l1⟩
  have kks : ∀ {vs : List Value} {ks : List (List Nat)}, (∀ v ∈ vs, ∀ k, Tk h0 v k → Tk h' v k) → Tks h0 vs ks → Tks h' vs ks := fun {vs} => by
    induction vs with
    | nil => exact fun _ h => h
    | cons x r ih => exact fun kk ⟨k, t, e, a, b⟩ => ⟨k, t, e, kk x List.mem_cons_self k a, ih (fun v hv => kk v (List.mem_cons_of_mem _ hv)) b⟩
  obtain ⟨fs, h1, h2', h3⟩ := (kks kk hk).firsts
  refine ⟨tuples' true, fun Q E hq => ?_, cmpK (s := { s with heap := h' }) hk hp kk⟩
  refine PySem.W.kat_kind (T := .type "str") h1 (by omega) (fun f hm => ?_) (by rfl) ?_
  · obtain ⟨x, t, rfl⟩ := h3 f hm
    exact PySem.W.Looks.now
  · have e : (Value.type "str" != Value.type "tuple") = true := by first | decide +kernel | rfl | decide
    rw [e]
    exact hq
end
theorem tks_of {X : Cx} {pins : List (Addr × Obj)} {σ : L2.St} {H : Hp} {s : Shared} {W : Wd} (I : Inv X pins σ H s) (S : ∀ a o, W.F a = some o → H a = some o) : ∀ {xs : List PV} {vs : List V} {us : List Value} {ks : List (List Nat)}, Reps X.K W xs vs → Vals vs us → keysT xs = some ks → Tks s.heap us ks
  | [], _, _, _, r, q, e => by cases r; cases q; cases e; rfl
  | p :: ps, _, _, ks, ⟨v, r, e0, rp, rr⟩, q, e => by
    subst e0
    cases q with
    | @cons _ u _ us ru rs =>
      obtain ⟨k, h1, e⟩ := Option.bind_eq_some_iff.mp (show (keyT p).bind (fun k => (keysT ps).map fun ks => k :: ks) = some ks from e)
      obtain ⟨t, h2, e⟩ := Option.map_eq_some_iff.mp e
      subst e
      refine ⟨k, t, rfl, ?_, tks_of I S rr rs h2⟩
      unfold keyT at h1
      split at h1
      · cases h1
        obtain ⟨l, ws, its, rfl, ⟨o, ho, hc, n, hd⟩, rv, rw', _⟩ := (seq_items I S).1 rp ru
        obtain ⟨w1, wr, rfl, ⟨rfl, _⟩, _⟩ := rw'
        generalize hit : its.toList = L at rv
        cases rv with
        | cons z zs =>
          obtain ⟨tk, rfl⟩ := z
          exact ⟨l, o, its, tk, _, n, rfl, ho, hc, hd, hit⟩
      · cases h1
theorem biSrtT {X : Cx} {T : Txt} (hK : T.K = X.K) (hc : X.calm = true) (bx : Bool) : CallR X (.builtin "sorted") (rC T (srtT bx)) := by
  rintro pins s σ H xs us Q I r ⟨W, st, ps, z, S, rs, h, k⟩
  unfold srtT at h
  cases h0 : srtB bx ps st with
  | some z' =>
    simp only [h0] at h
    cases h
    exact biSrt hK hc bx pins s σ H xs us Q I r ⟨W, st, ps, z, S, rs, h0, k⟩
  | none =>
    simp only [h0] at h
    obtain ⟨K, cl⟩ := T
    have hK : K = X.K := hK
    subst hK
    match ps, h with
    | [p], h =>
      obtain ⟨ys, h1, h⟩ := Option.bind_eq_some_iff.mp h
      obtain ⟨ks, h2, h⟩ := Option.bind_eq_some_iff.mp h
      by_cases ha : ascN ks = true
      rotate_left
      · rw [if_neg ha] at h; cases h
      rw [if_pos ha] at h
      have h := Option.some.inj h
      subst h
      obtain ⟨v, rfl, rp⟩ := reps1 rs
      obtain ⟨a, vs, rfl, e1, r1⟩ := asR_at S rp h1
      obtain ⟨its, rv, hl, hz⟩ := I.list e1
      rw [Vals.ref1 r]
      have tk := tks_of I S.sub r1 rv h2
      have hp := ascN_pair ha
      refine SrtO.sorted_ord (swoK s.heap) hl.isList (by rw [← rv.length]; exact hz) (fun h2 h₁ a' ha' kp => ?_) fun out h1 h2 => ?_
      · exact sortK (s := { s with heap := h₁ }) tk (fun v k t => t.keeps fun b o _ e => (kp b o e).2) hp h2 fun o e => by
          have e' : some o = some (seqObj "list" its.toArray 0) := e.symm.trans ha'
          cases e'
          intro c
          exact absurd (Value.type.inj c) (by decide)
      · have inj := @pair_inj _ (keyV s.heap) its (by rw [tk.map]; exact hp)
        have e : out = its := by
          refine List.Perm.eq_of_pairwise (le := fun x y => ltK s.heap y x = false) (fun x y hx hy e1 e2 => inj (h2.perm.mem_iff.mp hx) hy ?_) h1 ?_ h2.perm
          · unfold ltK at e1 e2
            exact List.le_antisymm (List.not_lt.mp (of_decide_eq_false e1)) (List.not_lt.mp (of_decide_eq_false e2))
          · have p2 : (its.map (keyV s.heap)).Pairwise (· < ·) := by rw [tk.map]; exact hp
            refine (List.pairwise_map.mp p2).imp fun {x y} h => ?_
            unfold ltK
            exact decide_eq_false (List.lt_asymm h)
        subst e
        obtain ⟨ep, he'⟩ := PyProof.Rows.sortedAll_at s.heap out out.toArray
        exact ⟨.ref _, upd H (s.heap.objs.size + 1) (.lst vs), I.laid (t' := s.toks) (fun _ _ => PyProof.Rows.sortedAll_old) (Nat.le_succ _) ⟨hz, out, ep, rv, he'⟩, rfl, k.newL S r1 _ (I.hok.fresh (Nat.le_succ _))⟩
    | [], h => cases h
    | _ :: _ :: _, h => cases h
end Pv
set_option maxHeartbeats 2000000
/-! Pv, part G: readings by an evaluator's answer; expressions. -/
namespace Pv
open PySem PySem.Spec PyProof.Rows PySem.SeqAt L2

theorem PEimp {X : Cx} {e : Expr} {t t' : TE} (h : PE X e t) (i : ∀ σ H Q, t' σ H Q → t σ H Q) : PE X e t' := ⟨fun pins s σ H Q I q => h.run pins s σ H Q I (i σ H Q q)⟩
theorem PTimp {X : Cx} {e : Expr} {t t' : TT} (h : PT X e t) (i : ∀ σ H Q, t' σ H Q → t σ H Q) : PT X e t' := ⟨fun pins s σ H Q I q => h.run pins s σ H Q I (i σ H Q q)⟩
theorem PWimp {X : Cx} {e : Expr} {t t' : TT} (h : PW X e t) (i : ∀ σ H Q, t' σ H Q → t σ H Q) : PW X e t' := ⟨fun wh pins s σ H Q I q => h.run wh pins s σ H Q I (i σ H Q q)⟩
theorem PAimp {X : Cx} {es : List Expr} {t t' : TA} (h : PA X es t) (i : ∀ σ H Q, t' σ H Q → t σ H Q) : PA X es t' := ⟨fun pos pins s σ H Q I q => h.run pos pins s σ H Q I (i σ H Q q)⟩
theorem PSimp {X : Cx} {e : Stmt} {t t' : TS} (h : PS X e t) (i : ∀ D σ H, t' D σ H → t D σ H) : PS X e t' := ⟨fun pins s σ H D I q => h.run pins s σ H D I (i D σ H q)⟩
theorem PSsimp {X : Cx} {e : List Stmt} {t t' : TS} (h : PSs X e t) (i : ∀ D σ H, t' D σ H → t D σ H) : PSs X e t' := ⟨fun pins s σ H D I q => h.run pins s σ H D I (i D σ H q)⟩
theorem PIimp {X : Cx} {tg e : Expr} {t t' : TI} (h : PI X tg e t) (i : ∀ σ H R, t' σ H R → t σ H R) : PI X tg e t' := ⟨fun pins s σ H R I q => h.run pins s σ H R I (i σ H R q)⟩

/-- how an exception lies -/
def ExcAt (T : Txt) (W : Wd) (H : Hp) (x : Exc) (cls : Value) (d : Option Addr) : Prop :=
  cls = .ref (T.cl x.c) ∧ match x.fs with
    | none => d = none
    | some fs => ∃ e us, d = some e ∧ H e = some (.xd us) ∧ RepF T.K W fs us

/-- what is wanted behind an answer of the evaluator -/
def RQ (T : Txt) (Wx : WX) (σ : L2.St) (W : Wd) (H : Hp) {α : Type} (r : R α) (k : α → Store → Wd → Hp → Prop) : Prop :=
  match r with
  | .ok a st => ∀ W' H', Go W H W' H' → Sim T W' st H' → k a st W' H'
  | .ex x st => ∀ W' H' cls d, Go W H W' H' → Sim T W' st H' → ExcAt T W' H' x cls d → Wx cls d σ H'
  | .stuck => False
section
variable {T : Txt} {Wx : WX} {σ : L2.St} {W W1 : Wd} {H H1 : Hp} {α β : Type}
theorem RQ.later {r : R α} {k : α → Store → Wd → Hp → Prop} (h : RQ T Wx σ W H r k) (g : Go W H W1 H1) : RQ T Wx σ W1 H1 r k := by
  cases r with
  | ok a st => exact fun W' H' g' => h W' H' (g.trans g')
  | ex x st => exact fun W' H' cls d g' => h W' H' cls d (g.trans g')
  | stuck => exact h
theorem RQ.mono {r : R α} {k k' : α → Store → Wd → Hp → Prop} (h : RQ T Wx σ W H r k) (i : ∀ a st W' H', Go W H W' H' → Sim T W' st H' → k a st W' H' → k' a st W' H') : RQ T Wx σ W H r k' := by
  cases r with
  | ok a st => exact fun W' H' g S => i a st W' H' g S (h W' H' g S)
  | ex x st => exact h
  | stuck => exact h
theorem RQ.bind {r : R α} {f : α → Store → R β} {k : β → Store → Wd → Hp → Prop} (h : RQ T Wx σ W H (r.bind f) k) : RQ T Wx σ W H r fun a st W' H' => RQ T Wx σ W' H' (f a st) k := by
  cases r with
  | ok a st => exact fun W' H' g S => RQ.later (show RQ T Wx σ W H (f a st) k from h) g
  | ex x st => exact h
  | stuck => exact h
theorem RQ.here {a : α} {st : Store} {k : α → Store → Wd → Hp → Prop} (h : RQ T Wx σ W H (.ok a st) k) (S : Sim T W st H) : k a st W H := h W H (.refl W H) S
end
@[inline] def lift (o : Option PV) (st : Store) : R PV := match o with
  | some z => .ok z st
  | none => .stuck
@[inline] def liftS (o : Option (PV × Store)) : R PV := match o with
  | some z => .ok z.1 z.2
  | none => .stuck
theorem RQ.lift {T : Txt} {Wx : WX} {σ : L2.St} {W : Wd} {H : Hp} {o : Option PV} {st : Store} {Q : VK} (h : RQ T Wx σ W H (lift o st) fun p st' W' H' => ∀ v, Rep T.K W' p v → Q v H') : ∃ z, o = some z ∧ Post T W st H z Q := by
  cases o with
  | none => exact h.elim
  | some z => exact ⟨z, rfl, h⟩
theorem RQ.liftS {T : Txt} {Wx : WX} {σ : L2.St} {W : Wd} {H : Hp} {o : Option (PV × Store)} {Q : VK} (h : RQ T Wx σ W H (liftS o) fun p st' W' H' => ∀ v, Rep T.K W' p v → Q v H') : ∃ z, o = some z ∧ PostS T W H z Q := by
  cases o with
  | none => exact h.elim
  | some z => exact ⟨z, rfl, h⟩

abbrev FE := Sig → Store → R PV
abbrev FA := Sig → Store → R (List PV)
abbrev FT := Sig → Store → R Bool
def TEv (T : Txt) (Wx : WX) (f : FE) : TE := fun σ H Q => ∃ W sg st, Sim T W st H ∧ SigOk T.K W sg σ ∧ RQ T Wx σ W H (f sg st) fun p st' W' H' => ∀ v, Rep T.K W' p v → Q v H'
def TAv (T : Txt) (Wx : WX) (f : FA) : TA := fun σ H Q => ∃ W sg st, Sim T W st H ∧ SigOk T.K W sg σ ∧ RQ T Wx σ W H (f sg st) fun ps st' W' H' => ∀ vs, Reps T.K W' ps vs → Q vs H'
def TTv (T : Txt) (Wx : WX) (f : FT) : TT := fun σ H Q => ∃ W sg st, Sim T W st H ∧ SigOk T.K W sg σ ∧ RQ T Wx σ W H (f sg st) fun b st' W' H' => Q b H'

section
variable {X : Cx} {T : Txt} {Wx : WX} {a b c e : Expr} {f g h : FE} {pos : Pos}

/-! ### names, constants -/
def fVar (i : Nat) : FE := fun sg st => match sg[i]? with
  | some (some p) => .ok p st
  | _ => .stuck
def fC (p : PV) : FE := fun _ st => .ok p st
theorem de_var {i : Nat} {x : Str} (hK : T.K = X.K) (hN : X.N[i]? = some x) (hv : Vis X.env.scope x) (hd : (x == ("__debug__" : Str)) = false) (hcd : (x == ("__classdict__" : Str)) = false) : PE X (.Name x pos) (TEv T Wx (fVar i)) :=
  PEimp (pe_var hN hv hd hcd) fun σ H Q ⟨W, sg, st, S, so, q⟩ => by
    unfold fVar at q
    cases hi : sg[i]? with
    | none => simp only [hi] at q; exact q.elim
    | some o =>
      cases o with
      | none => simp only [hi] at q; exact q.elim
      | some p =>
        simp only [hi] at q
        obtain ⟨v, hv, r⟩ := so.get i p hi
        exact ⟨v, hv, q.here S v r⟩
/-- a value that lies the same in every world -/
def Fixed (K : PySem.W.Frag) (p : PV) (v : V) : Prop := ∀ W, Rep K W p v
theorem tC_of {p : PV} {v : V} (h : Fixed T.K p v) : ∀ σ H Q, TEv T Wx (fC p) σ H Q → tC v σ H Q := fun σ H Q ⟨W, sg, st, S, so, q⟩ => RQ.here q S v (h W)
theorem de_int {i : Int} {j} : PE X (.Constant (.int i) j pos) (TEv T Wx (fC (.int i))) := PEimp pe_int (tC_of fun _ => rfl)
theorem de_bl {i : Bool} {j} : PE X (.Constant (.bool i) j pos) (TEv T Wx (fC (.bl i))) := PEimp pe_bl (tC_of fun _ => rfl)
theorem de_non {j} : PE X (.Constant .none j pos) (TEv T Wx (fC .non)) := PEimp pe_non (tC_of fun _ => rfl)
theorem de_str {x : Str} {j} (hz : x.cps.toList.length ≤ sizeLine) : PE X (.Constant (.str x) j pos) (TEv T Wx (fC (.str x.cps.toList))) :=
  PEimp pe_str (tC_of fun _ => ⟨by cases x; simp [strV], hz⟩)
theorem de_glob {x : Str} {p : PV} {v : V} {u : Value} (hg : Gl X x) (hm : X.mg x = some u) (r : RelV v u) (hp : Fixed T.K p v) (hd : (x == ("__debug__" : Str)) = false) : PE X (.Name x pos) (TEv T Wx (fC p)) :=
  PEimp (pe_glob hg hm r hd) (tC_of hp)

/-! ### operators -/
def fBin (o : PV → PV → Store → Option PV) (f g : FE) : FE := fun sg st => (f sg st).bind fun p st => (g sg st).bind fun q st => lift (o p q st) st
theorem tOp_of {o : PV → PV → Store → Option PV} : ∀ σ H Q, TEv T Wx (fBin o f g) σ H Q → tOp (rP2 T o) (TEv T Wx f) (TEv T Wx g) σ H Q := fun σ H Q ⟨W, sg, st, S, so, q⟩ => by
  refine ⟨W, sg, st, S, so, (RQ.bind q).mono fun p st1 W1 H1 g1 S1 q1 v rv => ⟨W1, sg, st1, S1, so.up g1.le, (RQ.bind q1).mono fun p2 st2 W2 H2 g2 S2 q2 u ru => ?_⟩⟩
  obtain ⟨z, hz, k⟩ := RQ.lift q2
  exact ⟨W2, st2, p, p2, z, S2, rv.up g2.le, ru, hz, k⟩
theorem de_bin {op : Operator} {o : PV → PV → Store → Option PV} (ho : OpR X (binaryOp op) (rP2 T o)) (ha : PE X a (TEv T Wx f)) (hb : PE X b (TEv T Wx g)) : PE X (.BinOp a op b pos) (TEv T Wx (fBin o f g)) :=
  PEimp (pe_op ho ha hb) tOp_of
theorem de_cmp {op : CmpOp} {o : PV → PV → Store → Option PV} (ho : OpR X (compareOp op) (rP2 T o)) (ha : PE X a (TEv T Wx f)) (hb : PE X b (TEv T Wx g)) (hm : behindInMarks op b = false) : PE X (.Compare a [op] [b] pos) (TEv T Wx (fBin o f g)) :=
  PEimp (pe_cmpR ho ha hb hm) tOp_of
def fUn (o : PV → Store → Option PV) (f : FE) : FE := fun sg st => (f sg st).bind fun p st => lift (o p st) st
theorem de_un {op : UnaryOp} {o : PV → Store → Option PV} (ho : UnR X (unaryOp op) (rP1 T o)) (ha : PE X a (TEv T Wx f)) : PE X (.UnaryOp op a pos) (TEv T Wx (fUn o f)) :=
  PEimp (pe_un ho ha) fun σ H Q ⟨W, sg, st, S, so, q⟩ => ⟨W, sg, st, S, so, (RQ.bind q).mono fun p st1 W1 H1 g1 S1 q1 v rv => by
    obtain ⟨z, hz, k⟩ := RQ.lift q1
    exact ⟨W1, st1, p, z, S1, rv, hz, k⟩⟩
/-- a op1 b op2 c -/
def fChain (o o' : PV → PV → Store → Option PV) (f g h : FE) : FE := fun sg st => (f sg st).bind fun p st => (g sg st).bind fun q st => match o p q st with
  | some (.bl true) => (h sg st).bind fun r st => lift (o' q r st) st
  | some (.bl false) => .ok (.bl false) st
  | _ => .stuck
theorem tChain_of {o o' : PV → PV → Store → Option PV} : ∀ σ H Q, TEv T Wx (fChain o o' f g h) σ H Q → tChain (rP2 T o) (rP2 T o') (TEv T Wx f) (TEv T Wx g) (TEv T Wx h) σ H Q := fun σ H Q ⟨W, sg, st, S, so, q⟩ => by
  refine ⟨W, sg, st, S, so, (RQ.bind q).mono fun p st1 W1 H1 g1 S1 q1 v rv => ⟨W1, sg, st1, S1, so.up g1.le, (RQ.bind q1).mono fun p2 st2 W2 H2 g2 S2 q2 u ru => ?_⟩⟩
  cases ho : o p p2 st2 with
  | none => simp only [ho] at q2; exact q2.elim
  | some z =>
    simp only [ho] at q2
    cases z with
    | bl bb =>
      refine ⟨W2, st2, p, p2, .bl bb, S2, rv.up g2.le, ru, ho, fun W3 H3 g3 S3 w rw' => ?_⟩
      cases rw'
      refine ⟨bb, rfl, ?_⟩
      cases bb with
      | false =>
        rw [if_neg Bool.false_ne_true]
        exact (RQ.later q2 g3).here S3 (.bl false) rfl
      | true =>
        rw [if_pos rfl]
        refine ⟨W3, sg, st2, S3, so.up (g1.le.trans (g2.le.trans g3.le)), (RQ.bind (RQ.later q2 g3)).mono fun p3 st4 W4 H4 g4 S4 q4 u2 ru2 => ?_⟩
        obtain ⟨z, hz, k⟩ := RQ.lift q4
        exact ⟨W4, st4, p2, p3, z, S4, ru.up (g3.le.trans g4.le), ru2, hz, k⟩
    | _ => exact q2.elim
theorem de_chain {op op' : CmpOp} {o o' : PV → PV → Store → Option PV} (ho : OpR X (compareOp op) (rP2 T o)) (ho' : OpR X (compareOp op') (rP2 T o')) (ha : PE X a (TEv T Wx f)) (hb : PE X b (TEv T Wx g)) (hc : PE X c (TEv T Wx h))
    (hm : lastMarks [op, op'] [b, c] = false) : PE X (.Compare a [op, op'] [b, c] pos) (TEv T Wx (fChain o o' f g h)) := PEimp (pe_chain ho ho' ha hb hc hm) tChain_of

/-! ### tests -/
def fTru (f : FE) : FT := fun sg st => (f sg st).bind fun p st => match truP p st with
  | some b => .ok b st
  | none => .stuck
theorem tTru_of (hK : T.K = X.K) : ∀ σ H (Q : Bool → Hp → Prop), TTv T Wx (fTru f) σ H Q → TEv T Wx f σ H fun x H' => ∃ k, TruV X.K x H' k ∧ Q k H' := fun σ H Q ⟨W, sg, st, S, so, q⟩ =>
  ⟨W, sg, st, S, so, (RQ.bind q).mono fun p st1 W1 H1 g1 S1 q1 v rv => by
    cases hb : truP p st1 with
    | none => simp only [hb] at q1; exact q1.elim
    | some bb =>
      simp only [hb] at q1
      exact ⟨bb, hK ▸ truP_at S1 rv hb, RQ.here q1 S1⟩⟩
/-- an expression whose test is its value's truth -/
def plainT : Expr → Bool
  | .UnaryOp .Not _ _ => false
  | .BoolOp _ _ _ => false
  | .IfExp _ _ _ _ => false
  | .Compare _ _ _ _ => false
  | _ => true
theorem isTrue_of {e : Expr} (h : plainT e = true) (env : Env) (whole : Sem Value) : isTrue e env whole = (do let v ← whole; standAt e.pos; holding [v] (truthy v)) := by
  cases e with
  | UnaryOp op x p => cases op <;> first | rfl | cases h
  | BoolOp _ _ _ => cases h
  | IfExp _ _ _ _ => cases h
  | Compare _ _ _ _ => cases h
  | _ => rfl
theorem dt_val (hK : T.K = X.K) (ha : PE X a (TEv T Wx f)) (h : plainT a = true) : PT X a (TTv T Wx (fTru f)) := PTimp (pt_truth ha (isTrue_of h X.env)) (tTru_of hK)
/-- a bool as a test -/
def fBl (f : FE) : FT := fun sg st => (f sg st).bind fun p st => match p with
  | .bl b => .ok b st
  | _ => .stuck
theorem tBl_of : ∀ σ H (Q : Bool → Hp → Prop), TTv T Wx (fBl f) σ H Q → tTest (TEv T Wx f) σ H Q := fun σ H Q ⟨W, sg, st, S, so, q⟩ =>
  ⟨W, sg, st, S, so, (RQ.bind q).mono fun p st1 W1 H1 g1 S1 q1 v rv => by
    cases p with
    | bl bb => cases rv; exact ⟨bb, rfl, RQ.here q1 S1⟩
    | _ => exact q1.elim⟩
theorem tTest_mono {t t' : TE} (i : ∀ σ H Q, t' σ H Q → t σ H Q) : ∀ σ H Q, tTest t' σ H Q → tTest t σ H Q := fun σ H Q q => i σ H _ q
theorem dt_cmp {op : CmpOp} {o : PV → PV → Store → Option PV} (ho : OpR X (compareOp op) (rP2 T o)) (ha : PE X a (TEv T Wx f)) (hb : PE X b (TEv T Wx g)) (hm : behindInMarks op b = false) : PT X (.Compare a [op] [b] pos) (TTv T Wx (fBl (fBin o f g))) :=
  PTimp (pt_cmpR ho ha hb hm) fun σ H Q q => tTest_mono tOp_of σ H Q (tBl_of σ H Q q)
theorem dt_chain {op op' : CmpOp} {o o' : PV → PV → Store → Option PV} (ho : OpR X (compareOp op) (rP2 T o)) (ho' : OpR X (compareOp op') (rP2 T o')) (ha : PE X a (TEv T Wx f)) (hb : PE X b (TEv T Wx g)) (hc : PE X c (TEv T Wx h))
    (hm : lastMarks [op, op'] [b, c] = false) : PT X (.Compare a [op, op'] [b, c] pos) (TTv T Wx (fBl (fChain o o' f g h))) := PTimp (pt_chain ho ho' ha hb hc hm) fun σ H Q q => tTest_mono tChain_of σ H Q (tBl_of σ H Q q)
variable {ft gt ht : FT}
def tfAnd (f g : FT) : FT := fun sg st => (f sg st).bind fun b st => if b then g sg st else .ok false st
def tfOr (f g : FT) : FT := fun sg st => (f sg st).bind fun b st => if b then .ok true st else g sg st
def tfNot (f : FT) : FT := fun sg st => (f sg st).bind fun b st => .ok (!b) st
def tfIte (c f g : FT) : FT := fun sg st => (c sg st).bind fun b st => if b then f sg st else g sg st
theorem tAnd_of : ∀ σ H Q, TTv T Wx (tfAnd ft gt) σ H Q → tAnd (TTv T Wx ft) (TTv T Wx gt) σ H Q := fun σ H Q ⟨W, sg, st, S, so, q⟩ =>
  ⟨W, sg, st, S, so, (RQ.bind q).mono fun bb st1 W1 H1 g1 S1 q1 => by
    cases bb with
    | true => rw [if_pos rfl]; exact ⟨W1, sg, st1, S1, so.up g1.le, q1⟩
    | false => rw [if_neg Bool.false_ne_true]; exact RQ.here q1 S1⟩
theorem tOr_of : ∀ σ H Q, TTv T Wx (tfOr ft gt) σ H Q → tOr (TTv T Wx ft) (TTv T Wx gt) σ H Q := fun σ H Q ⟨W, sg, st, S, so, q⟩ =>
  ⟨W, sg, st, S, so, (RQ.bind q).mono fun bb st1 W1 H1 g1 S1 q1 => by
    cases bb with
    | false => rw [if_neg Bool.false_ne_true]; exact ⟨W1, sg, st1, S1, so.up g1.le, q1⟩
    | true => rw [if_pos rfl]; exact RQ.here q1 S1⟩
theorem tNot_of : ∀ σ H Q, TTv T Wx (tfNot ft) σ H Q → tNot (TTv T Wx ft) σ H Q := fun σ H Q ⟨W, sg, st, S, so, q⟩ =>
  ⟨W, sg, st, S, so, (RQ.bind q).mono fun bb st1 W1 H1 g1 S1 q1 => RQ.here q1 S1⟩
variable {rest : List Expr}
theorem dw_and1 (ha : PT X a (TTv T Wx ft)) : PW X (.BoolOp .And [a] pos) (TTv T Wx ft) := pw_and1 ha
theorem dw_or1 (ha : PT X a (TTv T Wx ft)) : PW X (.BoolOp .Or [a] pos) (TTv T Wx ft) := pw_or1 ha
theorem dw_and (ha : PT X a (TTv T Wx ft)) (hb : PW X (.BoolOp .And (b :: rest) pos) (TTv T Wx gt)) : PW X (.BoolOp .And (a :: b :: rest) pos) (TTv T Wx (tfAnd ft gt)) := PWimp (pw_and ha hb) tAnd_of
theorem dw_or (ha : PT X a (TTv T Wx ft)) (hb : PW X (.BoolOp .Or (b :: rest) pos) (TTv T Wx gt)) : PW X (.BoolOp .Or (a :: b :: rest) pos) (TTv T Wx (tfOr ft gt)) := PWimp (pw_or ha hb) tOr_of
theorem dt_not (ha : PT X a (TTv T Wx ft)) : PT X (.UnaryOp .Not a pos) (TTv T Wx (tfNot ft)) := PTimp (pt_not ha) tNot_of
theorem dt_ite (hc : PT X c (TTv T Wx ht)) (ha : PT X a (TTv T Wx ft)) (hb : PT X b (TTv T Wx gt)) : PT X (.IfExp c a b pos) (TTv T Wx (tfIte ht ft gt)) := by
  refine ⟨fun pins s σ H Q I ⟨W, sg, st, S, so, q⟩ => ?_⟩
  show wpAny _ _ (isTrue c X.env (eval c X.env) >>= fun t => if t = true then isTrue a X.env (eval a X.env) else isTrue b X.env (eval b X.env)) _ _ _
  refine wpAny_bind (thn (hc.run pins s σ H (fun bb H1 => if bb = true then TTv T Wx ft σ H1 Q else TTv T Wx gt σ H1 Q) I ⟨W, sg, st, S, so, (RQ.bind q).mono fun bb st1 W1 H1 g1 S1 q1 => ?_⟩) fun d s1 ⟨H1, I1, q1⟩ => ?_)
  · cases bb with
    | true => rw [if_pos rfl]; exact ⟨W1, sg, st1, S1, so.up g1.le, q1⟩
    | false => rw [if_neg Bool.false_ne_true]; exact ⟨W1, sg, st1, S1, so.up g1.le, q1⟩
  · cases d with
    | true =>
      rw [if_pos rfl] at q1
      rw [if_pos rfl]
      exact ha.run pins s1 σ H1 Q I1 q1
    | false =>
      rw [if_neg Bool.false_ne_true] at q1
      rw [if_neg Bool.false_ne_true]
      exact hb.run pins s1 σ H1 Q I1 q1

/-! ### and, or, not, if as values -/
def fAnd (f g : FE) : FE := fun sg st => (f sg st).bind fun p st => match truP p st with
  | some true => g sg st
  | some false => .ok p st
  | none => .stuck
def fOr (f g : FE) : FE := fun sg st => (f sg st).bind fun p st => match truP p st with
  | some true => .ok p st
  | some false => g sg st
  | none => .stuck
def fNot (f : FE) : FE := fun sg st => (f sg st).bind fun p st => match truP p st with
  | some b => .ok (.bl (!b)) st
  | none => .stuck
def fIte (c : FT) (f g : FE) : FE := fun sg st => (c sg st).bind fun b st => if b then f sg st else g sg st
theorem de_and (hK : T.K = X.K) (ha : PE X a (TEv T Wx f)) (hb : PE X (.BoolOp .And (b :: rest) pos) (TEv T Wx g)) : PE X (.BoolOp .And (a :: b :: rest) pos) (TEv T Wx (fAnd f g)) :=
  PEimp (pe_andT ha hb) fun σ H Q ⟨W, sg, st, S, so, q⟩ => ⟨W, sg, st, S, so, (RQ.bind q).mono fun p st1 W1 H1 g1 S1 q1 v rv => by
    cases hb : truP p st1 with
    | none => simp only [hb] at q1; exact q1.elim
    | some bb =>
      simp only [hb] at q1
      refine ⟨bb, hK ▸ truP_at S1 rv hb, ?_⟩
      cases bb with
      | true => rw [if_pos rfl]; exact ⟨W1, sg, st1, S1, so.up g1.le, q1⟩
      | false => rw [if_neg Bool.false_ne_true]; exact RQ.here q1 S1 v rv⟩
theorem de_or (hK : T.K = X.K) (ha : PE X a (TEv T Wx f)) (hb : PE X (.BoolOp .Or (b :: rest) pos) (TEv T Wx g)) : PE X (.BoolOp .Or (a :: b :: rest) pos) (TEv T Wx (fOr f g)) :=
  PEimp (pe_orT ha hb) fun σ H Q ⟨W, sg, st, S, so, q⟩ => ⟨W, sg, st, S, so, (RQ.bind q).mono fun p st1 W1 H1 g1 S1 q1 v rv => by
    cases hb : truP p st1 with
    | none => simp only [hb] at q1; exact q1.elim
    | some bb =>
      simp only [hb] at q1
      refine ⟨bb, hK ▸ truP_at S1 rv hb, ?_⟩
      cases bb with
      | true => rw [if_pos rfl]; exact RQ.here q1 S1 v rv
      | false => rw [if_neg Bool.false_ne_true]; exact ⟨W1, sg, st1, S1, so.up g1.le, q1⟩⟩
theorem de_one {op} (ha : PE X a (TEv T Wx f)) : PE X (.BoolOp op [a] pos) (TEv T Wx f) := pe_one ha
theorem de_not (hK : T.K = X.K) (ha : PE X a (TEv T Wx f)) : PE X (.UnaryOp .Not a pos) (TEv T Wx (fNot f)) :=
  PEimp (pe_notT ha) fun σ H Q ⟨W, sg, st, S, so, q⟩ => ⟨W, sg, st, S, so, (RQ.bind q).mono fun p st1 W1 H1 g1 S1 q1 v rv => by
    cases hb : truP p st1 with
    | none => simp only [hb] at q1; exact q1.elim
    | some bb =>
      simp only [hb] at q1
      exact ⟨bb, hK ▸ truP_at S1 rv hb, RQ.here q1 S1 _ rfl⟩⟩
theorem de_ite (hc : PT X c (TTv T Wx ht)) (ha : PE X a (TEv T Wx f)) (hb : PE X b (TEv T Wx g)) : PE X (.IfExp c a b pos) (TEv T Wx (fIte ht f g)) :=
  PEimp (pe_ifExp hc ha hb) fun σ H Q ⟨W, sg, st, S, so, q⟩ => ⟨W, sg, st, S, so, (RQ.bind q).mono fun bb st1 W1 H1 g1 S1 q1 => by
    cases bb with
    | true => rw [if_pos rfl]; exact ⟨W1, sg, st1, S1, so.up g1.le, q1⟩
    | false => rw [if_neg Bool.false_ne_true]; exact ⟨W1, sg, st1, S1, so.up g1.le, q1⟩⟩

/-! ### arguments, displays -/
variable {es : List Expr} {fa ga : FA}
def faNil : FA := fun _ st => .ok [] st
def faCons (f : FE) (g : FA) : FA := fun sg st => (f sg st).bind fun p st => (g sg st).bind fun ps st => .ok (p :: ps) st
def notStar : Expr → Bool
  | .Starred _ _ => false
  | _ => true
theorem star_of {e : Expr} {es : List Expr} {env : Env} (h : notStar e = true) : starEach (e :: es) env = (false, eval e env) :: starEach es env := by
  cases e <;> first | rfl | cases h
theorem stars_of {env : Env} {pos : Pos} : ∀ {es : List Expr}, es.all notStar = true → (backTo pos (starEach es env)).any (·.1) = false
  | [], _ => rfl
  | e :: es, h => by
    rw [List.all_cons, Bool.and_eq_true] at h
    rw [star_of h.1]
    show ((false, _) :: backTo pos (starEach es env)).any (·.1) = false
    rw [List.any_cons, stars_of h.2]; rfl
theorem da_nil : PA X [] (TAv T Wx faNil) := PAimp pa_nil fun σ H Q ⟨W, sg, st, S, so, q⟩ => RQ.here q S [] rfl
theorem da_cons (ha : PE X a (TEv T Wx f)) (hr : PA X es (TAv T Wx ga)) (hs : notStar a = true) : PA X (a :: es) (TAv T Wx (faCons f ga)) :=
  PAimp (pa_cons ha hr (star_of hs)) fun σ H Q ⟨W, sg, st, S, so, q⟩ => ⟨W, sg, st, S, so, (RQ.bind q).mono fun p st1 W1 H1 g1 S1 q1 v rv => ⟨W1, sg, st1, S1, so.up g1.le, (RQ.bind q1).mono fun ps st2 W2 H2 g2 S2 q2 vs rvs =>
    RQ.here q2 S2 (v :: vs) ⟨v, vs, rfl, rv.up g2.le, rvs⟩⟩⟩
def fTup (g : FA) : FE := fun sg st => (g sg st).bind fun ps st => if ps.length ≤ sizeLine then .ok (.tup ps) st else .stuck
def fLst (bx : Bool) (g : FA) : FE := fun sg st => (g sg st).bind fun ps st => if ps.length ≤ sizeLine then .ok (newL bx ps st).1 (newL bx ps st).2 else .stuck
theorem de_tup {k} (h : PA X es (TAv T Wx fa)) : PE X (.Tuple es k pos) (TEv T Wx (fTup fa)) :=
  PEimp (pe_tup h) fun σ H Q ⟨W, sg, st, S, so, q⟩ => ⟨W, sg, st, S, so, (RQ.bind q).mono fun ps st1 W1 H1 g1 S1 q1 vs rvs => by
    by_cases hz : ps.length ≤ sizeLine
    · rw [if_pos hz] at q1
      exact ⟨by rw [Reps.length rvs]; exact hz, Post.tup (show Post T W1 st1 H1 (.tup ps) Q from q1) S1 rvs⟩
    · rw [if_neg hz] at q1; exact q1.elim⟩
theorem de_lst (bx : Bool) (h : PA X es (TAv T Wx fa)) : PE X (.List es pos) (TEv T Wx (fLst bx fa)) :=
  PEimp (pe_lst h) fun σ H Q ⟨W, sg, st, S, so, q⟩ => ⟨W, sg, st, S, so, (RQ.bind q).mono fun ps st1 W1 H1 g1 S1 q1 vs rvs => by
    by_cases hz : ps.length ≤ sizeLine
    · rw [if_pos hz] at q1
      exact ⟨by rw [Reps.length rvs]; exact hz, PostS.newL (show PostS T W1 H1 (newL bx ps st1) Q from q1) S1 rvs⟩
    · rw [if_neg hz] at q1; exact q1.elim⟩

/-! ### subscripts, slices -/
def plainIx : Expr → Bool
  | .Slice _ _ none _ => false
  | .Slice _ _ (some _) _ => false
  | _ => true
theorem plainIx_of {b : Expr} (h : plainIx b = true) : PlainIx b := fun o i => by
  cases b with
  | Slice lo hi st p => cases st <;> cases h
  | _ => rfl
theorem de_idx (hK : T.K = X.K) (hu : X.A.units + 1 < cLine) (ha : PE X a (TEv T Wx f)) (hb : PE X b (TEv T Wx g)) (h : plainIx b = true) : PE X (.Subscript a b pos) (TEv T Wx (fBin idxP f g)) :=
  PEimp (pe_ix (ixP hK hu) ha hb (plainIx_of h)) tOp_of
abbrev FO := Sig → Store → R (Option Int)
def foNone : FO := fun _ st => .ok none st
def foSome (f : FE) : FO := fun sg st => (f sg st).bind fun p st => match p with
  | .int i => .ok (some i) st
  | _ => .stuck
def TOv (T : Txt) (Wx : WX) (f : FO) : L2.St → Hp → (Option Int → Hp → Prop) → Prop := fun σ H Q => ∃ W sg st, Sim T W st H ∧ SigOk T.K W sg σ ∧ RQ T Wx σ W H (f sg st) fun o st' W' H' => Q o H'
theorem POimp {e : Option Expr} {t t' : L2.St → Hp → (Option Int → Hp → Prop) → Prop} (h : PO X e t) (i : ∀ σ H Q, t' σ H Q → t σ H Q) : PO X e t' := ⟨fun pins s σ H Q I q => h.run pins s σ H Q I (i σ H Q q)⟩
theorem do_none : PO X none (TOv T Wx foNone) := POimp po_none fun σ H Q ⟨W, sg, st, S, so, q⟩ => RQ.here q S
theorem do_some (ha : PE X a (TEv T Wx f)) : PO X (some a) (TOv T Wx (foSome f)) := POimp (po_some ha) fun σ H Q ⟨W, sg, st, S, so, q⟩ => ⟨W, sg, st, S, so, (RQ.bind q).mono fun p st1 W1 H1 g1 S1 q1 v rv => by
  cases p with
  | int i => cases rv; exact ⟨i, rfl, RQ.here q1 S1⟩
  | _ => exact q1.elim⟩
def fSlc (f : FE) (lo hi : FO) : FE := fun sg st => (f sg st).bind fun p st => (lo sg st).bind fun l st => (hi sg st).bind fun h st => lift (slcP p l h st) st
variable {lo hi : Option Expr} {fl fh : FO} {p2 : Pos}
theorem de_slc (hK : T.K = X.K) (ha : PE X a (TEv T Wx f)) (hl : PO X lo (TOv T Wx fl)) (hh : PO X hi (TOv T Wx fh)) : PE X (.Subscript a (.Slice lo hi none p2) pos) (TEv T Wx (fSlc f fl fh)) :=
  PEimp (pe_slice (slP hK) ha hl hh) fun σ H Q ⟨W, sg, st, S, so, q⟩ => ⟨W, sg, st, S, so, (RQ.bind q).mono fun p st1 W1 H1 g1 S1 q1 v rv => ⟨W1, sg, st1, S1, so.up g1.le, (RQ.bind q1).mono fun l st2 W2 H2 g2 S2 q2 =>
    ⟨W2, sg, st2, S2, so.up (g1.le.trans g2.le), (RQ.bind q2).mono fun h st3 W3 H3 g3 S3 q3 => by
      obtain ⟨z, hz, k⟩ := RQ.lift q3
      exact ⟨W3, st3, p, z, S3, rv.up (g2.le.trans g3.le), hz, k⟩⟩⟩⟩
end
end Pv
/-! Pv, part H: targets, what is walked, comprehensions. -/
namespace Pv
open PySem PySem.Spec PyProof.Rows PySem.SeqAt L2

/-! ### freezing -/
def frzP (p : PV) (st : Store) : R PV := match p with
  | .ref n => match st[n]? with
    | some (.lst xs) => .ok (.lst xs) (st.set n .dead)
    | some (.dic ks vs) => .ok (.dic ks vs) (st.set n .dead)
    | _ => .ok p st
  | _ => .ok p st
def fFrz (f : FE) : FE := fun sg st => (f sg st).bind fun p st => frzP p st
section
variable {T : Txt} {Wx : WX}
theorem frzP_at {W : Wd} {st : Store} {H : Hp} (S : Sim T W st H) {p : PV} {v : V} (r : Rep T.K W p v) {σ : L2.St} {k : PV → Store → Wd → Hp → Prop} (q : RQ T Wx σ W H (frzP p st) k) :
    ∃ p' st' W', frzP p st = .ok p' st' ∧ Go W H W' H ∧ Sim T W' st' H ∧ Rep T.K W' p' v ∧ k p' st' W' H := by
  have same : frzP p st = .ok p st → _ := fun e => (⟨p, st, W, e, .refl W H, S, r, by rw [e] at q; exact RQ.here q S⟩ : ∃ p' st' W', frzP p st = .ok p' st' ∧ Go W H W' H ∧ Sim T W' st' H ∧ Rep T.K W' p' v ∧ k p' st' W' H)
  cases p with
  | ref n =>
    cases hc : st[n]? with
    | none => exact same (by simp only [frzP, hc])
    | some c =>
      cases c with
      | lst xs =>
        obtain ⟨a, e, rfl⟩ := r
        obtain ⟨vs, f, rs⟩ := S.cell n a _ e hc
        obtain ⟨g, S'⟩ := S.froze e hc rfl f
        have ef : frzP (.ref n) st = .ok (.lst xs) (st.set n .dead) := by simp only [frzP, hc]
        rw [ef] at q
        exact ⟨_, _, _, ef, g, S', ⟨a, vs, rfl, upd_same, rs.up g.le⟩, q _ _ g S'⟩
      | dic ks us =>
        obtain ⟨a, e, rfl⟩ := r
        obtain ⟨kvs, f, rk, rs⟩ := S.cell n a _ e hc
        obtain ⟨g, S'⟩ := S.froze e hc rfl f
        have ef : frzP (.ref n) st = .ok (.dic ks us) (st.set n .dead) := by simp only [frzP, hc]
        rw [ef] at q
        exact ⟨_, _, _, ef, g, S', ⟨a, kvs, rfl, upd_same, rk, rs.up g.le⟩, q _ _ g S'⟩
      | _ => exact same (by simp only [frzP, hc])
  | _ => exact same rfl
theorem tFrz_of {f : FE} : ∀ σ H Q, TEv T Wx (fFrz f) σ H Q → TEv T Wx f σ H Q := fun σ H Q ⟨W, sg, st, S, so, q⟩ =>
  ⟨W, sg, st, S, so, (RQ.bind q).mono fun p st1 W1 H1 g1 S1 q1 v rv => by
    obtain ⟨p', st', W', e, g, S', r', k⟩ := frzP_at S1 rv q1
    exact k v r'⟩
theorem de_frz {X : Cx} {e : Expr} {f : FE} (h : PE X e (TEv T Wx f)) : PE X e (TEv T Wx (fFrz f)) := PEimp h tFrz_of
end

/-! ### targets -/
abbrev FG := PV → Sig → Store → R Sig
/-- outside ws nothing is changed -/
def Out (ws : List Nat) (σ σ' : L2.St) : Prop := σ'.length = σ.length ∧ ∀ i, i ∉ ws → σ'[i]? = σ[i]?
theorem Out.refl (ws : List Nat) (σ : L2.St) : Out ws σ σ := ⟨rfl, fun _ _ => rfl⟩
theorem Out.trans {ws : List Nat} {σ σ' σ'' : L2.St} (a : Out ws σ σ') (b : Out ws σ' σ'') : Out ws σ σ'' := ⟨b.1.trans a.1, fun i h => (b.2 i h).trans (a.2 i h)⟩
theorem Out.set {ws : List Nat} {σ : L2.St} {i : Nat} {v : Option V} (h : i ∈ ws) : Out ws σ (σ.set i v) := ⟨by simp, fun j hj => by rw [List.getElem?_set_ne]; rintro rfl; exact hj h⟩
theorem Out.up {ws vs : List Nat} {σ σ' : L2.St} (a : Out ws σ σ') (h : ∀ i ∈ ws, i ∈ vs) : Out vs σ σ' := ⟨a.1, fun i hi => a.2 i fun z => hi (h i z)⟩
theorem wipe_get (σ : L2.St) : ∀ (vs : List Nat) (i : Nat), (wipe σ vs)[i]? = if i ∈ vs ∧ i < σ.length then some none else σ[i]?
  | [], i => by simp [wipe]
  | v :: vs, i => by
    unfold wipe
    have ih := wipe_get σ vs i
    by_cases h : v = i
    · subst h
      by_cases hl : v < σ.length
      · rw [List.getElem?_set_self (by rw [wipe_length]; exact hl), if_pos ⟨by simp, hl⟩]
      · rw [List.getElem?_eq_none (by rw [List.length_set, wipe_length]; omega), if_neg (fun z => hl z.2), List.getElem?_eq_none (by omega)]
    · rw [List.getElem?_set_ne h, ih]
      have : (i ∈ v :: vs) ↔ i ∈ vs := by simp [Ne.symm h]
      simp only [this]
theorem Out.wipe {ws : List Nat} {σ σ' : L2.St} (h : Out ws σ σ') : L2.wipe σ' ws = L2.wipe σ ws := by
  apply List.ext_getElem?
  intro i
  rw [wipe_get, wipe_get, h.1]
  by_cases z : i ∈ ws ∧ i < σ.length
  · rw [if_pos z, if_pos z]
  · rw [if_neg z, if_neg z]
    by_cases hi : i ∈ ws
    · have : ¬ i < σ.length := fun q => z ⟨hi, q⟩
      rw [List.getElem?_eq_none (by rw [h.1]; omega), List.getElem?_eq_none (by omega)]
    · exact h.2 i hi
theorem wipe_wipe (σ : L2.St) (ws : List Nat) : wipe (wipe σ ws) ws = wipe σ ws := Out.wipe ⟨wipe_length σ ws, fun i hi => by rw [wipe_get, if_neg fun z => hi z.1]⟩
def wipeS (sg : Sig) : List Nat → Sig
  | [] => sg
  | v :: vs => (wipeS sg vs).set v none
theorem SigOk.wipe {K : PySem.W.Frag} {W : Wd} {sg : Sig} {σ : L2.St} (h : SigOk K W sg σ) : ∀ vs : List Nat, SigOk K W (wipeS sg vs) (L2.wipe σ vs)
  | [] => h
  | v :: vs => (SigOk.wipe h vs).drop v none

def TGv (T : Txt) (Wx : WX) (ws : List Nat) (g : FG) : TG := fun v σ H Q => ∃ W sg st p, Sim T W st H ∧ SigOk T.K W sg σ ∧ Rep T.K W p v ∧ RQ T Wx σ W H (g p sg st) fun sg' st' W' H' => ∀ σ', SigOk T.K W' sg' σ' → Out ws σ σ' → Q σ' H'
def TGsv (T : Txt) (Wx : WX) (ws : List Nat) (g : List PV → Sig → Store → R Sig) : TGs := fun vs σ H Q => ∃ W sg st ps, Sim T W st H ∧ SigOk T.K W sg σ ∧ Reps T.K W ps vs ∧ RQ T Wx σ W H (g ps sg st) fun sg' st' W' H' => ∀ σ', SigOk T.K W' sg' σ' → Out ws σ σ' → Q σ' H'
theorem PGimp {X : Cx} {e : Expr} {t t' : TG} (h : PG X e t) (i : ∀ v σ H Q, t' v σ H Q → t v σ H Q) : PG X e t' := ⟨fun pins s σ H v u Q I r q => h.run pins s σ H v u Q I r (i v σ H Q q)⟩
theorem PGsimp {X : Cx} {e : List Expr} {t t' : TGs} (h : PGs X e t) (i : ∀ v σ H Q, t' v σ H Q → t v σ H Q) : PGs X e t' := ⟨fun pins s σ H v u Q I r q => h.run pins s σ H v u Q I r (i v σ H Q q)⟩
section
variable {X : Cx} {T : Txt} {Wx : WX} {pos : Pos} {ws vs : List Nat}
def gtName (i : Nat) : FG := fun p sg st => .ok (sg.set i (some p)) st
theorem dg_name {i : Nat} {x : Str} (hN : X.N.Nodup) (hi : X.N[i]? = some x) (hx : Loc X.env.scope x) (hf : X.fn x = true ∨ X.env.scope.names.lookup x = some .local) : PG X (.Name x pos) (TGv T Wx [i] (gtName i)) :=
  PGimp (pg_name hN hi hx hf) fun v σ H Q ⟨W, sg, st, p, S, so, r, q⟩ => RQ.here q S _ (so.put i r) (Out.set (by simp))
def gsNil : List PV → Sig → Store → R Sig := fun ps sg st => match ps with
  | [] => .ok sg st
  | _ => .stuck
def gsCons (g : FG) (gs : List PV → Sig → Store → R Sig) : List PV → Sig → Store → R Sig := fun ps sg st => match ps with
  | p :: ps => (g p sg st).bind fun sg st => gs ps sg st
  | [] => .stuck
theorem dgs_nil : PGs X [] (TGsv T Wx [] gsNil) := PGsimp pgs_nil fun vs σ H Q ⟨W, sg, st, ps, S, so, r, q⟩ => by
  cases ps with
  | nil => cases r; exact ⟨rfl, RQ.here q S _ so (.refl _ _)⟩
  | cons _ _ => exact q.elim
theorem assign_of {e : Expr} {es : List Expr} {env : Env} (h : notStar e = true) : assignEach (e :: es) env = (false, assign e env) :: assignEach es env := by
  cases e <;> first | rfl | cases h
/-- a wish about exceptions that does not look at the slots -/
def Blind (Wx : WX) : Prop := ∀ cls d σ σ' H, Wx cls d σ H → Wx cls d σ' H
theorem dgs_cons {e : Expr} {es : List Expr} {g : FG} {gs : List PV → Sig → Store → R Sig} (h1 : PG X e (TGv T Wx ws g)) (h2 : PGs X es (TGsv T Wx vs gs)) (hs : notStar e = true) (hg : ∀ p sg st x st', gs p sg st ≠ .ex x st') : PGs X (e :: es) (TGsv T Wx (ws ++ vs) (gsCons g gs)) :=
  PGsimp (pgs_cons h1 h2 (by rw [assign_of hs]; rfl)) fun us σ H Q ⟨W, sg, st, ps, S, so, r, q⟩ => by
    cases ps with
    | nil => exact q.elim
    | cons p ps =>
      obtain ⟨v, r', rfl, rv, rr⟩ := r
      refine ⟨v, r', rfl, W, sg, st, p, S, so, rv, (RQ.bind q).mono fun sg1 st1 W1 H1 g1 S1 q1 σ1 so1 o1 => ⟨W1, sg1, st1, ps, S1, so1, rr.up g1.le, ?_⟩⟩
      cases hr : gs ps sg1 st1 with
      | ok a st2 =>
        rw [hr] at q1
        exact fun W' H' g' S' σ' so' o' => q1 W' H' g' S' σ' so' ((o1.up fun i h => List.mem_append_left _ h).trans (o'.up fun i h => List.mem_append_right _ h))
      | ex x st2 => exact (hg _ _ _ _ _ hr).elim
      | stuck => rw [hr] at q1; exact q1.elim
def gtTup (n : Nat) (gs : List PV → Sig → Store → R Sig) : FG := fun p sg st => match p with
  | .tup xs => if xs.length = n then gs xs sg st else .stuck
  | _ => .stuck
theorem starIdx_of {env : Env} : ∀ {es : List Expr}, es.all notStar = true → (assignEach es env).length = es.length ∧ (assignEach es env).findIdx? (·.1) = none
  | [], _ => ⟨rfl, rfl⟩
  | e :: es, h => by
    rw [List.all_cons, Bool.and_eq_true] at h
    obtain ⟨h1, h2⟩ := starIdx_of (env := env) h.2
    rw [assign_of h.1]
    refine ⟨by simp [h1], ?_⟩
    rw [List.findIdx?_cons, h2]
    rfl
theorem dg_tup {es : List Expr} {k : Nat} {gs : List PV → Sig → Store → R Sig} (hK : T.K = X.K) (hc : X.calm = true) (h : PGs X es (TGsv T Wx ws gs)) (hs : es.all notStar = true) : PG X (.Tuple es k pos) (TGv T Wx ws (gtTup es.length gs)) :=
  PGimp (pg_tup hc h (starIdx_of hs).1 (starIdx_of hs).2) fun v σ H Q ⟨W, sg, st, p, S, so, r, q⟩ => by
    cases p with
    | tup xs =>
      obtain ⟨a, us, rfl, f, rs⟩ := r
      have q : RQ T Wx σ W H (if xs.length = es.length then gs xs sg st else R.stuck) _ := q
      by_cases hn : xs.length = es.length
      · rw [if_pos hn] at q
        exact ⟨a, us, rfl, hK ▸ SqT.up f S.sub, by rw [Reps.length rs, hn], W, sg, st, xs, S, so, rs, q⟩
      · rw [if_neg hn] at q; exact q.elim
    | _ => exact q.elim
end

/-! ### what is walked -/
def Walks (T : Txt) (W : Wd) (J : It) (items : List PV) : Prop := ∀ W1 st1 H1 (i : Nat), W.Le W1 → Sim T W1 st1 H1 →
  (∀ p, items[i]? = some p → J.go i H1 ∧ ∀ x H2, J.yld i H1 x H2 → ∃ W2, Go W1 H1 W2 H2 ∧ Sim T W2 st1 H2 ∧ Rep T.K W2 p x) ∧ (items.length ≤ i → J.stop i H1)
def TIv (T : Txt) (Wx : WX) (f : FA) : TI := fun σ H R => ∃ W sg st, Sim T W st H ∧ SigOk T.K W sg σ ∧ RQ T Wx σ W H (f sg st) fun items st' W' H' => ∀ J, Walks T W' J items → R J H'
theorem PIor {X : Cx} {tg e : Expr} {t t' : TI} (h : PI X tg e t) (h' : PI X tg e t') : PI X tg e (fun σ H R => t σ H R ∨ t' σ H R) := ⟨fun pins s σ H R I q => q.elim (h.run pins s σ H R I) (h'.run pins s σ H R I)⟩
section
variable {X : Cx} {T : Txt} {Wx : WX} {W : Wd} {a : Addr} {ps : List PV} {vs : List V}
theorem walks_list (h : SqL T.K W.F a vs) (r : Reps T.K W ps vs) : Walks T W (Itl T.K a) ps := fun W1 st1 H1 i l S => by
  have h1 : SqL T.K H1 a vs := SqL.up h fun b o e => S.sub _ _ (l.F b o e)
  have r1 := r.up l
  refine ⟨fun p hp => ?_, fun hi => ⟨vs, h1, by rw [Reps.length r1]; exact hi⟩⟩
  obtain ⟨v, hv, rv⟩ := r1.get hp
  refine ⟨⟨vs, v, h1, hv⟩, fun x H2 y => ?_⟩
  obtain ⟨rfl, y⟩ := y
  have := y vs h1
  rw [hv] at this; cases this
  exact ⟨W1, .refl _ _, S, rv⟩
theorem walks_tuple (h : SqT T.K W.F a vs) (r : Reps T.K W ps vs) : Walks T W (Itt T.K a) ps := fun W1 st1 H1 i l S => by
  have h1 : SqT T.K H1 a vs := SqT.up h fun b o e => S.sub _ _ (l.F b o e)
  have r1 := r.up l
  refine ⟨fun p hp => ?_, fun hi => ⟨vs, h1, by rw [Reps.length r1]; exact hi⟩⟩
  obtain ⟨v, hv, rv⟩ := r1.get hp
  refine ⟨⟨vs, v, h1, hv⟩, fun x H2 y => ?_⟩
  obtain ⟨rfl, y⟩ := y
  have := y vs h1
  rw [hv] at this; cases this
  exact ⟨W1, .refl _ _, S, rv⟩
def rngL (lo : Int) (n : Nat) : List PV := (List.range n).map fun (i : Nat) => PV.int (lo + i)
theorem rngL_get (lo : Int) (n i : Nat) : (rngL lo n)[i]? = if i < n then some (.int (lo + i)) else none := by
  unfold rngL
  rw [List.getElem?_map]
  by_cases h : i < n
  · rw [List.getElem?_range h, if_pos h]; rfl
  · rw [List.getElem?_eq_none (by simpa using h), if_neg h]; rfl
theorem walks_rng (lo : Int) (n : Nat) : Walks T W (Itr lo n) (rngL lo n) := fun W1 st1 H1 i l S => by
  refine ⟨fun p hp => ?_, fun hi => by show n ≤ i; unfold rngL at hi; simpa using hi⟩
  rw [rngL_get] at hp
  by_cases h : i < n
  · rw [if_pos h] at hp
    cases hp
    refine ⟨h, fun x H2 y => ?_⟩
    obtain ⟨rfl, rfl⟩ := y
    exact ⟨W1, .refl _ _, S, rfl⟩
  · rw [if_neg h] at hp; cases hp
def chrs (a : List Nat) : List PV := a.map fun c => PV.str [c]
theorem walks_str (a : List Nat) : Walks T W (Its ⟨a.toArray⟩) (chrs a) := fun W1 st1 H1 i l S => by
  have hl : (chrs a).length = a.length := by simp [chrs]
  refine ⟨fun p hp => ?_, fun hi => ?_⟩
  · unfold chrs at hp
    rw [List.getElem?_map] at hp
    obtain ⟨c, hc, rfl⟩ := Option.map_eq_some_iff.mp hp
    have hi : i < a.length := (List.getElem?_eq_some_iff.mp hc).1
    refine ⟨?_, fun x H2 y => ?_⟩
    · first
        | (show i < (⟨a.toArray⟩ : Str).length; rw [str_len]; exact hi)
        | (simp [Its]; exact hi)
    · obtain ⟨rfl, y⟩ := y
      refine ⟨W1, .refl _ _, S, ?_, by rw [sizeLine_eq, List.length_singleton]; decide⟩
      first
        | (obtain ⟨c', e1, e2⟩ := y; simp [hc] at e1; subst e1; simpa [strV] using e2)
        | (simp [hc] at y; simpa [strV] using y)
  · first
      | (show (⟨a.toArray⟩ : Str).length ≤ i; rw [str_len]; rw [hl] at hi; exact hi)
      | (simp [Its]; omega)
end

/-! ### iterables -/
/-- a value that is walked: a list (frozen by it), a tuple, a text -/
def iterV (p : PV) (st : Store) : R (List PV) := match p with
  | .str a => .ok (chrs a) st
  | .tup xs => .ok xs st
  | .lst xs => .ok xs st
  | .scr xs => .ok xs st
  | _ => .stuck
def fiVal (f : FE) : FA := fun sg st => (f sg st).bind fun p st => (frzP p st).bind fun p st => iterV p st
def rngV (ps : List PV) (st : Store) : R (List PV) := match ps with
  | [.int j] => if -(2 ^ 62) ≤ j ∧ j < 2 ^ 62 then .ok (rngL 0 j.toNat) st else .stuck
  | [.int i, .int j] => if -(2 ^ 62) ≤ i ∧ i < 2 ^ 62 ∧ -(2 ^ 62) ≤ j ∧ j < 2 ^ 62 then .ok (rngL i (j - i).toNat) st else .stuck
  | _ => .stuck
def fiRng (f : FA) : FA := fun sg st => (f sg st).bind fun ps st => rngV ps st
section
variable {X : Cx} {T : Txt} {Wx : WX} {tg e a b : Expr} {f g : FE} {pos p : Pos}
theorem di_val (hK : T.K = X.K) (h : PE X e (TEv T Wx f)) : PI X tg e (TIv T Wx (fiVal f)) := by
  refine PIimp (PIor (pi_list h) (PIor (pi_tup h) (pi_str h))) fun σ H R ⟨W, sg, st, S, so, q⟩ => ?_
  have q := RQ.bind q
  cases hf : f sg st with
  | stuck => rw [hf] at q; exact q.elim
  | ex x st' => rw [hf] at q; exact .inl ⟨W, sg, st, S, so, by rw [hf]; exact q⟩
  | ok p st1 =>
    rw [hf] at q
    have mk : ∀ {k : VK}, (∀ W1 H1, Go W H W1 H1 → Sim T W1 st1 H1 → ∀ v, Rep T.K W1 p v → k v H1) → TEv T Wx f σ H k := fun hk => ⟨W, sg, st, S, so, by rw [hf]; exact fun W1 H1 g S1 v rv => hk W1 H1 g S1 v rv⟩
    cases p with
    | str c =>
      refine .inr (.inr (mk fun W1 H1 g1 S1 v rv => ?_))
      obtain ⟨rfl, hz⟩ := rv
      have z : RQ T Wx σ W1 H1 (.ok (chrs c) st1) fun items st' W' H' => ∀ J, Walks T W' J items → R J H' := q W1 H1 g1 S1
      exact ⟨_, rfl, RQ.here z S1 _ (walks_str c)⟩
    | tup xs =>
      refine .inr (.inl (mk fun W1 H1 g1 S1 v rv => ?_))
      obtain ⟨l, vs, rfl, h1, rs⟩ := rv
      have z : RQ T Wx σ W1 H1 (.ok xs st1) fun items st' W' H' => ∀ J, Walks T W' J items → R J H' := q W1 H1 g1 S1
      exact ⟨l, rfl, ⟨vs, hK ▸ SqT.up h1 S1.sub⟩, hK ▸ RQ.here z S1 _ (walks_tuple h1 rs)⟩
    | lst xs =>
      refine .inl (mk fun W1 H1 g1 S1 v rv => ?_)
      obtain ⟨l, vs, rfl, h1, rs⟩ := rv
      have z : RQ T Wx σ W1 H1 (.ok xs st1) fun items st' W' H' => ∀ J, Walks T W' J items → R J H' := q W1 H1 g1 S1
      exact ⟨l, rfl, ⟨vs, SqL.of (S1.sub _ _ h1)⟩, hK ▸ RQ.here z S1 _ (walks_list (SqL.of h1) rs)⟩
    | scr xs =>
      refine .inl (mk fun W1 H1 g1 S1 v rv => ?_)
      obtain ⟨l, vs, rfl, h1, rs⟩ := rv
      have z : RQ T Wx σ W1 H1 (.ok xs st1) fun items st' W' H' => ∀ J, Walks T W' J items → R J H' := q W1 H1 g1 S1
      exact ⟨l, rfl, ⟨vs, hK ▸ SqL.up h1 S1.sub⟩, hK ▸ RQ.here z S1 _ (walks_list h1 rs)⟩
    | ref n =>
      refine .inl (mk fun W1 H1 g1 S1 v rv => ?_)
      obtain ⟨p', st', W', e, g2, S2, r2, k⟩ := frzP_at S1 rv (RQ.bind (q W1 H1 g1 S1))
      cases hc : st1[n]? with
      | none => simp only [frzP, hc] at e; cases e; exact k.elim
      | some c =>
        cases c with
        | lst xs =>
          simp only [frzP, hc] at e
          cases e
          obtain ⟨l, vs, rfl, h1, rs⟩ := r2
          exact ⟨l, rfl, ⟨vs, SqL.of (S2.sub _ _ h1)⟩, hK ▸ RQ.here k S2 _ (walks_list (SqL.of h1) rs)⟩
        | dic ks us => simp only [frzP, hc] at e; cases e; exact k.elim
        | _ => simp only [frzP, hc] at e; cases e; exact k.elim
    | _ => exact .inl (mk fun W1 H1 g1 S1 v rv => (show False from q W1 H1 g1 S1).elim)
def fiRng1 (f : FE) : FA := fun sg st => (f sg st).bind fun p st => rngV [p] st
def fiRng2 (f g : FE) : FA := fun sg st => (f sg st).bind fun p st => (g sg st).bind fun q st => rngV [p, q] st
theorem di_rng1 (hg : Gl X "range") (hm : X.mg "range" = none) (ha : PE X a (TEv T Wx f)) (hs : notStar a = true) : PI X tg (.Call (.Name "range" p) [a] [] pos) (TIv T Wx (fiRng1 f)) :=
  PIimp (pi_range1 hg hm (pa_cons ha pa_nil (star_of hs)) (star_of hs)) fun σ H R ⟨W, sg, st, S, so, q⟩ => ⟨W, sg, st, S, so, (RQ.bind q).mono fun p st1 W1 H1 g1 S1 q1 v rv => by
    cases p with
    | int j =>
      cases rv
      have z : RQ T Wx σ W1 H1 (if -(2 ^ 62) ≤ j ∧ j < 2 ^ 62 then .ok (rngL 0 j.toNat) st1 else .stuck) fun items st' W' H' => ∀ J, Walks T W' J items → R J H' := q1
      by_cases hj : -(2 ^ 62) ≤ j ∧ j < 2 ^ 62
      · rw [if_pos hj] at z
        exact ⟨j, rfl, hj.1, hj.2, RQ.here z S1 _ (walks_rng 0 _)⟩
      · rw [if_neg hj] at z; exact z.elim
    | _ => exact q1.elim⟩
theorem di_rng2 (hg : Gl X "range") (hm : X.mg "range" = none) (ha : PE X a (TEv T Wx f)) (hb : PE X b (TEv T Wx g)) (hs : notStar a = true) (hs' : notStar b = true) : PI X tg (.Call (.Name "range" p) [a, b] [] pos) (TIv T Wx (fiRng2 f g)) :=
  PIimp (pi_range2 hg hm (pa_cons ha (pa_cons hb pa_nil (star_of hs')) (star_of hs)) ((star_of hs).trans (by rw [star_of hs']; rfl)) (star_of hs')) fun σ H R ⟨W, sg, st, S, so, q⟩ => ⟨W, sg, st, S, so, (RQ.bind q).mono fun p st1 W1 H1 g1 S1 q1 v rv => ⟨W1, sg, st1, S1, so.up g1.le, (RQ.bind q1).mono fun p2 st2 W2 H2 g2 S2 q2 u ru => by
    cases p with
    | int i =>
      cases p2 with
      | int j =>
        cases rv; cases ru
        have z : RQ T Wx σ W2 H2 (if -(2 ^ 62) ≤ i ∧ i < 2 ^ 62 ∧ -(2 ^ 62) ≤ j ∧ j < 2 ^ 62 then .ok (rngL i (j - i).toNat) st2 else .stuck) fun items st' W' H' => ∀ J, Walks T W' J items → R J H' := q2
        by_cases hj : -(2 ^ 62) ≤ i ∧ i < 2 ^ 62 ∧ -(2 ^ 62) ≤ j ∧ j < 2 ^ 62
        · rw [if_pos hj] at z
          exact ⟨i, j, rfl, hj, RQ.here z S2 _ (walks_rng i _)⟩
        · rw [if_neg hj] at z; exact z.elim
      | _ => exact q2.elim
    | _ => exact q2.elim⟩⟩
/-- for i, x in enumerate(xs) -/
def enumL : Nat → List PV → List PV
  | _, [] => []
  | i, p :: ps => .tup [.int i, p] :: enumL (i + 1) ps
theorem enumL_get : ∀ (ps : List PV) (k i : Nat), (enumL k ps)[i]? = ps[i]?.map fun p => .tup [.int ((k + i : Nat) : Int), p]
  | [], _, _ => by simp [enumL]
  | p :: ps, k, 0 => by simp [enumL]
  | p :: ps, k, i + 1 => by
    show (enumL (k + 1) ps)[i]? = _
    rw [enumL_get ps (k + 1) i]
    have : k + 1 + i = k + (i + 1) := by omega
    rw [this]; rfl
theorem enumL_length : ∀ (ps : List PV) (k : Nat), (enumL k ps).length = ps.length
  | [], _ => rfl
  | _ :: ps, k => by simp [enumL, enumL_length ps]
theorem two_line : ([V.non, V.non] : List V).length ≤ sizeLine := by show 2 ≤ sizeLine; rw [sizeLine_eq]; decide
theorem walks_enum {W : Wd} {a : Addr} {vs : List V} {ps : List PV} (h : SqL T.K W.F a vs) (r : Reps T.K W ps vs) : Walks T W (Ite T.K a) (enumL 0 ps) := fun W1 st1 H1 i l S => by
  have h1 : SqL T.K H1 a vs := SqL.up h fun b o e => S.sub _ _ (l.F b o e)
  have r1 := r.up l
  refine ⟨fun p hp => ?_, fun hi => ⟨vs, h1, by rw [Reps.length r1]; rw [enumL_length] at hi; exact hi⟩⟩
  rw [enumL_get] at hp
  obtain ⟨q, hq, rfl⟩ := Option.map_eq_some_iff.mp hp
  obtain ⟨v, hv, rv⟩ := r1.get hq
  refine ⟨⟨vs, v, h1, hv⟩, fun x H2 y => ?_⟩
  obtain ⟨t, w, rfl, ht, rfl, y⟩ := y
  have := y vs h1
  rw [hv] at this; cases this
  obtain ⟨g, S'⟩ := S.laid ht (.tup [.int (i : Nat), v])
  exact ⟨_, g, S', t, _, rfl, SqT.of upd_same, ⟨_, _, rfl, by rw [Nat.zero_add]; rfl, _, _, rfl, rv.up g.le, rfl⟩⟩
def enumV (p : PV) (st : Store) : R (List PV) := match p with
  | .lst xs => .ok (enumL 0 xs) st
  | .scr xs => .ok (enumL 0 xs) st
  | _ => .stuck
def fiEnum (f : FE) : FA := fun sg st => (f sg st).bind fun p st => (frzP p st).bind fun p st => enumV p st
theorem di_enum {elts : List Expr} {kk : Nat} {tpos : Pos} (hK : T.K = X.K) (hg : Gl X "enumerate") (hm : X.mg "enumerate" = none) (ha : PE X a (TEv T Wx f)) (hs : notStar a = true) : PI X (.Tuple elts kk tpos) (.Call (.Name "enumerate" p) [a] [] pos) (TIv T Wx (fiEnum f)) :=
  PIimp (pi_enum hg hm (pa_cons ha pa_nil (star_of hs)) (star_of hs)) fun σ H R ⟨W, sg, st, S, so, q⟩ => ⟨W, sg, st, S, so, (RQ.bind q).mono fun p st1 W1 H1 g1 S1 q1 v rv => by
    obtain ⟨p', st', W', e, g2, S2, r2, k⟩ := frzP_at S1 rv (RQ.bind q1)
    cases p' with
    | lst xs =>
      obtain ⟨l, vs, rfl, h1, rs⟩ := r2
      exact ⟨l, vs, rfl, SqL.of (S2.sub _ _ h1), hK ▸ RQ.here k S2 _ (walks_enum (SqL.of h1) rs)⟩
    | scr xs =>
      obtain ⟨l, vs, rfl, h1, rs⟩ := r2
      exact ⟨l, vs, rfl, hK ▸ SqL.up h1 S2.sub, hK ▸ RQ.here k S2 _ (walks_enum h1 rs)⟩
    | _ => exact k.elim⟩
/-- for x, y in zip(xs, ys): two lists, or two tuples -/
def zipL : List PV → List PV → List PV
  | p :: ps, q :: qs => .tup [p, q] :: zipL ps qs
  | _, _ => []
theorem zipL_get : ∀ (ps qs : List PV) (i : Nat) (z : PV), (zipL ps qs)[i]? = some z → ∃ p q, ps[i]? = some p ∧ qs[i]? = some q ∧ z = .tup [p, q]
  | [], _, _, _, h => by simp [zipL] at h
  | _ :: _, [], _, _, h => by simp [zipL] at h
  | p :: ps, q :: qs, 0, z, h => ⟨p, q, rfl, rfl, by simpa [zipL] using h.symm⟩
  | p :: ps, q :: qs, i + 1, z, h => zipL_get ps qs i z (by simpa [zipL] using h)
theorem zipL_end : ∀ (ps qs : List PV) (i : Nat), (zipL ps qs).length ≤ i → ps.length ≤ i ∨ qs.length ≤ i
  | [], _, _, _ => .inl (Nat.zero_le _)
  | _ :: _, [], _, _ => .inr (Nat.zero_le _)
  | p :: ps, q :: qs, 0, h => by simp [zipL] at h
  | p :: ps, q :: qs, i + 1, h => by
    have := zipL_end ps qs i (by simpa [zipL] using h)
    simpa using this
theorem walks_zip {W : Wd} {a b : Addr} {vs us : List V} {ps qs : List PV} (h : SqL T.K W.F a vs) (r : Reps T.K W ps vs) (h' : SqL T.K W.F b us) (r' : Reps T.K W qs us) : Walks T W (Itz T.K a b) (zipL ps qs) := fun W1 st1 H1 i l S => by
  have h1 : SqL T.K H1 a vs := SqL.up h fun b o e => S.sub _ _ (l.F b o e)
  have h2 : SqL T.K H1 b us := SqL.up h' fun b o e => S.sub _ _ (l.F b o e)
  have r1 := r.up l
  have r2 := r'.up l
  refine ⟨fun p hp => ?_, fun hi => ⟨vs, us, h1, h2, by rw [Reps.length r1, Reps.length r2]; exact zipL_end _ _ _ hi⟩⟩
  obtain ⟨p, q, hp', hq, rfl⟩ := zipL_get _ _ _ _ hp
  obtain ⟨v, hv, rv⟩ := r1.get hp'
  obtain ⟨u, hu, ru⟩ := r2.get hq
  refine ⟨⟨vs, us, v, u, h1, h2, hv, hu⟩, fun x H2 y => ?_⟩
  obtain ⟨t, w1, w2, rfl, ht, rfl, y1, y2⟩ := y
  have := y1 vs h1
  rw [hv] at this; cases this
  have := y2 us h2
  rw [hu] at this; cases this
  obtain ⟨g, S'⟩ := S.laid ht (.tup [v, u])
  exact ⟨_, g, S', t, _, rfl, SqT.of upd_same, ⟨_, _, rfl, rv.up g.le, _, _, rfl, ru.up g.le, rfl⟩⟩
theorem walks_zipT {W : Wd} {a b : Addr} {vs us : List V} {ps qs : List PV} (h : SqT T.K W.F a vs) (r : Reps T.K W ps vs) (h' : SqT T.K W.F b us) (r' : Reps T.K W qs us) : Walks T W (RZ.ItzT T.K a b) (zipL ps qs) := fun W1 st1 H1 i l S => by
  have h1 : SqT T.K H1 a vs := SqT.up h fun b o e => S.sub _ _ (l.F b o e)
  have h2 : SqT T.K H1 b us := SqT.up h' fun b o e => S.sub _ _ (l.F b o e)
  have r1 := r.up l
  have r2 := r'.up l
  refine ⟨fun p hp => ?_, fun hi => ⟨vs, us, h1, h2, by rw [Reps.length r1, Reps.length r2]; exact zipL_end _ _ _ hi⟩⟩
  obtain ⟨p, q, hp', hq, rfl⟩ := zipL_get _ _ _ _ hp
  obtain ⟨v, hv, rv⟩ := r1.get hp'
  obtain ⟨u, hu, ru⟩ := r2.get hq
  refine ⟨⟨vs, us, v, u, h1, h2, hv, hu⟩, fun x H2 y => ?_⟩
  obtain ⟨t, w1, w2, rfl, ht, rfl, y1, y2⟩ := y
  have := y1 vs h1
  rw [hv] at this; cases this
  have := y2 us h2
  rw [hu] at this; cases this
  obtain ⟨g, S'⟩ := S.laid ht (.tup [v, u])
  exact ⟨_, g, S', t, _, rfl, SqT.of upd_same, ⟨_, _, rfl, rv.up g.le, _, _, rfl, ru.up g.le, rfl⟩⟩
def frzL : PV → Option (List PV)
  | .lst xs => some xs
  | .scr xs => some xs
  | _ => none
def zipV (p q : PV) (st : Store) : R (List PV) := match p, q with
  | .tup xs, .tup ys => .ok (zipL xs ys) st
  | p, q => match frzL p, frzL q with
    | some xs, some ys => .ok (zipL xs ys) st
    | _, _ => .stuck
def fiZip (f g : FE) : FA := fun sg st => (f sg st).bind fun p st => (g sg st).bind fun q st => (frzP p st).bind fun p st => (frzP q st).bind fun q st => zipV p q st
/-- a list that is frozen -/
theorem frz_list {W : Wd} {p : PV} {v : V} {xs : List PV} (r : Rep T.K W p v) (h : frzL p = some xs) : ∃ l vs, v = .ref l ∧ SqL T.K W.F l vs ∧ Reps T.K W xs vs := by
  cases p with
  | lst ys => cases h; obtain ⟨l, vs, rfl, h1, rs⟩ := r; exact ⟨l, vs, rfl, SqL.of h1, rs⟩
  | scr ys => cases h; obtain ⟨l, vs, rfl, h1, rs⟩ := r; exact ⟨l, vs, rfl, h1, rs⟩
  | _ => cases h
theorem di_zip {elts : List Expr} {kk : Nat} {tpos : Pos} (hK : T.K = X.K) (hg : Gl X "zip") (hm : X.mg "zip" = none) (ha : PE X a (TEv T Wx f)) (hb : PE X b (TEv T Wx g)) (hs : notStar a = true) (hs' : notStar b = true) :
    PI X (.Tuple elts kk tpos) (.Call (.Name "zip" p) [a, b] [] pos) (TIv T Wx (fiZip f g)) :=
  PIimp (RZ.pi_zipA hg hm (pa_cons ha (pa_cons hb pa_nil (star_of hs')) (star_of hs)) (star_of hs) (stars_of (by simp [hs']))) fun σ H R ⟨W, sg, st, S, so, q⟩ => ⟨W, sg, st, S, so, (RQ.bind q).mono fun p st1 W1 H1 g1 S1 q1 v rv => ⟨W1, sg, st1, S1, so.up g1.le, (RQ.bind q1).mono fun p2 st2 W2 H2 g2 S2 q2 u ru => by
    obtain ⟨p', st', W', e, g3, S3, r3, k⟩ := frzP_at S2 (rv.up g2.le) (RQ.bind q2)
    obtain ⟨p2', st'', W'', e', g4, S4, r4, k'⟩ := frzP_at S3 (ru.up g3.le) (RQ.bind k)
    have r3 := r3.up g4.le
    have lists : zipV p' p2' st'' = (match frzL p', frzL p2' with | some xs, some ys => Pv.R.ok (zipL xs ys) st'' | _, _ => .stuck) →
        ∃ a b xs ys, [v, u] = [V.ref a, V.ref b] ∧ ((SqL X.K H2 a xs ∧ SqL X.K H2 b ys ∧ R (Itz X.K a b) H2) ∨ (SqT X.K H2 a xs ∧ SqT X.K H2 b ys ∧ R (RZ.ItzT X.K a b) H2)) := fun ez => by
      rw [ez] at k'
      cases h1 : frzL p' with
      | none => simp only [h1] at k'; exact k'.elim
      | some xs =>
        cases h2 : frzL p2' with
        | none => simp only [h1, h2] at k'; exact k'.elim
        | some ys =>
          simp only [h1, h2] at k'
          obtain ⟨l, vs, rfl, f1, rs1⟩ := frz_list r3 h1
          obtain ⟨l2, vs2, rfl, f2, rs2⟩ := frz_list r4 h2
          exact ⟨l, l2, vs, vs2, rfl, .inl ⟨hK ▸ SqL.up f1 S4.sub, hK ▸ SqL.up f2 S4.sub, hK ▸ RQ.here k' S4 _ (walks_zip f1 rs1 f2 rs2)⟩⟩
    cases p' with
    | tup xs =>
      cases p2' with
      | tup ys =>
        obtain ⟨l, vs, rfl, f1, rs1⟩ := r3
        obtain ⟨l2, vs2, rfl, f2, rs2⟩ := r4
        have z : RQ T Wx σ W'' H2 (Pv.R.ok (zipL xs ys) st'') (fun items st' W' H' => ∀ J, Walks T W' J items → R J H') := k'
        exact ⟨l, l2, vs, vs2, rfl, .inr ⟨hK ▸ SqT.up f1 S4.sub, hK ▸ SqT.up f2 S4.sub, hK ▸ RQ.here z S4 _ (walks_zipT f1 rs1 f2 rs2)⟩⟩
      | _ => exact lists rfl
    | _ => exact lists rfl⟩⟩
end
end Pv
set_option maxHeartbeats 4000000
/-! Pv, part I: comprehensions; a dict that is walked. -/
namespace Pv
open PySem PySem.Spec PyProof.Rows PySem.SeqAt L2

abbrev WxF : WX := fun _ _ _ _ => False
/-- what raises is not served -/
def noX {α : Type} : R α → R α
  | .ex _ _ => .stuck
  | r => r
theorem R.assoc {α β γ : Type} (r : R α) (f : α → Store → R β) (g : β → Store → R γ) : (r.bind f).bind g = r.bind fun a st => (f a st).bind g := by cases r <;> rfl
theorem R.bind_ok {α β : Type} {r : R α} {f : α → Store → R β} {b : β} {st' : Store} (h : r.bind f = .ok b st') : ∃ a st, r = .ok a st ∧ f a st = .ok b st' := by
  cases r with
  | ok a st => exact ⟨a, st, rfl, h⟩
  | ex x st => cases h
  | stuck => cases h
def compL (body : PV → Store → R (Option PV)) : List PV → Store → R (List PV)
  | [], st => .ok [] st
  | p :: ps, st => (body p st).bind fun o st => (compL body ps st).bind fun ys st => .ok (o.toList ++ ys) st
/-- one turn -/
def turnC (ws : List Nat) (g : FG) (ft : FT) (f : FE) (sg : Sig) (p : PV) (st : Store) : R (Option PV) :=
  noX ((g p (wipeS sg ws) st).bind fun sg' st => (ft sg' st).bind fun b st => if b then (f sg' st).bind fun q st => .ok (some q) st else .ok none st)
def fComp (bx : Bool) (ws : List Nat) (fi : FA) (g : FG) (ft : FT) (f : FE) : FE := fun sg st => (fi sg st).bind fun items st =>
  if items.length ≤ sizeLine then (compL (turnC ws g ft f sg) items st).bind fun ys st => .ok (newL bx ys st).1 (newL bx ys st).2 else .stuck
theorem turnC_ok {ws : List Nat} {g : FG} {ft : FT} {f : FE} {sg : Sig} {p : PV} {st st' : Store} {o : Option PV} (h : turnC ws g ft f sg p st = .ok o st') :
    ∃ sg' s1 b s2, g p (wipeS sg ws) st = .ok sg' s1 ∧ ft sg' s1 = .ok b s2 ∧ ((b = true ∧ ∃ q, f sg' s2 = .ok q st' ∧ o = some q) ∨ (b = false ∧ o = none ∧ st' = s2)) := by
  have h : ((g p (wipeS sg ws) st).bind fun sg' st => (ft sg' st).bind fun b st => if b then (f sg' st).bind fun q st => .ok (some q) st else .ok none st) = .ok o st' := by
    unfold turnC noX at h
    split at h
    · cases h
    · exact h
  obtain ⟨sg', s1, h1, h⟩ := R.bind_ok h
  obtain ⟨b, s2, h2, h⟩ := R.bind_ok h
  refine ⟨sg', s1, b, s2, h1, h2, ?_⟩
  cases b with
  | true =>
    rw [if_pos rfl] at h
    obtain ⟨q, s3, h3, h⟩ := R.bind_ok h
    cases h
    exact .inl ⟨rfl, q, h3, rfl⟩
  | false =>
    rw [if_neg Bool.false_ne_true] at h
    cases h
    exact .inr ⟨rfl, rfl, rfl⟩
theorem turnC_not {ws : List Nat} {g : FG} {ft : FT} {f : FE} {sg : Sig} {p : PV} {st st' : Store} {x : Exc} : turnC ws g ft f sg p st ≠ .ex x st' := by
  intro h
  unfold turnC noX at h
  split at h
  · cases h
  · rename_i hn; exact hn _ _ h
/-- a world later than one from which d was not there -/
theorem Go.adopt {W W1 W2 : Wd} {H H1 : Hp} {d : Addr} (g : Go W H W1 H1) (hd : H d = none) (l : W1.Le W2) (k : ∀ b, b ≠ d → W1.F b = none → b ∉ W1.ρ → W2.F b = none ∧ b ∉ W2.ρ) : Go W H W2 H1 :=
  ⟨g.le.trans l, fun b o e1 e2 e3 => by
    obtain ⟨q1, q2, q3⟩ := g.keep b o e1 e2 e3
    have : b ≠ d := fun z => by subst z; rw [hd] at e1; cases e1
    exact ⟨q1, k b this q2 q3⟩⟩
theorem tLc_of {T : Txt} {Wx : WX} {bx : Bool} {ws : List Nat} {fi : FA} {g : FG} {ft : FT} {f : FE} : ∀ σ H Q, TEv T Wx (fComp bx ws fi g ft f) σ H Q → tLc (TIv T Wx fi) (TGv T WxF ws g) (TTv T WxF ft) (TEv T WxF f) ws σ H Q := fun σ H Q ⟨W, sg, st, S, so, q⟩ => by
  refine ⟨W, sg, st, S, so, (RQ.bind q).mono fun items st1 W1 H1 g1 S1 q1 J hJ D hD => ?_⟩
  have so1 := so.up g1.le
  by_cases hz : items.length ≤ sizeLine
  rotate_left
  · rw [if_neg hz] at q1; exact q1.elim
  rw [if_pos hz] at q1
  obtain ⟨gD, SD⟩ := S1.loose hD (.lst [])
  have hnr : D ∉ W1.ρ := fun z => S1.dom D z hD
  refine ⟨fun i m H => m = items.length - i ∧ i ≤ items.length ∧ ∃ W2 st2 acc accV, Go W1 H1 W2 H ∧ Sim T W2 st2 H ∧ H D = some (.lst accV) ∧ W2.F D = none ∧ D ∉ W2.ρ ∧ Reps T.K W2 acc accV ∧ acc.length ≤ i ∧
    RQ T Wx σ W1 H1 ((compL (turnC ws g ft f sg) (items.drop i) st2).bind fun ys st => .ok (newL bx (acc ++ ys) st).1 (newL bx (acc ++ ys) st).2) fun p st' W' H' => ∀ v, Rep T.K W' p v → Q v H',
    ⟨items.length, by simp, Nat.zero_le _, W1, st1, [], [], ?_, SD, upd_same, S1.fresh hD, hnr, rfl, Nat.zero_le _, q1⟩, ?_⟩
  · exact gD
  rintro i m H2 ⟨rfl, hi, W2, st2, acc, accV, g2, S2, hH, hF, hr, ra, hl, q2⟩
  obtain ⟨w1, w2⟩ := hJ W2 st2 H2 i g2.le S2
  by_cases hlt : i < items.length
  · -- one more turn
    obtain ⟨p, hp⟩ : ∃ p, items[i]? = some p := ⟨_, List.getElem?_eq_getElem hlt⟩
    have hdrop : items.drop i = p :: items.drop (i + 1) := by
      rw [List.drop_eq_getElem_cons hlt]
      congr 1
      have := List.getElem?_eq_getElem hlt
      rw [hp] at this
      exact (Option.some.inj this).symm
    obtain ⟨go, yl⟩ := w1 p hp
    rw [hdrop] at q2
    refine .inr ⟨go, fun H' => items.length - (i + 1) = items.length - (i + 1) ∧ i + 1 ≤ items.length ∧ ∃ W2 st2 acc accV, Go W1 H1 W2 H' ∧ Sim T W2 st2 H' ∧ H' D = some (.lst accV) ∧ W2.F D = none ∧ D ∉ W2.ρ ∧ Reps T.K W2 acc accV ∧ acc.length ≤ i + 1 ∧
      RQ T Wx σ W1 H1 ((compL (turnC ws g ft f sg) (items.drop (i + 1)) st2).bind fun ys st => .ok (newL bx (acc ++ ys) st).1 (newL bx (acc ++ ys) st).2) fun p st' W' H' => ∀ v, Rep T.K W' p v → Q v H',
      fun H' h => ⟨items.length - (i + 1), by omega, h⟩, fun x H3 y => ?_⟩
    obtain ⟨W3, g3, S3, rx⟩ := yl x H3 y
    have hstep : compL (turnC ws g ft f sg) (p :: items.drop (i + 1)) st2 = (turnC ws g ft f sg p st2).bind fun o st => (compL (turnC ws g ft f sg) (items.drop (i + 1)) st).bind fun ys st => .ok (o.toList ++ ys) st := rfl
    rw [hstep, R.assoc] at q2
    cases hb : turnC ws g ft f sg p st2 with
    | stuck => rw [hb] at q2; exact q2.elim
    | ex x s => exact (turnC_not hb).elim
    | ok o st3 =>
      rw [hb] at q2
      have q3 : RQ T Wx σ W1 H1 ((compL (turnC ws g ft f sg) (items.drop (i + 1)) st3).bind fun ys st => .ok (newL bx (acc ++ (o.toList ++ ys)) st).1 (newL bx (acc ++ (o.toList ++ ys)) st).2) fun p st' W' H' => ∀ v, Rep T.K W' p v → Q v H' := by
        have e : (((compL (turnC ws g ft f sg) (items.drop (i + 1)) st3).bind fun ys st => R.ok (o.toList ++ ys) st).bind fun ys st => R.ok (newL bx (acc ++ ys) st).1 (newL bx (acc ++ ys) st).2) =
            (compL (turnC ws g ft f sg) (items.drop (i + 1)) st3).bind fun ys st => R.ok (newL bx (acc ++ (o.toList ++ ys)) st).1 (newL bx (acc ++ (o.toList ++ ys)) st).2 := R.assoc _ _ _
        rw [← e]; exact q2
      obtain ⟨sg', s1, b, s2, e1, e2, e3⟩ := turnC_ok hb
      refine ⟨W3, wipeS sg ws, st2, p, S3, SigOk.wipe (so1.up (g2.le.trans g3.le)) ws, rx, ?_⟩
      rw [e1]
      intro W4 H4 g4 S4 σ2 so2 out
      refine ⟨(Out.wipe out).trans (wipe_wipe σ ws), W4, sg', s1, S4, so2, ?_⟩
      rw [e2]
      intro W5 H5 g5 S5
      have g25 : Go W2 H2 W5 H5 := g3.trans (g4.trans g5)
      rcases e3 with ⟨rfl, q, e3, rfl⟩ | ⟨rfl, rfl, rfl⟩
      · refine iteT ?_
        refine ⟨W5, sg', s2, S5, so2.up g5.le, ?_⟩
        rw [e3]
        intro W6 H6 g6 S6 y ry
        have g26 : Go W2 H2 W6 H6 := g25.trans g6
        obtain ⟨k1, k2, k3⟩ := g26.keep D _ hH hF hr
        refine ⟨accV, k1, by rw [Reps.length ra]; omega, rfl, hlt, W6, st3, acc ++ [q], accV ++ [y], ?_, S6.loosen k2 k3 _, upd_same, k2, k3, (ra.up g26.le).app (Reps.one ry), by simp; omega, ?_⟩
        · refine ⟨(g2.trans g26).le, fun b o e1 e2 e3 => ?_⟩
          obtain ⟨z1, z2, z3⟩ := (g2.trans g26).keep b o e1 e2 e3
          have : b ≠ D := fun z => by subst z; rw [hD] at e1; cases e1
          exact ⟨(upd_ne this).trans z1, z2, z3⟩
        · have e : (fun ys (st : Store) => (R.ok (newL bx (acc ++ ((some q).toList ++ ys)) st).1 (newL bx (acc ++ ((some q).toList ++ ys)) st).2 : R PV)) = fun ys st => R.ok (newL bx (acc ++ [q] ++ ys) st).1 (newL bx (acc ++ [q] ++ ys) st).2 := by
            funext ys st
            rw [List.append_assoc]; rfl
          rw [e] at q3; exact q3
      · refine iteF ?_
        obtain ⟨k1, k2, k3⟩ := g25.keep D _ hH hF hr
        exact ⟨rfl, hlt, W5, _, acc, accV, g2.trans g25, S5, k1, k2, k3, ra.up g25.le, by omega, q3⟩
  · -- the end
    have hie : i = items.length := by omega
    have hdrop : items.drop i = [] := List.drop_eq_nil_of_le (by omega)
    rw [hdrop] at q2
    have q2 : RQ T Wx σ W1 H1 (.ok (newL bx (acc ++ []) st2).1 (newL bx (acc ++ []) st2).2) fun p st' W' H' => ∀ v, Rep T.K W' p v → Q v H' := q2
    rw [List.append_nil] at q2
    refine .inl ⟨w2 (by omega), ?_⟩
    cases bx with
    | false =>
      obtain ⟨l, S3⟩ := S2.adopt hF hr hH
      exact q2 _ H2 (g2.adopt hD l fun b nb k1 k2 => ⟨(upd_ne nb).trans k1, k2⟩) S3 _ ⟨D, accV, rfl, upd_same, ra.up l⟩
    | true =>
      obtain ⟨l, S3, e⟩ := S2.adoptB hF hr (by rw [hH]; simp) (c := .lst acc) ⟨accV, hH, ra⟩
      exact q2 _ H2 (g2.adopt hD l fun b nb k1 k2 => ⟨k1, by rw [List.mem_append]; exact fun z => z.elim k2 fun z => nb (by simpa using z)⟩) S3 _ ⟨D, e, rfl⟩
def notSet : Expr → Bool
  | .Set _ _ _ => false
  | _ => true
theorem folded_of {e : Expr} (h : notSet e = true) (env : Env) (x : Value) : foldedSetIterable e env x = pure x := by
  cases e <;> first | rfl | cases h
section
variable {X : Cx} {T : Txt} {Wx : WX} {elt tg iter : Expr} {ifs : List Expr} {scope : Scope} {own : List (Str × Nat)} {pos : Pos} {fi : FA} {g : FG} {ft : FT} {f : FE}
theorem de_comp (bx : Bool) (hc : X.calm = true) (hN : X.N.Nodup) (hi : PI X tg iter (TIv T Wx fi)) (ok : BlkOk X.N X.env.scope scope own)
    (hg : ∀ (s : Shared) (H : Hp) (C : Addr) (cl : List (Str × Addr)) (fp : List Addr), PG (X.blk s H scope (compEnvC scope cl C X.env) fp) tg (TGv T WxF (own.map (·.2)) g))
    (ht : ∀ (s : Shared) (H : Hp) (C : Addr) (cl : List (Str × Addr)) (fp : List Addr), PTs (X.blk s H scope (compEnvC scope cl C X.env) fp) ifs (TTv T WxF ft))
    (he : ∀ (s : Shared) (H : Hp) (C : Addr) (cl : List (Str × Addr)) (fp : List Addr), PE (X.blk s H scope (compEnvC scope cl C X.env) fp) elt (TEv T WxF f)) (hs : notSet iter = true) :
    PE X (.ListComp elt [⟨tg, iter, ifs, 0⟩] scope pos) (TEv T Wx (fComp bx (own.map (·.2)) fi g ft f)) :=
  PEimp (pe_lc hc hN hi ok hg ht he (folded_of hs X.env)) tLc_of
theorem PTsimp {ifs : List Expr} {t t' : TT} (h : PTs X ifs t) (i : ∀ σ H Q, t' σ H Q → t σ H Q) : PTs X ifs t' := ⟨fun pins s σ H Q I q => h.run pins s σ H Q I (i σ H Q q)⟩
def ftYes : FT := fun _ st => .ok true st
theorem dts_nil : PTs X [] (TTv T Wx ftYes) := PTsimp pts_nil fun σ H Q ⟨W, sg, st, S, so, q⟩ => RQ.here q S
theorem dts_one {c : Expr} (h : PT X c (TTv T Wx ft)) : PTs X [c] (TTv T Wx ft) := pts_one h
end

/-! ### the keys, values, items of a dict that is locked -/
section
variable {X : Cx} {T : Txt} {Wx : WX} {tg e : Expr} {f : FE} {W : Wd}
theorem RepK.get : ∀ {ps : List PV} {ks : List Key} {i : Nat} {p : PV}, RepK ps ks → ps[i]? = some p → ∃ k, ks[i]? = some k ∧ RepK1 p k
  | [], _, _, _, _, e => by simp at e
  | _ :: _, _, 0, _, ⟨k, r, e, h, _⟩, q => by subst e; simp at q; subst q; exact ⟨k, rfl, h⟩
  | _ :: _, _, i + 1, _, ⟨k, r, e, _, t⟩, q => by
    subst e
    obtain ⟨w, a, b⟩ := RepK.get (i := i) t (by simpa using q)
    exact ⟨w, by simpa using a, b⟩
theorem walks_keys {d : Addr} {ob : Obj} {kvs : List (Key × V)} {ks : List PV} (h : W.F d = some (.frz ob (.dK kvs))) (r : RepK ks (kvs.map (·.1))) : Walks T W (Itk d ob kvs) ks := fun W1 st1 H1 i l S => by
  have h1 : H1 d = some (.frz ob (.dK kvs)) := S.sub _ _ (l.F _ _ h)
  have hl : kvs.length = ks.length := by have := r.length; simpa using this
  refine ⟨fun p hp => ?_, fun hi => ⟨h1, by omega⟩⟩
  have hi : i < ks.length := (List.getElem?_eq_some_iff.mp hp).1
  obtain ⟨k, hk, rk⟩ := r.get hp
  refine ⟨⟨h1, by omega⟩, fun x H2 y => ?_⟩
  obtain ⟨rfl, k', v, e, rfl⟩ := y
  rw [List.getElem?_map, e] at hk
  cases hk
  exact ⟨W1, .refl _ _, S, rep_of_key rk⟩
def keysV (p : PV) (st : Store) : R (List PV) := match p with
  | .ref n => match st[n]? with
    | some (.dlk ks _) => .ok ks st
    | _ => .stuck
  | _ => .stuck
def fiKeys (f : FE) : FA := fun sg st => (f sg st).bind fun p st => keysV p st
theorem di_keys (h : PE X e (TEv T Wx f)) : PI X tg e (TIv T Wx (fiKeys f)) :=
  PIimp (pi_keys h) fun σ H R ⟨W, sg, st, S, so, q⟩ => ⟨W, sg, st, S, so, (RQ.bind q).mono fun p st1 W1 H1 g1 S1 q1 v rv => by
    cases p with
    | ref n =>
      cases hc : st1[n]? with
      | none => simp only [keysV, hc] at q1; exact q1.elim
      | some c =>
        cases c with
        | dlk ks vs =>
          simp only [keysV, hc] at q1
          obtain ⟨a, e, rfl⟩ := rv
          obtain ⟨ob, kvs, f1, rk, rs⟩ := S1.cell n a _ e hc
          exact ⟨a, ob, rfl, .inl ⟨kvs, S1.sub _ _ f1, RQ.here q1 S1 _ (walks_keys f1 rk)⟩⟩
        | _ => simp only [keysV, hc] at q1; exact q1.elim
    | _ => exact q1.elim⟩
/-- while e runs, the dict in slot i is locked -/
def fLock (i : Nat) (f : FE) : FE := fun sg st => match sg[i]? with
  | some (some (.ref n)) => match st[n]? with
    | some (.dic ks vs) => (noX (f sg (st.set n (.dlk ks vs)))).bind fun p st2 => match st2[n]? with
      | some (.dlk ks vs) => .ok p (st2.set n (.dic ks vs))
      | _ => .stuck
    | _ => .stuck
  | _ => .stuck
theorem de_lock (i : Nat) (h : PE X e (TEv T Wx f)) : PE X e (TEv T Wx (fLock i f)) :=
  PEimp (pe_lock h) fun σ H Q ⟨W, sg, st, S, so, q⟩ => by
    unfold fLock at q
    cases hi : sg[i]? with
    | none => simp only [hi] at q; exact q.elim
    | some o =>
      cases o with
      | none => simp only [hi] at q; exact q.elim
      | some p =>
        cases p with
        | ref n =>
          simp only [hi] at q
          cases hc : st[n]? with
          | none => simp only [hc] at q; exact q.elim
          | some c =>
            cases c with
            | dic ks vs =>
              simp only [hc] at q
              obtain ⟨v, hv, d, hd, rfl⟩ := so.get i _ hi
              obtain ⟨kvs, hH, rk, rs, lock⟩ := S.lock hd hc
              refine ⟨d, .dK kvs, hH, True.intro, fun ob => ?_⟩
              obtain ⟨g1, S1⟩ := lock ob
              have hFd : W.F d = none := S.off n d _ hd hc rfl
              refine ⟨_, sg, st.set n (.dlk ks vs), S1, so.up g1.le, ?_⟩
              cases hf : f sg (st.set n (.dlk ks vs)) with
              | stuck => rw [hf] at q; exact q.elim
              | ex x s => rw [hf] at q; exact q.elim
              | ok z st2 =>
                rw [hf] at q
                intro W2 H2 g2 S2 w rw'
                have hF2 : W2.F d = some (.frz ob (.dK kvs)) := g2.le.F d _ upd_same
                have hr2 : W2.ρ[n]? = some d := g2.le.ρ n d hd
                refine ⟨S2.sub _ _ hF2, ?_⟩
                cases hc2 : st2[n]? with
                | none => exact (show False from by have q := q; simp only [noX, R.bind, hc2] at q; exact q).elim
                | some c2 =>
                  cases c2 with
                  | dlk ks2 vs2 =>
                    have q : RQ T Wx σ W H (.ok z (st2.set n (.dic ks2 vs2))) fun p st' W' H' => ∀ v, Rep T.K W' p v → Q v H' := by
                      have q := q; simp only [noX, R.bind, hc2] at q; exact q
                    refine q ⟨dropF W2.F d, W2.ρ⟩ (upd H2 d (.dK kvs)) ?_ (S2.unlock hr2 hc2 hF2) w (Rep.unlock hF2 rw')
                    have g12 := g1.trans g2
                    refine ⟨⟨fun b u e => ?_, g12.le.ρ⟩, fun b u e1 e2 e3 => ?_⟩
                    · have nb : b ≠ d := fun z => by subst z; rw [hFd] at e; cases e
                      show dropF W2.F d b = some u
                      unfold dropF; rw [if_neg nb]; exact g12.le.F b u e
                    · obtain ⟨k1, k2, k3⟩ := g12.keep b u e1 e2 e3
                      have nb : b ≠ d := fun z => e3 (by rw [z]; exact List.mem_of_getElem? hd)
                      exact ⟨(upd_ne nb).trans k1, (by show dropF W2.F d b = none; unfold dropF; rw [if_neg nb]; exact k2), k3⟩
                  | _ => exact (show False from by have q := q; simp only [noX, R.bind, hc2] at q; exact q).elim
            | _ => simp only [hc] at q; exact q.elim
        | _ => simp only [hi] at q; exact q.elim
end
end Pv
/-! Pv, part J: calls of defs, of methods, of classes, of what is built in. -/
namespace Pv
open PySem PySem.Spec PyProof.Rows PySem.SeqAt L2

/-- a def as a function of values -/
abbrev FF := List PV → Store → R PV
def spF (T : Txt) (F : FF) : Sp := fun vs H Q E => ∃ W ps st, Sim T W st H ∧ Reps T.K W ps vs ∧ RQ T (fun cls d _ H' => E cls d H') [] W H (F ps st) fun p st' W' H' => ∀ v, Rep T.K W' p v → Q v H'
/-- a def, sound wherever there is room -/
structure FnR (P : Program) (w : World) (K : PySem.W.Frag) (mg : Str → Option Value) (base : Heap) (R : Around → Prop) (f : Addr) (fd : FuncData) (ps : List Str) (sp : Sp) : Prop where
  many : ∀ vs H Q E, sp vs H Q E → vs.length = ps.length
  go : ∀ (A : Around) (outer : List Env) (s : Shared) (H : Hp) (args : Args) (us : List Value) (vs : List V) (Q : VK) (E : XK), R A → Env0 P w K mg base A outer s H → BindsTo s fd args (ps.zip us) → Vals vs us → sp vs H Q E →
    codeAny (model P w) A (.call (.ref f) args) (CR (L2.CX P w) outer P w H s Q E) s
theorem FnR.of {P : Program} {w : World} {K : PySem.W.Frag} {mg : Str → Option Value} {base : Heap} {R : Around → Prop} {k : Nat} {f : Addr} {fd : FuncData} {ps : List Str} {sp : Sp} (F : FnOk P w K mg base (L2.CX P w) k f fd ps sp) (h : ∀ A, R A → Room k A) : FnR P w K mg base R f fd ps sp :=
  ⟨F.len, fun A outer s H args us vs Q E hr => F.run A outer s H args us vs Q E (h A hr)⟩
theorem FnR.ok {P : Program} {w : World} {K : PySem.W.Frag} {mg : Str → Option Value} {base : Heap} {R : Around → Prop} {k : Nat} {f : Addr} {fd : FuncData} {ps : List Str} {sp : Sp} (F : FnR P w K mg base R f fd ps sp) (h : ∀ A, Room k A → R A) : FnOk P w K mg base (L2.CX P w) k f fd ps sp :=
  ⟨F.many, fun A outer s H args us vs Q E hr => F.go A outer s H args us vs Q E (h A hr)⟩
/-- its call -/
theorem run_R {X : Cx} {R : Around → Prop} {f : Addr} {fd : FuncData} {ps : List Str} {sp : Sp} {E : L2.St → XK} {pins : List (Addr × Obj)} {σ : L2.St} {H : Hp} {s : Shared} {Q : VK} {us : List Value} {vs : List V}
    (F : FnR X.prog X.w X.K X.mg X.base R f fd ps sp) (room : R X.A) (hb : Binds X.K fd ps []) (hx : PassesAt (L2.CX X.prog X.w) X σ (E σ)) (I : Inv X pins σ H s) (rv : Vals vs us) (h : sp vs H Q (E σ)) :
    wpAny (model X.prog X.w) X.A (call (.ref f) us) (EP X pins σ Q) X.xe s := by
  have n : us.length = ps.length := rv.length.symm.trans (F.many vs H Q (E σ) h)
  have bd : BindsTo s fd ⟨us, []⟩ (ps.zip us) := by
    have z := hb s us I.kIn
    simp only [List.append_nil] at z
    exact z n
  have run := F.go X.A X.stack s H ⟨us, []⟩ us vs Q (E σ) room I.env0 bd rv h
  refine wpAny_call (codeAny_mono run fun out s2 q => ?_)
  match out, q with
  | .error e, q => exact hx pins H s e s2 I q
  | .ok (.ret u), q => exact I.after q
/-- a def at its place, sound -/
structure Fn1 (P : Program) (w : World) (K : PySem.W.Frag) (mg : Str → Option Value) (base : Heap) (T : Txt) (R : Around → Prop) (x : Str) (F : FF) : Prop where
  ex : ∃ f fd ps, FnR P w K mg base R f fd ps (spF T F) ∧ mg x = some (.ref f) ∧ PySem.W.keepIn K (.ref f) = true ∧ Binds K fd ps []
/-- a method of class c -/
structure Me1 (P : Program) (w : World) (K : PySem.W.Frag) (mg : Str → Option Value) (base : Heap) (T : Txt) (R : Around → Prop) (c : Nat) (m : Str) (F : FF) : Prop where
  ex : ∃ f fd ps, FnR P w K mg base R f fd ps (spF T F) ∧ Meth K (T.cl c) m f ∧ Binds K fd ps []
/-- a class that is made by its __init__ -/
structure Ma1 (P : Program) (w : World) (K : PySem.W.Frag) (mg : Str → Option Value) (base : Heap) (T : Txt) (k : Nat) (x : Str) (c : Nat) (F : FF) : Prop where
  ex : ∃ f fd ps, FnOk P w K mg base (L2.CX P w) k f fd ps (spF T F) ∧ Mk K (T.cl c) f ∧ mg x = some (.ref (T.cl c)) ∧ Binds K fd ps [] ∧ Cls K (T.cl c)

theorem RQ.sigma {T : Txt} {Wx Wx' : WX} {σ σ' : L2.St} {W : Wd} {H : Hp} {α : Type} {r : R α} {k : α → Store → Wd → Hp → Prop} (h : RQ T Wx σ W H r k) (e : ∀ c d H', Wx c d σ H' → Wx' c d σ' H') : RQ T Wx' σ' W H r k := by
  cases r with
  | ok a st => exact h
  | ex x st => exact fun W' H' cls d g S at_ => e _ _ _ (h W' H' cls d g S at_)
  | stuck => exact h

section
variable {X : Cx} {T : Txt} {Wx : WX} {F : FF} {k : Nat} {R : Around → Prop} {x m : Str} {p pos apos : Pos} {e o : Expr} {es : List Expr} {f g : FE} {fa : FA}
def fCall (F : FF) (fa : FA) : FE := fun sg st => (fa sg st).bind fun ps st => F ps st
theorem tCall_of : ∀ σ H Q, TEv T Wx (fCall F fa) σ H Q → tCallS (spF T F) (WE Wx) (TAv T Wx fa) σ H Q := fun σ H Q ⟨W, sg, st, S, so, q⟩ =>
  ⟨W, sg, st, S, so, (RQ.bind q).mono fun ps st1 W1 H1 g1 S1 q1 vs rvs => ⟨W1, ps, st1, S1, rvs, q1.sigma fun _ _ _ h => h⟩⟩
theorem de_call (h : Fn1 X.prog X.w X.K X.mg X.base T R x F) (hr : R X.A) (hg : Gl X x) (tk : Takes X Wx) (ha : PA X (e :: es) (TAv T Wx fa)) (hs : (e :: es).all notStar = true) (hd : (x == ("__debug__" : Str)) = false) :
    PE X (.Call (.Name x p) (e :: es) [] pos) (TEv T Wx (fCall F fa)) := by
  obtain ⟨f, fd, ps, F1, hm, hk, hb⟩ := h.ex
  rw [List.all_cons, Bool.and_eq_true] at hs
  refine ⟨fun pins s σ H Q I h => ?_⟩
  refine wpAny_Call_Name_kw (ld_glob I hg hm ?_ hd)
  refine PySem.W.callWith_K (h₀ := X.base) I.ok.mod.kin hk (thn (ha.run pos pins s σ H _ I (tCall_of σ H Q h)) fun us s1 z => ?_) (star_of hs.1) (stars_of hs.2)
  obtain ⟨vs, H1, I1, rv, q⟩ := z
  exact ⟨I1.kIn, run_R (E := WE Wx) F1 hr hb (passAt tk σ) I1 rv q⟩
theorem de_call0 (h : Fn1 X.prog X.w X.K X.mg X.base T R x F) (hr : R X.A) (hg : Gl X x) (tk : Takes X Wx) (hd : (x == ("__debug__" : Str)) = false) :
    PE X (.Call (.Name x p) [] [] pos) (TEv T Wx (fCall F faNil)) := by
  obtain ⟨f, fd, ps, F1, hm, hk, hb⟩ := h.ex
  refine ⟨fun pins s σ H Q I h => ?_⟩
  refine wpAny_Call_Name_kw (ld_glob I hg hm ?_ hd)
  obtain ⟨W, sg, st, S, so, q⟩ := h
  exact PySem.W.callWith_K0 I.kIn hk (run_R (us := []) (E := WE Wx) F1 hr hb (passAt tk σ) I .nil ⟨W, [], st, S, rfl, (show RQ T Wx σ W H (F [] st) _ from q).sigma fun _ _ _ h => h⟩)

/-! ### what is built in -/
def fcB (h : List PV → Store → Option (PV × Store)) (fa : FA) : FE := fun sg st => (fa sg st).bind fun ps st => liftS (h ps st)
variable {hb : List PV → Store → Option (PV × Store)}
theorem tCB_of : ∀ σ H Q, TEv T Wx (fcB hb fa) σ H Q → tCB (rC T hb) (TAv T Wx fa) σ H Q := fun σ H Q ⟨W, sg, st, S, so, q⟩ =>
  ⟨W, sg, st, S, so, (RQ.bind q).mono fun ps st1 W1 H1 g1 S1 q1 vs rvs => by
    obtain ⟨z, hz, k⟩ := RQ.liftS q1
    exact ⟨W1, st1, ps, z, S1, rvs, hz, k⟩⟩
theorem de_callB {id : String} (hc : CallR X (.builtin id) (rC T hb)) (hg : Gl X x) (hm : X.mg x = none) (hv : bootBuiltins x = some (.builtin id)) (ha : PA X (e :: es) (TAv T Wx fa)) (hs : (e :: es).all notStar = true) (hn : x ≠ "__name__") (hd : (x == ("__debug__" : Str)) = false) :
    PE X (.Call (.Name x p) (e :: es) [] pos) (TEv T Wx (fcB hb fa)) := by
  rw [List.all_cons, Bool.and_eq_true] at hs
  exact PEimp (pe_callB hc hg hm hv ha hn hd (star_of hs.1) (stars_of hs.2)) tCB_of
theorem de_callTy {t : String} (hc : CallR X (.type t) (rC T hb)) (hg : Gl X x) (hm : X.mg x = none) (hv : bootBuiltins x = some (.type t)) (ha : PA X (e :: es) (TAv T Wx fa)) (hs : (e :: es).all notStar = true) (hn : x ≠ "__name__") (hd : (x == ("__debug__" : Str)) = false) :
    PE X (.Call (.Name x p) (e :: es) [] pos) (TEv T Wx (fcB hb fa)) := by
  rw [List.all_cons, Bool.and_eq_true] at hs
  exact PEimp (pe_callTy hc hg hm hv ha hn hd (star_of hs.1) (stars_of hs.2)) tCB_of
/-- isinstance(e, T) -/
def fIsi (c : Ty) (f : FE) : FE := fun sg st => (f sg st).bind fun p st => match tyP p st with
  | some t => .ok (.bl (isI t c)) st
  | none => .stuck
theorem de_isi {c : Ty} {p2 : Pos} {x2 : Str} (hK : T.K = X.K) (hc : c ≠ .non) (hg : Gl X "isinstance") (hm : X.mg "isinstance" = none) (hg2 : Gl X x2) (hm2 : X.mg x2 = none) (hv2 : bootBuiltins x2 = some (.type c.name)) (hn2 : x2 ≠ "__name__") (hd2 : (x2 == ("__debug__" : Str)) = false)
    (ha : PE X e (TEv T Wx f)) (hs : notStar e = true) : PE X (.Call (.Name "isinstance" p) [e, .Name x2 p2] [] pos) (TEv T Wx (fIsi c f)) := by
  refine PEimp (pe_callB call_isi hg hm (by rfl) (pa_cons ha (pa_cons (pe_bltn (v := .ty c.name) hg2 hm2 hv2 rfl hn2 hd2) pa_nil (star_of rfl)) (star_of hs)) (by decide) (by decide) (star_of hs) (stars_of rfl)) fun σ H Q ⟨W, sg, st, S, so, q⟩ => ?_
  refine ⟨W, sg, st, S, so, (RQ.bind q).mono fun z st1 W1 H1 g1 S1 q1 v rv => ?_⟩
  show rIsi X.K [v, .ty c.name] H1 Q
  cases ht : tyP z st1 with
  | none => simp only [ht] at q1; exact q1.elim
  | some t =>
    simp only [ht] at q1
    exact ⟨v, .ty c.name, .type t.name, .type c.name, isI t c, rfl, .ty _, hK ▸ tyP_at S1 rv ht, kit_ty (isI_kit t c hc), RQ.here q1 S1 _ rfl⟩

/-! ### methods -/
/-- super() aside -/
def recvE : Expr → Bool
  | .Call (.Name _ _) [] [] _ => false
  | _ => true
theorem base_of {o : Expr} {name : Str} {env : Env} {whole : Sem Value} (h : recvE o = true) : attributeBase o name env whole = whole := by
  unfold attributeBase
  split
  · cases h
  · rfl
theorem few_of {env : Env} {pos : Pos} {es : List Expr} (hs : es.all notStar = true) (hl : es.length < 30) : ((backTo pos (starEach es env)).all (fun x => !x.1) && (backToKw pos (keywordEach [] env)).all (fun x => x.1.isSome)
      && decide (es.length + ([] : List Keyword).length + (if ([] : List Keyword).isEmpty then 0 else 1) < 30)) = true := by
  have h1 : (backTo pos (starEach es env)).all (fun x => !x.1) = true := by
    have := stars_of (env := env) (pos := pos) hs
    rw [List.all_eq_not_any_not]
    simpa using this
  rw [h1]
  have h2 : decide (es.length + ([] : List Keyword).length + (if ([] : List Keyword).isEmpty then 0 else 1) < 30) = true := decide_eq_true (by simpa using hl)
  rw [h2]
  rfl
theorem mtree_of {X : Cx} {o : Expr} {m : Str} {apos pos : Pos} {es : List Expr} (hr : recvE o = true) (hs : es.all notStar = true) (hl : es.length < 30) (hp : (apos.endLine == pos.line) = true) :
    eval (.Call (.Attribute o m apos) es [] pos) X.env = (do
      let ov ← eval o X.env
      standAt apos.atName
      let (f, first) ← holding [ov] (getMethod ov m (L2.plainOf o X.env))
      callWith pos f first (backTo pos (starEach es X.env)) (backToKw pos (keywordEach [] X.env))) := by
  rw [arm_eval_Call, base_of hr]
  have e : ∀ ov, methodCall o m apos pos X.env ov (es.length + ([] : List Keyword).length) (backTo pos (starEach es X.env)) (backToKw pos (keywordEach [] X.env)) = (do
      let (f, first) ← holding [ov] (getMethod ov m (L2.plainOf o X.env))
      callWith pos f first (backTo pos (starEach es X.env)) (backToKw pos (keywordEach [] X.env))) := fun ov => L2.mcall_line (few_of hs hl) hp
  simp only [e]
/-- the fields of an instance in the store -/
def insAt (p : PV) (st : Store) : Option (Nat × List (List Nat × PV)) := match p with
  | .ref n => match st[n]? with
    | some (.ins c fs) => some (c, fs)
    | _ => none
  | _ => none
theorem insAt_at {W : Wd} {st : Store} {H : Hp} (S : Sim T W st H) {p : PV} {v : V} (r : Rep T.K W p v) {c : Nat} {fs : List (List Nat × PV)} (h : insAt p st = some (c, fs)) :
    ∃ n a dx us, p = .ref n ∧ W.ρ[n]? = some a ∧ st[n]? = some (.ins c fs) ∧ v = .ref a ∧ H a = some (.ins (T.cl c) dx us) ∧ RepF T.K W fs us ∧ Cls T.K (T.cl c) ∧ ∀ f ∈ fs, NoAttr T.K (T.cl c) (nmS f.1) := by
  cases p with
  | ref n =>
    cases hc : st[n]? with
    | none => simp only [insAt, hc] at h; cases h
    | some cell =>
      cases cell with
      | ins c2 fs2 =>
        simp only [insAt, hc] at h
        cases h
        obtain ⟨a, e, rfl⟩ := r
        obtain ⟨dx, us, z1, z2, z3, z4⟩ := S.cell n a _ e hc
        exact ⟨n, a, dx, us, rfl, e, hc, rfl, z1, z2, z3, z4⟩
      | _ => simp only [insAt, hc] at h; cases h
  | _ => cases h
def lookF (f : List Nat) : List (List Nat × PV) → Option PV
  | [] => none
  | (g, p) :: r => if f = g then some p else lookF f r
theorem lookF_at {W : Wd} {f : List Nat} : ∀ {fs : List (List Nat × PV)} {us : List (Str × V)}, RepF T.K W fs us → match lookF f fs with
    | some p => ∃ v, us.lookup (nmS f) = some v ∧ Rep T.K W p v
    | none => us.lookup (nmS f) = none
  | [], _, h => by cases h; rfl
  | (g, p) :: r, _, ⟨v, r', e, h, t⟩ => by
    subst e
    unfold lookF
    by_cases q : f = g
    · subst q
      rw [if_pos rfl]
      exact ⟨v, by simp [List.lookup], h⟩
    · rw [if_neg q]
      have ne : (nmS f == nmS g) = false := beq_eq_false_iff_ne.mpr fun z => q (nmS_inj z)
      have ih := lookF_at (f := f) t
      simp only [List.lookup, ne]
      exact ih
/-- o.m(..), the method by the instance's class -/
def fMeth (mt : Nat → Option FF) (m : List Nat) (f : FE) (fa : FA) : FE := fun sg st => (f sg st).bind fun p st => match insAt p st with
  | some (c, fs) => match lookF m fs, mt c with
    | none, some F => (fa sg st).bind fun ps st => F (p :: ps) st
    | _, _ => .stuck
  | none => .stuck
variable {mt : Nat → Option FF} {ml : List Nat}
theorem meth_core (hK : T.K = X.K) (hM : ∀ c F, mt c = some F → Me1 X.prog X.w X.K X.mg X.base T R c (nmS ml) F) (hr : R X.A) (tk : Takes X Wx) (ho : PE X o (TEv T Wx f)) (hre : recvE o = true) (hs : es.all notStar = true) (hl : es.length < 30) (hp : (apos.endLine == pos.line) = true)
    (hrun : ∀ (g a : Addr) (σ : L2.St) (pins : List (Addr × Obj)) (H : Hp) (s : Shared) (Q : VK) (fd : FuncData) (ps : List Str) (F : FF), FnR X.prog X.w X.K X.mg X.base R g fd ps (spF T F) → PySem.W.keepIn X.K (.ref g) = true → Binds X.K fd ps [] →
      Inv X pins σ H s → (TAv T Wx fa σ H fun vs H' => spF T F (.ref a :: vs) H' Q (WE Wx σ)) →
      wpAny (model X.prog X.w) X.A (callWith pos (.ref g) [.ref a] (backTo pos (starEach es X.env)) (backToKw pos (keywordEach [] X.env))) (EP X pins σ Q) X.xe s) :
    PE X (.Call (.Attribute o (nmS ml) apos) es [] pos) (TEv T Wx (fMeth mt ml f fa)) := by
  refine ⟨fun pins s σ H Q I h => ?_⟩
  obtain ⟨W, sg, st, S, so, q⟩ := h
  refine methcall_of ho I ⟨W, sg, st, S, so, (RQ.bind q).mono fun p st1 W1 H1 g1 S1 q1 v rv => ?_⟩ (mtree_of hre hs hl hp)
  cases hi : insAt p st1 with
  | none => simp only [hi] at q1; exact q1.elim
  | some z =>
    obtain ⟨c, fs⟩ := z
    simp only [hi] at q1
    cases hm : lookF ml fs with
    | some _ => simp only [hm] at q1; exact q1.elim
    | none =>
      cases hc : mt c with
      | none => simp only [hm, hc] at q1; exact q1.elim
      | some F =>
        simp only [hm, hc] at q1
        obtain ⟨n, a, dx, us, rfl, e1, e2, rfl, e3, rf, cl, na⟩ := insAt_at S1 rv hi
        obtain ⟨g, fd, ps, F1, me, hb⟩ := (hM c F hc).ex
        have l := lookF_at (f := ml) rf
        rw [hm] at l
        exact ⟨a, T.cl c, dx, us, g, rfl, e3, hK ▸ cl, me, l, fun s1 I1 => hrun g a σ pins H1 s1 Q fd ps F F1 me.kp hb I1 ⟨W1, sg, st1, S1, so.up g1.le, (RQ.bind q1).mono fun qs st2 W2 H2 g2 S2 q2 vs rvs =>
          ⟨W2, .ref n :: qs, st2, S2, ⟨.ref a, vs, rfl, rv.up g2.le, rvs⟩, q2.sigma fun _ _ _ h => h⟩⟩⟩
theorem de_meth (hK : T.K = X.K) (hM : ∀ c F, mt c = some F → Me1 X.prog X.w X.K X.mg X.base T R c (nmS ml) F) (hr : R X.A) (tk : Takes X Wx) (ho : PE X o (TEv T Wx f)) (ha : PA X (e :: es) (TAv T Wx fa)) (hre : recvE o = true) (hs : (e :: es).all notStar = true) (hl : (e :: es).length < 30) (hp : (apos.endLine == pos.line) = true) :
    PE X (.Call (.Attribute o (nmS ml) apos) (e :: es) [] pos) (TEv T Wx (fMeth mt ml f fa)) := by
  refine meth_core hK hM hr tk ho hre hs hl hp fun g a σ pins H s Q fd ps F F1 hk hb I q => ?_
  rw [List.all_cons, Bool.and_eq_true] at hs
  refine PySem.W.callWith_K (first := [.ref a]) (h₀ := X.base) I.ok.mod.kin hk (thn (ha.run pos pins s σ H _ I q) fun us s2 ⟨vs, H2, I2, r, q2⟩ => ⟨I2.kIn, ?_⟩) (star_of hs.1) (stars_of hs.2)
  exact run_R (us := .ref a :: us) (vs := .ref a :: vs) (E := WE Wx) F1 hr hb (passAt tk σ) I2 (.cons rfl r) q2
theorem de_meth0 (hK : T.K = X.K) (hM : ∀ c F, mt c = some F → Me1 X.prog X.w X.K X.mg X.base T R c (nmS ml) F) (hr : R X.A) (tk : Takes X Wx) (ho : PE X o (TEv T Wx f)) (hre : recvE o = true) (hp : (apos.endLine == pos.line) = true) :
    PE X (.Call (.Attribute o (nmS ml) apos) [] [] pos) (TEv T Wx (fMeth mt ml f faNil)) := by
  refine meth_core hK hM hr tk ho hre rfl (by decide) hp fun g a σ pins H s Q fd ps F F1 hk hb I q => ?_
  obtain ⟨W, sg, st, S, so, q⟩ := q
  exact PySem.W.callWith_K0 (first := [.ref a]) I.kIn hk (run_R (us := [.ref a]) (vs := [.ref a]) (E := WE Wx) F1 hr hb (passAt tk σ) I (.cons rfl .nil) (RQ.here q S [] rfl))

/-! ### methods of what is built in -/
def isLst (p : PV) (st : Store) : Bool := match p with
  | .ref n => match st[n]? with
    | some (.lst _) => true
    | _ => false
  | .lst _ => true
  | .scr _ => true
  | _ => false
def isStr (p : PV) (_ : Store) : Bool := match p with
  | .str _ => true
  | _ => false
theorem isLst_at {W : Wd} {st : Store} {H : Hp} (S : Sim T W st H) {p : PV} {v : V} (r : Rep T.K W p v) (h : isLst p st = true) : tyV T.K "list" v H := by
  cases p with
  | ref n =>
    cases hc : st[n]? with
    | none => simp only [isLst, hc] at h; cases h
    | some c =>
      cases c with
      | lst xs =>
        obtain ⟨a, e, rfl⟩ := r
        obtain ⟨vs, f, _⟩ := S.cell n a _ e hc
        exact .inl ⟨rfl, vs, .inl (.inl f)⟩
      | _ => simp only [isLst, hc] at h; cases h
  | lst xs => obtain ⟨a, vs, rfl, f, _⟩ := r; exact .inl ⟨rfl, vs, .inl (.inl (S.sub _ _ f))⟩
  | scr xs => obtain ⟨a, vs, rfl, f, _⟩ := r; exact .inl ⟨rfl, vs, SqL.up f S.sub⟩
  | _ => cases h
theorem isStr_at {W : Wd} {st : Store} {H : Hp} (S : Sim T W st H) {p : PV} {v : V} (r : Rep T.K W p v) (h : isStr p st = true) : tyV T.K "str" v H := by
  cases p with
  | str s => obtain ⟨rfl, _⟩ := r; rfl
  | _ => cases h
def fBM (is : PV → Store → Bool) (h : PV → List PV → Store → Option (PV × Store)) (f : FE) (fa : FA) : FE := fun sg st => (f sg st).bind fun p st =>
  if is p st then (fa sg st).bind fun ps st => liftS (h p ps st) else .stuck
variable {is : PV → Store → Bool} {hm : PV → List PV → Store → Option (PV × Store)} {ty id : String} {name : Str}
theorem tBM_of (hi : ∀ {W : Wd} {st : Store} {H : Hp}, Sim T W st H → ∀ {p : PV} {v : V}, Rep T.K W p v → is p st = true → tyV T.K ty v H) :
    ∀ σ H Q, TEv T Wx (fBM is hm f fa) σ H Q → tBM T.K ty (rM T hm) (TEv T Wx f) (TAv T Wx fa) σ H Q := fun σ H Q ⟨W, sg, st, S, so, q⟩ =>
  ⟨W, sg, st, S, so, (RQ.bind q).mono fun p st1 W1 H1 g1 S1 q1 v rv => by
    by_cases h : is p st1 = true
    · rw [if_pos h] at q1
      refine ⟨hi S1 rv h, W1, sg, st1, S1, so.up g1.le, (RQ.bind q1).mono fun ps st2 W2 H2 g2 S2 q2 vs rvs => ?_⟩
      obtain ⟨z, hz, k⟩ := RQ.liftS q2
      exact ⟨W2, st2, p, ps, z, S2, rv.up g2.le, rvs, hz, k⟩
    · rw [if_neg h] at q1; exact q1.elim⟩
theorem de_bm (hK : T.K = X.K) (hi : ∀ {W : Wd} {st : Store} {H : Hp}, Sim T W st H → ∀ {p : PV} {v : V}, Rep T.K W p v → is p st = true → tyV T.K ty v H) (pa : PlainAttrs ty) (slot : Slot ty name id) (hty : typeOf (.builtin id) = pure (.type "method_descriptor"))
    (hM : MtR X id (rM T hm)) (ho : PE X o (TEv T Wx f)) (ha : PA X (e :: es) (TAv T Wx fa)) (hre : recvE o = true) (hs : (e :: es).all notStar = true) (hl : (e :: es).length < 30) (hp : (apos.endLine == pos.line) = true) :
    PE X (.Call (.Attribute o name apos) (e :: es) [] pos) (TEv T Wx (fBM is hm f fa)) := by
  have hs' := hs
  rw [List.all_cons, Bool.and_eq_true] at hs'
  exact PEimp (pe_bm pa slot hty hM ho ha (base_of hre) (few_of hs hl) hp (star_of hs'.1) (stars_of hs'.2)) (hK ▸ tBM_of hi)
theorem de_bm0 (hK : T.K = X.K) (hi : ∀ {W : Wd} {st : Store} {H : Hp}, Sim T W st H → ∀ {p : PV} {v : V}, Rep T.K W p v → is p st = true → tyV T.K ty v H) (pa : PlainAttrs ty) (slot : Slot ty name id) (hty : typeOf (.builtin id) = pure (.type "method_descriptor"))
    (hM : MtR X id (rM T hm)) (ho : PE X o (TEv T Wx f)) (hre : recvE o = true) (hp : (apos.endLine == pos.line) = true) :
    PE X (.Call (.Attribute o name apos) [] [] pos) (TEv T Wx (fBM is hm f faNil)) := by
  refine PEimp (pe_bm0 pa slot hty hM ho (base_of hre) hp) fun σ H Q q => ?_
  have z := tBM_of (Wx := Wx) hi σ H Q q
  obtain ⟨W, sg, st, S, so, q⟩ := z
  rw [← hK]
  exact ⟨W, sg, st, S, so, q.mono fun p st1 W1 H1 g1 S1 q1 v rv => by
    obtain ⟨t1, W2, sg2, st2, S2, so2, q2⟩ := q1 v rv
    exact ⟨t1, RQ.here q2 S2 [] rfl⟩⟩

/-! ### fields -/
def fFld (l : List Nat) (f : FE) : FE := fun sg st => (f sg st).bind fun p st => match insAt p st with
  | some (_, fs) => match lookF l fs with
    | some z => .ok z st
    | none => .stuck
  | none => .stuck
theorem lookF_mem {l : List Nat} : ∀ {fs : List (List Nat × PV)} {z : PV}, lookF l fs = some z → ∃ f ∈ fs, f.1 = l
  | [], _, h => by cases h
  | (g, p) :: r, z, h => by
    unfold lookF at h
    by_cases q : l = g
    · exact ⟨_, List.mem_cons_self, q.symm⟩
    · rw [if_neg q] at h
      obtain ⟨f, h1, h2⟩ := lookF_mem h
      exact ⟨f, List.mem_cons_of_mem _ h1, h2⟩
theorem de_fld {l : List Nat} (hK : T.K = X.K) (he : PE X e (TEv T Wx f)) (hre : recvE e = true) : PE X (.Attribute e (nmS l) pos) (TEv T Wx (fFld l f)) :=
  PEimp (pe_fld he (base_of hre)) fun σ H Q ⟨W, sg, st, S, so, q⟩ => ⟨W, sg, st, S, so, (RQ.bind q).mono fun p st1 W1 H1 g1 S1 q1 v rv => by
    cases hi : insAt p st1 with
    | none => simp only [hi] at q1; exact q1.elim
    | some z =>
      obtain ⟨c, fs⟩ := z
      simp only [hi] at q1
      cases hm : lookF l fs with
      | none => simp only [hm] at q1; exact q1.elim
      | some z =>
        simp only [hm] at q1
        obtain ⟨n, a, dx, us, rfl, e1, e2, rfl, e3, rf, cl, na⟩ := insAt_at S1 rv hi
        have lk := lookF_at (f := l) rf
        rw [hm] at lk
        obtain ⟨u, lu, ru⟩ := lk
        obtain ⟨g, hg, rfl⟩ := lookF_mem hm
        exact ⟨a, T.cl c, dx, us, u, rfl, e3, hK ▸ cl, hK ▸ na g hg, lu, RQ.here q1 S1 u ru⟩⟩
end
end Pv
/-! Pv, part K: a class is made; dict displays; what is stored into lists, dicts, fields. -/
namespace Pv
open PySem PySem.Spec PyProof.Rows PySem.SeqAt L2

section
variable {X : Cx} {T : Txt} {Wx : WX} {F : FF} {k : Nat} {x m : Str} {p pos apos : Pos} {e o : Expr} {es : List Expr} {f g : FE} {fa : FA}
/-! ### C(..): what __init__ raises is not served -/
def fMake (c : Nat) (F : FF) (fa : FA) : FE := fun sg st => (fa sg st).bind fun ps st => (noX (F (.ref st.length :: ps) (st ++ [.ins c []]))).bind fun z st' => match z with
  | .non => .ok (.ref st.length) st'
  | _ => .stuck
theorem tMake_of {c : Nat} (hC : Cls T.K (T.cl c)) : ∀ σ H Q, TEv T Wx (fMake c F fa) σ H Q → tMake (T.cl c) (spF T F) [] E0 (TAv T Wx fa) σ H Q := fun σ H Q ⟨W, sg, st, S, so, q⟩ =>
  ⟨W, sg, st, S, so, (RQ.bind q).mono fun ps st1 W1 H1 g1 S1 q1 vs rvs x dx hx hdx hne => by
    obtain ⟨g2, S2⟩ := S1.loose hdx (.own x)
    have hx2 : upd H1 dx (.own x) x = none := by rw [upd_ne (Ne.symm hne)]; exact hx
    obtain ⟨g3, S3, e3⟩ := S2.boxed hx2 (.ins (T.cl c) dx []) (c := .ins c []) ⟨dx, [], upd_same, rfl, hC, fun _ h => absurd h (by simp)⟩
    have g13 := g2.trans g3
    rw [List.append_nil]
    refine ⟨⟨W1.F, W1.ρ ++ [x]⟩, .ref st1.length :: ps, st1 ++ [.ins c []], S3, ⟨.ref x, vs, rfl, ⟨x, e3, rfl⟩, rvs.up g13.le⟩, ?_⟩
    cases hF : F (.ref st1.length :: ps) (st1 ++ [.ins c []]) with
    | stuck => rw [hF] at q1; exact q1.elim
    | ex x s => rw [hF] at q1; exact q1.elim
    | ok z st2 =>
      rw [hF] at q1
      intro W4 H4 g4 S4 v rv
      cases z with
      | non =>
        cases rv
        refine ⟨rfl, ?_⟩
        exact (show RQ T Wx σ W1 H1 (R.ok (PV.ref st1.length) st2) _ from q1) W4 H4 (g13.trans g4) S4 _ ⟨x, g4.le.ρ _ _ e3, rfl⟩
      | _ => exact q1.elim⟩
theorem de_make {c : Nat} (h : Ma1 X.prog X.w X.K X.mg X.base T k x c F) (hK : T.K = X.K) (hr : Room (k + 1) X.A) (hg : Gl X x) (ha : PA X (e :: es) (TAv T Wx fa)) (hs : (e :: es).all notStar = true) (hd : (x == ("__debug__" : Str)) = false) :
    PE X (.Call (.Name x p) (e :: es) [] pos) (TEv T Wx (fMake c F fa)) := by
  obtain ⟨f, fd, ps, F1, hm, hk, hb, hC⟩ := h.ex
  rw [List.all_cons, Bool.and_eq_true] at hs
  exact PEimp (pe_make hm F1 hr hg hk hb .nil passL ha hd (star_of hs.1) (stars_of hs.2)) (tMake_of (hK ▸ hC))
theorem de_make0 {c : Nat} (h : Ma1 X.prog X.w X.K X.mg X.base T k x c F) (hK : T.K = X.K) (hr : Room (k + 1) X.A) (hg : Gl X x) (hd : (x == ("__debug__" : Str)) = false) :
    PE X (.Call (.Name x p) [] [] pos) (TEv T Wx (fMake c F faNil)) := by
  obtain ⟨f, fd, ps, F1, hm, hk, hb, hC⟩ := h.ex
  refine PEimp (pe_make0 hm F1 hr hg hk hb .nil passL hd) fun σ H Q q => ?_
  obtain ⟨W, sg, st, S, so, q⟩ := tMake_of (Wx := Wx) (hK ▸ hC) σ H Q q
  exact RQ.here q S [] rfl

/-! ### dict displays -/
def fDNew (bx : Bool) : FE := fun _ st => .ok (newD bx [] [] st).1 (newD bx [] [] st).2
theorem de_dnew (bx : Bool) : PE X (.Dict [] [] pos) (TEv T Wx (fDNew bx)) :=
  PEimp pe_dnewK fun σ H Q ⟨W, sg, st, S, so, q⟩ => PostS.newD (bx := bx) (ks := []) (vs := []) (kvs := []) (show PostS T W H (newD bx [] [] st) Q from q) S rfl rfl
def fPs : List (FE × FE) → Sig → Store → R (List (PV × PV))
  | [], _, st => .ok [] st
  | (f, g) :: r, sg, st => (f sg st).bind fun a st => (g sg st).bind fun b st => (fPs r sg st).bind fun l st => .ok ((a, b) :: l) st
def RepPs (K : PySem.W.Frag) (W : Wd) : List (PV × PV) → List (V × V) → Prop
  | [], vs => vs = []
  | (a, b) :: r, vs => ∃ u v t, vs = (u, v) :: t ∧ Rep K W a u ∧ Rep K W b v ∧ RepPs K W r t
theorem tPairs_of : ∀ (prs : List (FE × FE)) (σ : L2.St) (H : Hp) (Q : List (V × V) → Hp → Prop) (W : Wd) (sg : Sig) (st : Store), Sim T W st H → SigOk T.K W sg σ →
    RQ T Wx σ W H (fPs prs sg st) (fun l st' W' H' => ∀ vs, RepPs T.K W' l vs → Q vs H') → tPairs (prs.map fun fg => (TEv T Wx fg.1, TEv T Wx fg.2)) σ H Q
  | [], σ, H, Q, W, sg, st, S, so, q => RQ.here q S [] rfl
  | (f, g) :: r, σ, H, Q, W, sg, st, S, so, q => ⟨W, sg, st, S, so, (RQ.bind q).mono fun a st1 W1 H1 g1 S1 q1 u ru => ⟨W1, sg, st1, S1, so.up g1.le, (RQ.bind q1).mono fun b st2 W2 H2 g2 S2 q2 v rv =>
      tPairs_of r σ H2 _ W2 sg st2 S2 (so.up (g1.le.trans g2.le)) ((RQ.bind q2).mono fun l st3 W3 H3 g3 S3 q3 vs rvs => RQ.here q3 S3 ((u, v) :: vs) ⟨u, v, vs, rfl, ru.up (g2.le.trans g3.le), rv.up g3.le, rvs⟩)⟩⟩
def foldD : List (PV × PV) → List PV → List PV → Option (List PV × List PV)
  | [], ks, vs => some (ks, vs)
  | (k, v) :: r, ks, vs => if (keyOf k).isSome then foldD r (putDk k ks) (putDv k v ks vs) else none
theorem foldD_at {K : PySem.W.Frag} {W : Wd} : ∀ {l : List (PV × PV)} {us : List (V × V)} {ks vs : List PV} {kvs : List (Key × V)} {out : List PV × List PV}, RepPs K W l us → RepK ks (kvs.map (·.1)) → Reps K W vs (kvs.map (·.2)) → foldD l ks vs = some out →
    ∃ more : List (Key × V), us = more.map (fun kv => (kV kv.1, kv.2)) ∧ more.length = l.length ∧ RepK out.1 ((mergeK kvs more).map (·.1)) ∧ Reps K W out.2 ((mergeK kvs more).map (·.2))
  | [], us, ks, vs, kvs, out, r, rk, rv, h => by
    cases r; cases h
    exact ⟨[], rfl, rfl, rk, rv⟩
  | (a, b) :: l, us, ks, vs, kvs, out, ⟨u, v, t, e, ru, rb, rt⟩, rk, rv, h => by
    subst e
    unfold foldD at h
    cases hk : keyOf a with
    | none => rw [hk] at h; cases h
    | some k =>
      have h : foldD l (putDk a ks) (putDv a b ks vs) = some out := by simpa [hk] using h
      obtain ⟨h1, h2⟩ := putD_at (repK1_of ru hk) rb rk rv
      obtain ⟨more, e, hl, m1, m2⟩ := foldD_at rt h1 h2 h
      exact ⟨(k, v) :: more, by rw [e, keyOf_V ru hk]; rfl, by simp [hl], m1, m2⟩
def fDisp (bx : Bool) (prs : List (FE × FE)) : FE := fun sg st => (fPs prs sg st).bind fun l st => if l.length ≤ 15 then match foldD l [] [] with
  | some (ks, vs) => .ok (newD bx ks vs st).1 (newD bx ks vs st).2
  | none => .stuck else .stuck
/-- a new object that stood loose is now a value of the evaluator -/
theorem Go.adoptU {W W1 W2 : Wd} {H H1 : Hp} {d : Addr} {o : HO} (g : Go W H W1 H1) (hd : H d = none) (l : W1.Le W2) (k : ∀ b, b ≠ d → W1.F b = none → b ∉ W1.ρ → W2.F b = none ∧ b ∉ W2.ρ) : Go W H W2 (upd H1 d o) :=
  ⟨g.le.trans l, fun b u e1 e2 e3 => by
    obtain ⟨q1, q2, q3⟩ := g.keep b u e1 e2 e3
    have : b ≠ d := fun z => by subst z; rw [hd] at e1; cases e1
    exact ⟨(upd_ne this).trans q1, k b this q2 q3⟩⟩
theorem de_disp (bx : Bool) {keys : List (Option Expr)} {values : List Expr} {prs : List (FE × FE)} (h : PPs X pos keys values (prs.map fun fg => (TEv T Wx fg.1, TEv T Wx fg.2))) (hall : keys.all (·.isSome) = true) (hl : keys.length = values.length) (h0 : keys ≠ []) (h15 : keys.length ≤ 15) :
    PE X (.Dict keys values pos) (TEv T Wx (fDisp bx prs)) :=
  PEimp (pe_disp h hall hl h0 h15) fun σ H Q ⟨W, sg, st, S, so, q⟩ d hd => by
    obtain ⟨gD, SD⟩ := S.loose hd (.dK [])
    refine tPairs_of prs σ _ _ W sg st SD so ?_
    have q : RQ T Wx σ W H ((fPs prs sg st).bind fun l st => if l.length ≤ 15 then match foldD l [] [] with
      | some (ks, vs) => .ok (newD bx ks vs st).1 (newD bx ks vs st).2
      | none => .stuck else .stuck) fun p st' W' H' => ∀ v, Rep T.K W' p v → Q v H' := q
    cases hr : fPs prs sg st with
    | stuck => rw [hr] at q; exact q.elim
    | ex x s => rw [hr] at q; exact fun W' H' cls d' g S' at_ => q W' H' cls d' (gD.trans g) S' at_
    | ok l st1 =>
      rw [hr] at q
      have q1 : RQ T Wx σ W H (if l.length ≤ 15 then match foldD l [] [] with
        | some (ks, vs) => R.ok (newD bx ks vs st1).1 (newD bx ks vs st1).2
        | none => .stuck else .stuck) fun p st' W' H' => ∀ v, Rep T.K W' p v → Q v H' := q
      intro W1 H1 g1 S1 us rus
      by_cases h15 : l.length ≤ 15
      rotate_left
      · rw [if_neg h15] at q1; exact q1.elim
      rw [if_pos h15] at q1
      cases hf : foldD l [] [] with
      | none => simp only [hf] at q1; exact q1.elim
      | some out =>
        obtain ⟨ks, vs⟩ := out
        simp only [hf] at q1
        obtain ⟨more, e, hl, m1, m2⟩ := foldD_at (kvs := []) (ks := []) (vs := []) rus rfl rfl hf
        have hnr : d ∉ W.ρ := fun z => S.dom d z hd
        obtain ⟨k1, k2, k3⟩ := g1.keep d _ upd_same (S.fresh hd) hnr
        refine ⟨k1, more, e, by omega, ?_⟩
        have SU := S1.loosen k2 k3 (.dK (mergeK [] more))
        have gb := gD.trans g1
        cases bx with
        | false =>
          obtain ⟨l2, S2⟩ := SU.adopt k2 k3 upd_same
          exact q1 _ _ (gb.adoptU hd l2 fun b nb z1 z2 => ⟨(upd_ne nb).trans z1, z2⟩) S2 _ ⟨d, _, rfl, upd_same, m1, m2.up l2⟩
        | true =>
          obtain ⟨l2, S2, e2⟩ := SU.adoptB k2 k3 (by rw [upd_same]; simp) (c := .dic ks vs) ⟨_, upd_same, m1, m2⟩
          exact q1 _ _ (gb.adoptU hd l2 fun b nb z1 z2 => ⟨z1, by rw [List.mem_append]; exact fun z => z.elim z2 fun z => nb (by simpa using z)⟩) S2 _ ⟨d, e2, rfl⟩
theorem dps_nil : PPs X pos [] [] (([] : List (FE × FE)).map fun fg => (TEv T Wx fg.1, TEv T Wx fg.2)) := pps_nil
theorem dps_cons {a b : Expr} {ks : List (Option Expr)} {vs : List Expr} {prs : List (FE × FE)} (h1 : PE X a (TEv T Wx f)) (h2 : PE X b (TEv T Wx g)) (h : PPs X pos ks vs (prs.map fun fg => (TEv T Wx fg.1, TEv T Wx fg.2))) :
    PPs X pos (some a :: ks) (b :: vs) (((f, g) :: prs).map fun fg => (TEv T Wx fg.1, TEv T Wx fg.2)) := pps_cons h1 h2 h

/-! ### stores: o[i] = v -/
def setP (o i v : PV) (st : Store) : Option Store := match o with
  | .ref n => match st[n]? with
    | some (.lst xs) => match i with
      | .int j => (ixN xs.length j).map fun m => st.set n (.lst (xs.set m v))
      | _ => none
    | some (.dic ks vs) => if ks.length < sizeLine then (keyOf i).map fun _ => st.set n (.dic (putDk i ks) (putDv i v ks vs)) else none
    | _ => none
  | _ => none
def rSet (T : Txt) : TSet := fun o i v H Q => ∃ W st po pi pv st', Sim T W st H ∧ Rep T.K W po o ∧ Rep T.K W pi i ∧ Rep T.K W pv v ∧ setP po pi pv st = some st' ∧ ∀ W' H', Go W H W' H' → Sim T W' st' H' → Q H'
theorem PSet.or {t t' : TSet} (h : PSet X t) (h' : PSet X t') : PSet X fun o i v H Q => t o i v H Q ∨ t' o i v H Q := fun pins s σ H o i v ov iv u Q I ro ri rv q => q.elim (h pins s σ H o i v ov iv u Q I ro ri rv) (h' pins s σ H o i v ov iv u Q I ro ri rv)
theorem PSet.imp {t t' : TSet} (h : PSet X t) (i : ∀ a b c H Q, t' a b c H Q → t a b c H Q) : PSet X t' := fun pins s σ H o j v ov iv u Q I ro ri rv q => h pins s σ H o j v ov iv u Q I ro ri rv (i _ _ _ _ _ q)
theorem setP_ok (hu : X.A.units + 1 < cLine) : PSet X (rSet T) :=
  PSet.imp (PSet.or set_list (set_dict hu)) fun o i v H Q ⟨W, st, po, pi, pv, st', S, ro, ri, rv, h, k⟩ => by
    cases po with
    | ref n =>
      obtain ⟨a, e, rfl⟩ := ro
      cases hc : st[n]? with
      | none => simp only [setP, hc] at h; cases h
      | some c =>
        cases c with
        | lst xs =>
          simp only [setP, hc] at h
          obtain ⟨vs, hH, rs⟩ := S.cell n a _ e hc
          cases pi with
          | int j =>
            cases ri
            simp only [] at h
            cases hj : ixN xs.length j with
            | none => rw [hj] at h; cases h
            | some m =>
              rw [hj] at h
              cases h
              obtain ⟨g, S'⟩ := S.write e hc rfl (.lst (vs.set m v)) (c' := .lst (xs.set m pv)) ⟨_, upd_same, rs.set m rv⟩
              exact .inl ⟨a, vs, j, m, rfl, rfl, hH, by rw [Reps.length rs]; exact hj, k _ _ g S'⟩
          | _ => simp only [] at h; cases h
        | dic ks vs =>
          simp only [setP, hc] at h
          obtain ⟨kvs, hH, rk, rs⟩ := S.cell n a _ e hc
          by_cases hz : ks.length < sizeLine
          · rw [if_pos hz] at h
            cases hk : keyOf pi with
            | none => rw [hk] at h; cases h
            | some k' =>
              rw [hk] at h
              cases h
              obtain ⟨h1, h2⟩ := putD_at (repK1_of ri hk) rv rk rs
              obtain ⟨g, S'⟩ := S.write e hc rfl (.dK (putK kvs k' v)) (c' := .dic (putDk pi ks) (putDv pi pv ks vs)) ⟨_, upd_same, h1, h2⟩
              have hl : kvs.length = ks.length := by have := rk.length; simpa using this
              exact .inr ⟨a, _, rfl, by rw [keyOf_V ri hk]; exact DPut.k hH (by omega), k _ _ g S'⟩
          · rw [if_neg hz] at h; cases h
        | _ => simp only [setP, hc] at h; cases h
    | _ => cases h
def liftU (sg : Sig) (o : Option Store) : R Sig := match o with
  | some st => .ok sg st
  | none => .stuck
def gtSub (f g : FE) : FG := fun v sg st => noX ((f sg st).bind fun a st => (g sg st).bind fun i st => liftU sg (setP a i v st))
theorem noX_not {α : Type} {r : R α} {x : Exc} {st : Store} : noX r ≠ .ex x st := by cases r <;> simp [noX]
theorem RQ.noX {W : Wd} {H : Hp} {σ : L2.St} {α : Type} {r : R α} {kk : α → Store → Wd → Hp → Prop} (h : RQ T Wx σ W H (Pv.noX r) kk) : RQ T Wx σ W H r kk := by
  cases r with
  | ex x st => exact h.elim
  | ok a st => exact h
  | stuck => exact h
theorem gtSub_not {p : PV} {sg : Sig} {st st' : Store} {x : Exc} : gtSub f g p sg st ≠ .ex x st' := noX_not
theorem astore_of {o i : Expr} (h : plainIx i = true) (env : Env) (v : Value) : assign (.Subscript o i pos) env v = (do
      let ov ← holding [v] (eval o env)
      let iv ← holding [v, ov] (eval i env)
      standAt pos
      holding [v, ov, iv] (setItem ov iv v)
      release [v, ov, iv] []) := by
  cases i with
  | Slice lo hi st p => cases st <;> cases h
  | _ => rfl
theorem dg_sub {o i : Expr} (hu : X.A.units + 1 < cLine) (ho : PE X o (TEv T Wx f)) (hi : PE X i (TEv T Wx g)) (h : plainIx i = true) : PG X (.Subscript o i pos) (TGv T Wx [] (gtSub f g)) :=
  PGimp (pg_sub ho hi (setP_ok (T := T) hu) (astore_of h X.env)) fun v σ H Q ⟨W, sg, st, p, S, so, r, q⟩ =>
    ⟨W, sg, st, S, so, (RQ.bind (RQ.noX q)).mono fun a st1 W1 H1 g1 S1 q1 u ru => ⟨W1, sg, st1, S1, so.up g1.le, (RQ.bind q1).mono fun b st2 W2 H2 g2 S2 q2 w rw' => by
      cases hs : setP a b p st2 with
      | none => rw [hs] at q2; exact q2.elim
      | some st3 =>
        rw [hs] at q2
        exact ⟨W2, st2, a, b, p, st3, S2, ru.up g2.le, rw', r.up (g1.le.trans g2.le), hs, fun W' H' g' S' => q2 W' H' g' S' σ (so.up (g1.le.trans (g2.le.trans g'.le))) (.refl _ _)⟩⟩⟩

/-! ### stores: o.f = v -/
def putL (f : List Nat) (v : PV) : List (List Nat × PV) → List (List Nat × PV)
  | [] => [(f, v)]
  | (g, x) :: r => if g = f then (g, v) :: r else (g, x) :: putL f v r
theorem putL_at {K : PySem.W.Frag} {W : Wd} {f : List Nat} {p : PV} {v : V} (rv : Rep K W p v) : ∀ {fs : List (List Nat × PV)} {us : List (Str × V)}, RepF K W fs us → RepF K W (putL f p fs) (putF (nmS f) v us)
  | [], _, h => by cases h; exact ⟨v, [], rfl, rv, rfl⟩
  | (g, x) :: r, _, ⟨u, t, e, ru, rt⟩ => by
    subst e
    unfold putL putF
    by_cases q : g = f
    · rw [if_pos q, if_pos (congrArg nmS q)]
      exact ⟨v, t, rfl, rv, rt⟩
    · rw [if_neg q, if_neg (fun z => q (nmS_inj z))]
      exact ⟨u, _, rfl, ru, putL_at rv rt⟩
theorem RepF.length {K : PySem.W.Frag} {W : Wd} : ∀ {fs : List (List Nat × PV)} {us : List (Str × V)}, RepF K W fs us → us.length = fs.length
  | [], _, h => by cases h; rfl
  | (_, _) :: _, _, ⟨_, _, e, _, t⟩ => by subst e; simp [RepF.length t]
/-- the names that a class's instances may take as fields -/
def setF (ok : Nat → Bool) (l : List Nat) (o v : PV) (st : Store) : Option Store := match o with
  | .ref n => match st[n]? with
    | some (.ins c fs) => if ok c && decide (fs.length < 1000) then some (st.set n (.ins c (putL l v fs))) else none
    | _ => none
  | _ => none
theorem mem_putL {f : List Nat} {v : PV} : ∀ {fs : List (List Nat × PV)} {x}, x ∈ putL f v fs → x.1 = f ∨ ∃ y ∈ fs, y.1 = x.1
  | [], x, h => by simp [putL] at h; exact .inl (by rw [h])
  | (g, y) :: r, x, h => by
    unfold putL at h
    by_cases q : g = f
    · rw [if_pos q] at h
      rcases List.mem_cons.mp h with h | h
      · exact .inl (by rw [h]; exact q)
      · exact .inr ⟨x, List.mem_cons_of_mem _ h, rfl⟩
    · rw [if_neg q] at h
      rcases List.mem_cons.mp h with h | h
      · exact .inr ⟨(g, y), List.mem_cons_self, by rw [h]⟩
      · rcases mem_putL h with z | ⟨y, h1, h2⟩
        · exact .inl z
        · exact .inr ⟨y, List.mem_cons_of_mem _ h1, h2⟩
theorem setF_at {ok : Nat → Bool} {l : List Nat} {W : Wd} {st st' : Store} {H : Hp} (hok : ∀ c, ok c = true → NoAttr T.K (T.cl c) (nmS l)) (S : Sim T W st H) {o v : PV} {ov vv : V} (ro : Rep T.K W o ov) (rv : Rep T.K W v vv) (h : setF ok l o v st = some st') :
    ∃ a C dx us, ov = .ref a ∧ H a = some (.ins C dx us) ∧ Cls T.K C ∧ NoAttr T.K C (nmS l) ∧ us.length < 1000 ∧ Go W H W (upd H a (.ins C dx (putF (nmS l) vv us))) ∧ Sim T W st' (upd H a (.ins C dx (putF (nmS l) vv us))) := by
  cases o with
  | ref n =>
    obtain ⟨a, e, rfl⟩ := ro
    cases hc : st[n]? with
    | none => simp only [setF, hc] at h; cases h
    | some c =>
      cases c with
      | ins c fs =>
        simp only [setF, hc] at h
        by_cases hk : (ok c && decide (fs.length < 1000)) = true
        rotate_left
        · rw [if_neg hk] at h; cases h
        rw [if_pos hk] at h
        cases h
        rw [Bool.and_eq_true] at hk
        obtain ⟨dx, us, hH, rf, cl, na⟩ := S.cell n a _ e hc
        have hn := hok c hk.1
        obtain ⟨g, S'⟩ := S.write e hc rfl (.ins (T.cl c) dx (putF (nmS l) vv us)) (c' := .ins c (putL l v fs)) ⟨dx, _, upd_same, putL_at rv rf, cl, fun x hx => by
          rcases mem_putL hx with z | ⟨y, h1, h2⟩
          · rw [z]; exact hn
          · rw [← h2]; exact na y h1⟩
        exact ⟨a, _, dx, us, rfl, hH, cl, hn, by rw [RepF.length rf]; exact of_decide_eq_true hk.2, g, S'⟩
      | _ => simp only [setF, hc] at h; cases h
  | _ => cases h
end
end Pv
/-! Pv, part L: statements. -/
namespace Pv
open PySem PySem.Spec PyProof.Rows PySem.SeqAt L2

inductive SR where
  | nx (sg : Sig) (st : Store) | rt (p : PV) (st : Store) | bk (sg : Sig) (st : Store) | ct (sg : Sig) (st : Store) | ex (x : Exc) (sg : Sig) (st : Store) | stuck
abbrev FS := Sig → Store → SR
def SQ (T : Txt) (Wx : WX) (D : Ends) (W : Wd) (H : Hp) : SR → Prop
  | .nx sg st => ∀ W' H' σ', Go W H W' H' → Sim T W' st H' → SigOk T.K W' sg σ' → D.nx σ' H'
  | .bk sg st => ∀ W' H' σ', Go W H W' H' → Sim T W' st H' → SigOk T.K W' sg σ' → D.bk σ' H'
  | .ct sg st => ∀ W' H' σ', Go W H W' H' → Sim T W' st H' → SigOk T.K W' sg σ' → D.ct σ' H'
  | .rt p st => ∀ W' H' v, Go W H W' H' → Sim T W' st H' → Rep T.K W' p v → D.rt v H'
  | .ex x sg st => ∀ W' H' σ' cls d, Go W H W' H' → Sim T W' st H' → SigOk T.K W' sg σ' → ExcAt T W' H' x cls d → Wx cls d σ' H'
  | .stuck => False
@[inline] def bindE {α : Type} (r : R α) (sg : Sig) (k : α → Store → SR) : SR := match r with
  | .ok a st => k a st
  | .ex x st => .ex x sg st
  | .stuck => .stuck
def TSv (T : Txt) (Wx : WX) (f : FS) : TS := fun D σ H => ∃ W sg st, Sim T W st H ∧ SigOk T.K W sg σ ∧ SQ T Wx D W H (f sg st)
section
variable {T : Txt} {Wx : WX} {D : Ends} {W W1 : Wd} {H H1 : Hp} {σ : L2.St} {α : Type}
theorem SQ.later {r : SR} (h : SQ T Wx D W H r) (g : Go W H W1 H1) : SQ T Wx D W1 H1 r := by
  cases r with
  | nx sg st => exact fun W' H' σ' g' => h W' H' σ' (g.trans g')
  | bk sg st => exact fun W' H' σ' g' => h W' H' σ' (g.trans g')
  | ct sg st => exact fun W' H' σ' g' => h W' H' σ' (g.trans g')
  | rt p st => exact fun W' H' v g' => h W' H' v (g.trans g')
  | ex x sg st => exact fun W' H' σ' cls d g' => h W' H' σ' cls d (g.trans g')
  | stuck => exact h
theorem SQ.bindE {r : R α} {sg : Sig} {k : α → Store → SR} (h : SQ T Wx D W H (Pv.bindE r sg k)) (so : SigOk T.K W sg σ) : RQ T Wx σ W H r fun a st' W' H' => SQ T Wx D W' H' (k a st') := by
  cases r with
  | ok a st => exact fun W' H' g S => SQ.later (show SQ T Wx D W H (k a st) from h) g
  | ex x st => exact fun W' H' cls d g S at_ => h W' H' σ cls d g S (so.up g.le) at_
  | stuck => exact h
theorem SQ.nx_here {sg : Sig} {st : Store} (h : SQ T Wx D W H (.nx sg st)) (S : Sim T W st H) (so : SigOk T.K W sg σ) : D.nx σ H := h W H σ (.refl W H) S so
end
section
variable {X : Cx} {T : Txt} {Wx : WX} {st : Stmt} {rest : List Stmt} {pos : Pos} {e o c : Expr} {f g : FE} {ft : FT} {fa : FA} {u v : FS}
def fsStuck : FS := fun _ _ => .stuck
theorem ds_never : PS X st (TSv T Wx fsStuck) := PSimp ps_never fun D σ H ⟨_, _, _, _, _, q⟩ => q
theorem dss_never : PSs X rest (TSv T Wx fsStuck) := PSsimp pss_never fun D σ H ⟨_, _, _, _, _, q⟩ => q
def fsNil : FS := fun sg st => .nx sg st
theorem tNext_of : ∀ D σ H, TSv T Wx fsNil D σ H → tNext D σ H := fun D σ H ⟨W, sg, st, S, so, q⟩ => SQ.nx_here q S so
theorem dss_nil : PSs X [] (TSv T Wx fsNil) := PSsimp pss_nil tNext_of
theorem ds_pass : PS X (.Pass pos) (TSv T Wx fsNil) := PSimp ps_pass tNext_of
theorem ds_doc {x j pos'} : PS X (.Expr (.Constant (.str x) j pos) pos') (TSv T Wx fsNil) := PSimp ps_doc tNext_of
def seqR (r : SR) (v : FS) : SR := match r with
  | .nx sg st => v sg st
  | r => r
def fsSeq (u v : FS) : FS := fun sg st => seqR (u sg st) v
theorem tSeq_of : ∀ D σ H, TSv T Wx (fsSeq u v) D σ H → tSeq (TSv T Wx u) (TSv T Wx v) D σ H := fun D σ H ⟨W, sg, st, S, so, q⟩ => by
  refine ⟨W, sg, st, S, so, ?_⟩
  have q : SQ T Wx D W H (seqR (u sg st) v) := q
  cases hu : u sg st with
  | nx sg1 st1 => rw [hu] at q; exact fun W' H' σ' g S' so' => ⟨W', sg1, st1, S', so', SQ.later q g⟩
  | bk sg1 st1 => rw [hu] at q; exact q
  | ct sg1 st1 => rw [hu] at q; exact q
  | rt p st1 => rw [hu] at q; exact q
  | ex x sg1 st1 => rw [hu] at q; exact q
  | stuck => rw [hu] at q; exact q
theorem dss_cons (h1 : PS X st (TSv T Wx u)) (h2 : PSs X rest (TSv T Wx v)) : PSs X (st :: rest) (TSv T Wx (fsSeq u v)) := PSsimp (pss_cons h1 h2) tSeq_of
theorem dss_one (h1 : PS X st (TSv T Wx u)) : PSs X [st] (TSv T Wx u) := pss_one h1
def fsBk : FS := fun sg st => .bk sg st
def fsCt : FS := fun sg st => .ct sg st
theorem ds_break : PS X (.Break pos) (TSv T Wx fsBk) := PSimp ps_break fun D σ H ⟨W, sg, st, S, so, q⟩ => q W H σ (.refl W H) S so
theorem ds_cont : PS X (.Continue pos) (TSv T Wx fsCt) := PSimp ps_continue fun D σ H ⟨W, sg, st, S, so, q⟩ => q W H σ (.refl W H) S so
def fsRet (f : FE) : FS := fun sg st => bindE (f sg st) sg fun p st => .rt p st
theorem ds_ret (h : PE X e (TEv T Wx f)) : PS X (.Return (some e) pos) (TSv T Wx (fsRet f)) := PSimp (ps_ret h) fun D σ H ⟨W, sg, st, S, so, q⟩ =>
  ⟨W, sg, st, S, so, (SQ.bindE q so).mono fun p st1 W1 H1 g1 S1 q1 v rv => q1 W1 H1 v (.refl _ _) S1 rv⟩
def fsRetN : FS := fun _ st => .rt .non st
theorem ds_retN : PS X (.Return none pos) (TSv T Wx fsRetN) := PSimp ps_retN fun D σ H ⟨W, sg, st, S, so, q⟩ => q W H .non (.refl _ _) S rfl
def fsIf (c : FT) (u v : FS) : FS := fun sg st => bindE (c sg st) sg fun b st => if b then u sg st else v sg st
theorem ds_if {a b : List Stmt} (hc : PT X c (TTv T Wx ft)) (ha : PSs X a (TSv T Wx u)) (hb : PSs X b (TSv T Wx v)) : PS X (.If c a b pos) (TSv T Wx (fsIf ft u v)) := PSimp (ps_if hc ha hb) fun D σ H ⟨W, sg, st, S, so, q⟩ =>
  ⟨W, sg, st, S, so, (SQ.bindE q so).mono fun bb st1 W1 H1 g1 S1 q1 => by
    cases bb with
    | true => rw [if_pos rfl]; exact ⟨W1, sg, st1, S1, so.up g1.le, q1⟩
    | false => rw [if_neg Bool.false_ne_true]; exact ⟨W1, sg, st1, S1, so.up g1.le, q1⟩⟩
/-- not a comprehension -/
def noComp : Expr → Bool
  | .ListComp _ _ _ _ => false
  | .SetComp _ _ _ _ => false
  | .DictComp _ _ _ _ _ => false
  | _ => true
theorem swaps_of {e : Expr} (h : noComp e = true) (tg : Option Expr) (l : Nat) (env : Env) : swapsWith e tg l env = pure false := by
  cases e <;> first | rfl | cases h
def fsDrop (f : FE) : FS := fun sg st => bindE (f sg st) sg fun _ st => .nx sg st
theorem ds_expr (h : PE X e (TEv T Wx f)) (hn : noComp e = true) : PS X (.Expr e pos) (TSv T Wx (fsDrop f)) := PSimp (ps_expr h (swaps_of hn _ _ _)) fun D σ H ⟨W, sg, st, S, so, q⟩ =>
  ⟨W, sg, st, S, so, (SQ.bindE q so).mono fun p st1 W1 H1 g1 S1 q1 v rv => q1 W1 H1 σ (.refl _ _) S1 (so.up g1.le)⟩

/-! ### target = value -/
def fsAsg (f : FE) (g : FG) : FS := fun sg st => bindE (f sg st) sg fun p st => bindE (g p sg st) sg fun sg st => .nx sg st
variable {tg : Expr} {gt : FG} {ws : List Nat}
theorem tAsg_of : ∀ D σ H, TSv T Wx (fsAsg f gt) D σ H → tAsg (TEv T Wx f) (TGv T Wx ws gt) D σ H := fun D σ H ⟨W, sg, st, S, so, q⟩ =>
  ⟨W, sg, st, S, so, (SQ.bindE q so).mono fun p st1 W1 H1 g1 S1 q1 v rv => ⟨W1, sg, st1, p, S1, so.up g1.le, rv, (SQ.bindE q1 (so.up g1.le)).mono fun sg2 st2 W2 H2 g2 S2 q2 σ' so' _ => q2 W2 H2 σ' (.refl _ _) S2 so'⟩⟩
/-- a pair of displays aside, nothing is stored from the right -/
def noPair (tg e : Expr) : Bool := match tg, e with
  | .Tuple _ _ _, .Tuple _ _ _ => false
  | .List _ _, .Tuple _ _ _ => false
  | _, _ => true
theorem noPair_of {tg e : Expr} (h : noPair tg e = true) (env : Env) : swappedStores [tg] e env = pure none := by
  cases tg <;> cases e <;> first | rfl | cases h
/-- where a comprehension's own list goes straight into the name -/
def noSwap (sc : Scope) (tg e : Expr) : Bool := match e with
  | .ListComp _ _ s p => match tg with
    | .Name t q => !(sc.names.lookup t == some .local && q.line == p.line && !(s.names.any fun (n, k) => n == t && (k == .local || k == .cell)))
    | _ => true
  | .SetComp _ _ _ _ => false
  | .DictComp _ _ _ _ _ => false
  | _ => true
theorem noSwap_of {sc : Scope} {tg e : Expr} {l : Nat} {env : Env} (hs : env.scope = sc) (hk : sc.kind = .function) (h : noSwap sc tg e = true) : swapsWithSole [tg] e l env = pure false := by
  subst hs
  cases e with
  | ListComp elt gs s p =>
    cases tg with
    | Name t q =>
      show swapsWith (.ListComp elt gs s p) (some (.Name t q)) l env = pure false
      unfold swapsWith
      have hb : env.blockKind = .function := by unfold Env.blockKind; rw [hk]; rfl
      simp only [noSwap, Bool.not_eq_true'] at h
      simp only [hb, Env.kindOf, Expr.pos]
      have : (env.scope.names.lookup t == some .local && q.line == p.line && !(s.names.any fun (n, k) => n == t && (k == .local || k == .cell))) = false := h
      simp only [beq_self_eq_true, Bool.true_and, this]
    | _ => rfl
  | SetComp _ _ _ _ => cases h
  | DictComp _ _ _ _ _ => cases h
  | _ => rfl
theorem ds_asg {sc : Scope} (hsc : X.env.scope = sc) (hk : sc.kind = .function) (he : PE X e (TEv T Wx f)) (hg : PG X tg (TGv T Wx ws gt)) (h1 : noSwap sc tg e = true) (h2 : noPair tg e = true) (h3 : notStar tg = true) : PS X (.Assign [tg] e pos) (TSv T Wx (fsAsg f gt)) :=
  PSimp (ps_asg he hg (noSwap_of hsc hk h1) (noPair_of h2 X.env) (by rw [assign_of h3]; rfl)) tAsg_of
/-- name = [..], the list goes straight into the name -/
theorem swap_of {sc : Scope} {t : Str} {q : Pos} {e : Expr} {l : Nat} {env : Env} (hs : env.scope = sc) (hk : sc.kind = .function) (h : noSwap sc (.Name t q) e = false) (hl : ∃ a b c d, e = .ListComp a b c d) : swapsWith e (some (.Name t q)) l env = pure true := by
  subst hs
  obtain ⟨elt, gs, s, p, rfl⟩ := hl
  unfold swapsWith
  have hb : env.blockKind = .function := by unfold Env.blockKind; rw [hk]; rfl
  simp only [noSwap, Bool.not_eq_false'] at h
  simp only [hb, Env.kindOf, Expr.pos]
  have : (env.scope.names.lookup t == some .local && q.line == p.line && !(s.names.any fun (n, k) => n == t && (k == .local || k == .cell))) = true := h
  simp only [beq_self_eq_true, Bool.true_and, this]
theorem ds_setLc {sc : Scope} {i : Nat} {y : Str} {py : Pos} {elt tg iter : Expr} {ifs : List Expr} {scope : Scope} {own : List (Str × Nat)} {p2 : Pos} {fi : FA} {g : FG} (bx : Bool) (hsc : X.env.scope = sc) (hk : sc.kind = .function) (hc : X.calm = true) (hN : X.N.Nodup) (hy : X.N[i]? = some y) (hyl : X.env.scope.names.lookup y = some .local)
    (hsw : noSwap sc (.Name y py) (.ListComp elt [⟨tg, iter, ifs, 0⟩] scope p2) = false)
    (hi : PI X tg iter (TIv T Wx fi)) (ok : BlkOk X.N X.env.scope scope own)
    (hg : ∀ (s : Shared) (H : Hp) (C : Addr) (cl : List (Str × Addr)) (fp : List Addr), PG (X.blk s H scope (compEnvC scope cl C X.env) fp) tg (TGv T WxF (own.map (·.2)) g))
    (ht : ∀ (s : Shared) (H : Hp) (C : Addr) (cl : List (Str × Addr)) (fp : List Addr), PTs (X.blk s H scope (compEnvC scope cl C X.env) fp) ifs (TTv T WxF ft))
    (he : ∀ (s : Shared) (H : Hp) (C : Addr) (cl : List (Str × Addr)) (fp : List Addr), PE (X.blk s H scope (compEnvC scope cl C X.env) fp) elt (TEv T WxF f)) (hs : notSet iter = true) :
    PS X (.Assign [.Name y py] (.ListComp elt [⟨tg, iter, ifs, 0⟩] scope p2) pos) (TSv T Wx (fsAsg (fComp bx (own.map (·.2)) fi g ft f) (gtName i))) :=
  PSimp (ps_setLc hc hN hy hyl (swap_of hsc hk hsw ⟨_, _, _, _, rfl⟩) hi ok hg ht he (folded_of hs X.env)) fun D σ H q =>
    tLc_of (Wx := Wx) (bx := bx) σ H _ (show TEv T Wx _ σ H _ from by
      obtain ⟨W, sg, st, S, so, q⟩ := q
      exact ⟨W, sg, st, S, so, (SQ.bindE q so).mono fun p st1 W1 H1 g1 S1 q1 v rv => q1 W1 H1 _ (.refl _ _) S1 ((so.up g1.le).put i rv)⟩)
/-! ### a, b = x, y with plain local names -/
def starQ (vs : List Expr) : Bool := vs.any fun | .Starred .. => true | _ => false
def namesQ (sc : Scope) (ts : List Expr) : List Str := ts.filterMap fun
    | .Name id pos => if sc.names.lookup id == some .local && pos.line == (ts.head?.map (·.pos.line)).getD 0 then some id else none
    | _ => none
def swapQ (sc : Scope) (ts vs : List Expr) : Option (Option (List Str)) :=
  if !(ts.length == 2 || ts.length == 3) || vs.length != ts.length then some none else
  if starQ vs then some none else
  if (namesQ sc ts).length != ts.length || (namesQ sc ts).eraseDups.length != (namesQ sc ts).length then some none else
  if vs.all (foldedForSure 8) then some none else
  if vs.all (constantsAlone 8) then none else some (some (namesQ sc ts))
theorem swapQ_of {sc : Scope} {ts vs : List Expr} {k1 k2 p1 p2} {r : Option (List Str)} {env : Env} (hs : env.scope = sc) (hk : sc.kind = .function) (h : swapQ sc ts vs = some r) : swappedStores [.Tuple ts k1 p1] (.Tuple vs k2 p2) env = pure r := by
  subst hs
  have hb : (env.blockKind != .function) = false := by unfold Env.blockKind; rw [hk]; rfl
  unfold swappedStores
  unfold swapQ at h
  simp only [hb, Bool.or_false, Env.kindOf]
  show (if (!(ts.length == 2 || ts.length == 3) || vs.length != ts.length) = true then pure none else if starQ vs = true then pure none else
    if ((namesQ env.scope ts).length != ts.length || (namesQ env.scope ts).eraseDups.length != (namesQ env.scope ts).length) = true then pure none else
    if vs.all (foldedForSure 8) = true then pure none else if vs.all (constantsAlone 8) = true then _ else pure (some (namesQ env.scope ts))) = pure r
  by_cases c1 : (!(ts.length == 2 || ts.length == 3) || vs.length != ts.length) = true
  · rw [if_pos c1] at h ⊢; cases h; rfl
  rw [if_neg c1] at h ⊢
  by_cases c2 : starQ vs = true
  · rw [if_pos c2] at h ⊢; cases h; rfl
  rw [if_neg c2] at h ⊢
  by_cases c3 : ((namesQ env.scope ts).length != ts.length || (namesQ env.scope ts).eraseDups.length != (namesQ env.scope ts).length) = true
  · rw [if_pos c3] at h ⊢; cases h; rfl
  rw [if_neg c3] at h ⊢
  by_cases c4 : vs.all (foldedForSure 8) = true
  · rw [if_pos c4] at h ⊢; cases h; rfl
  rw [if_neg c4] at h ⊢
  by_cases c5 : vs.all (constantsAlone 8) = true
  · rw [if_pos c5] at h; cases h
  rw [if_neg c5] at h ⊢
  cases h
  rfl
def fsPar (is : List Nat) (fa : FA) : FS := fun sg st => bindE (fa sg st) sg fun ps st => if ps.length = is.length then .nx ((is.zip ps).foldl (fun sg ip => sg.set ip.1 (some ip.2)) sg) st else .stuck
theorem ds_par2 {sc : Scope} {i j : Nat} {x y : Str} {a b : Expr} {px py pt : Pos} {kt k2 pt2} (hsc : X.env.scope = sc) (hk : sc.kind = .function) (hc : X.calm = true) (hN : X.N.Nodup) (hi : X.N[i]? = some x) (hj : X.N[j]? = some y) (hij : i ≠ j)
    (hx : X.env.scope.names.lookup x = some .local) (hy : X.env.scope.names.lookup y = some .local) (ha : PA X [a, b] (TAv T Wx fa)) (hw : swapQ sc [.Name x px, .Name y py] [a, b] = some (some [x, y])) :
    PS X (.Assign [.Tuple [.Name x px, .Name y py] kt pt] (.Tuple [a, b] k2 pt2) pos) (TSv T Wx (fsPar [i, j] fa)) :=
  PSimp (ps_par hc hN hi hj hij hx hy ha (swapQ_of hsc hk hw)) fun D σ H ⟨W, sg, st, S, so, q⟩ => ⟨W, sg, st, S, so, (SQ.bindE q so).mono fun ps st1 W1 H1 g1 S1 q1 vs rvs => by
    by_cases hl : ps.length = [i, j].length
    · rw [if_pos hl] at q1
      match ps, vs, hl, rvs with
      | [p, q], _, _, ⟨v, _, rfl, rv, w, _, rfl, rw', e⟩ =>
        cases e
        exact ⟨v, w, rfl, SQ.nx_here q1 S1 (((so.up g1.le).put i rv).put j rw')⟩
    · rw [if_neg hl] at q1; exact q1.elim⟩
theorem ds_par3 {sc : Scope} {i j l : Nat} {x y z : Str} {a b c : Expr} {px py pz pt : Pos} {kt k2 pt2} (hsc : X.env.scope = sc) (hk : sc.kind = .function) (hc : X.calm = true) (hN : X.N.Nodup) (hi : X.N[i]? = some x) (hj : X.N[j]? = some y) (hl : X.N[l]? = some z) (hij : i ≠ j) (hil : i ≠ l) (hjl : j ≠ l)
    (hx : X.env.scope.names.lookup x = some .local) (hy : X.env.scope.names.lookup y = some .local) (hz : X.env.scope.names.lookup z = some .local) (ha : PA X [a, b, c] (TAv T Wx fa)) (hw : swapQ sc [.Name x px, .Name y py, .Name z pz] [a, b, c] = some (some [x, y, z])) :
    PS X (.Assign [.Tuple [.Name x px, .Name y py, .Name z pz] kt pt] (.Tuple [a, b, c] k2 pt2) pos) (TSv T Wx (fsPar [i, j, l] fa)) :=
  PSimp (ps_par3 hc hN hi hj hl hij hil hjl hx hy hz ha (swapQ_of hsc hk hw)) fun D σ H ⟨W, sg, st, S, so, q⟩ => ⟨W, sg, st, S, so, (SQ.bindE q so).mono fun ps st1 W1 H1 g1 S1 q1 vs rvs => by
    by_cases hl : ps.length = [i, j, l].length
    · rw [if_pos hl] at q1
      match ps, vs, hl, rvs with
      | [p, q, r], _, _, ⟨v, _, rfl, rv, w, _, rfl, rw', u, _, rfl, ru, e⟩ =>
        cases e
        exact ⟨v, w, u, rfl, SQ.nx_here q1 S1 ((((so.up g1.le).put i rv).put j rw').put l ru)⟩
    · rw [if_neg hl] at q1; exact q1.elim⟩
/-- a, b = x, y where a tuple is laid and taken apart -/
theorem ds_asgT {sc : Scope} {ts vs : List Expr} {k1 k2 p1 p2} (hsc : X.env.scope = sc) (hk : sc.kind = .function) (he : PE X (.Tuple vs k2 p2) (TEv T Wx f)) (hg : PG X (.Tuple ts k1 p1) (TGv T Wx ws gt)) (hw : swapQ sc ts vs = some none) :
    PS X (.Assign [.Tuple ts k1 p1] (.Tuple vs k2 p2) pos) (TSv T Wx (fsAsg f gt)) :=
  PSimp (ps_asg he hg (by rfl) (swapQ_of hsc hk hw) (by rfl)) tAsg_of

/-! ### augmented -/
def augP (op : Operator) (p q : PV) (st : Store) : Option PV := match p, q with
  | .int i, .int j => match op with
    | .Add => some (.int (i + j))
    | .Sub => some (.int (i - j))
    | _ => none
  | _, _ => none
def fsAug (i : Nat) (op : Operator) (f : FE) : FS := fun sg st => match sg[i]? with
  | some (some p) => bindE (f sg st) sg fun q st => match augP op p q st with
    | some z => .nx (sg.set i (some z)) st
    | none => .stuck
  | _ => .stuck
def augOk : Operator → Bool
  | .Add => true
  | .Sub => true
  | _ => false
theorem ds_aug {i : Nat} {x : Str} {op : Operator} {pos' : Pos} (hop : augOk op = true) (hN : X.N.Nodup) (hi : X.N[i]? = some x) (hx : Loc X.env.scope x) (he : PE X e (TEv T Wx f)) (hf : X.fn x = true ∨ X.env.scope.names.lookup x = some .local) : PS X (.AugAssign (.Name x pos') op e pos) (TSv T Wx (fsAug i op f)) := by
  have core : ∀ (h : Int → Int → Int), (∀ p q st z, augP op p q st = some z → ∃ i j, p = .int i ∧ q = .int j ∧ z = .int (h i j)) → ∀ D σ H, TSv T Wx (fsAug i op f) D σ H → tAug i (TEv T Wx f) (ipI h) D σ H := fun h hh D σ H ⟨W, sg, st, S, so, q⟩ => by
    unfold fsAug at q
    cases hs : sg[i]? with
    | none => simp only [hs] at q; exact q.elim
    | some o =>
      cases o with
      | none => simp only [hs] at q; exact q.elim
      | some p =>
        simp only [hs] at q
        obtain ⟨v, hv, rv⟩ := so.get i p hs
        refine ⟨v, hv, W, sg, st, S, so, (SQ.bindE q so).mono fun z st1 W1 H1 g1 S1 q1 u ru => ?_⟩
        cases ha : augP op p z st1 with
        | none => simp only [ha] at q1; exact q1.elim
        | some y =>
          simp only [ha] at q1
          obtain ⟨a, b, rfl, rfl, rfl⟩ := hh _ _ _ _ ha
          cases rv; cases ru
          exact ⟨a, b, rfl, rfl, SQ.nx_here q1 S1 ((so.up g1.le).put i (show Rep T.K W1 (.int (h a b)) _ from rfl))⟩
  cases op <;> first | cases hop | skip
  · refine PSimp (ps_aug hN hi hx he ip_add hf) (core (fun i j => i + j) fun p q st z h => ?_)
    cases p <;> cases q <;> first | (cases h; exact ⟨_, _, rfl, rfl, rfl⟩) | cases h
  · refine PSimp (ps_aug hN hi hx he ip_sub hf) (core (fun i j => i - j) fun p q st z h => ?_)
    cases p <;> cases q <;> first | (cases h; exact ⟨_, _, rfl, rfl, rfl⟩) | cases h
end
end Pv
/-! Pv, part M: loops, fields that are set, a def's body. -/
namespace Pv
open PySem PySem.Spec PyProof.Rows PySem.SeqAt L2

section
variable {X : Cx} {T : Txt} {Wx : WX} {st : Stmt} {rest : List Stmt} {pos : Pos} {e o c tg : Expr} {f g : FE} {ft : FT} {fa fi : FA} {u v body : FS} {gt : FG} {ws : List Nat}
/-! ### for -/
def forL (g : FG) (body : FS) : List PV → Sig → Store → SR
  | [], sg, st => .nx sg st
  | p :: ps, sg, st => bindE (g p sg st) sg fun sg1 st1 => match body sg1 st1 with
    | .nx sg st => forL g body ps sg st
    | .ct sg st => forL g body ps sg st
    | .bk sg st => .nx sg st
    | r => r
def fsFor (fi : FA) (g : FG) (body : FS) : FS := fun sg st => bindE (fi sg st) sg fun items st => forL g body items sg st
theorem tFor_of : ∀ D σ H, TSv T Wx (fsFor fi gt body) D σ H → tFor (TIv T Wx fi) (TGv T Wx ws gt) (TSv T Wx body) D σ H := fun D σ H ⟨W, sg, st, S, so, q⟩ =>
  ⟨W, sg, st, S, so, (SQ.bindE q so).mono fun items st1 W1 H1 g1 S1 q1 J hJ => by
    refine ⟨fun i m σ2 H2 => m = items.length - i ∧ i ≤ items.length ∧ ∃ W2 sg2 st2, W1.Le W2 ∧ Sim T W2 st2 H2 ∧ SigOk T.K W2 sg2 σ2 ∧ SQ T Wx D W2 H2 (forL gt body (items.drop i) sg2 st2),
      ⟨items.length, by simp, Nat.zero_le _, W1, sg, st1, .refl _, S1, so.up g1.le, q1⟩, ?_⟩
    rintro i m σ2 H2 ⟨rfl, hi, W2, sg2, st2, l2, S2, so2, q2⟩
    obtain ⟨w1, w2⟩ := hJ W2 st2 H2 i l2 S2
    by_cases hlt : i < items.length
    · obtain ⟨p, hp⟩ : ∃ p, items[i]? = some p := ⟨_, List.getElem?_eq_getElem hlt⟩
      have hdrop : items.drop i = p :: items.drop (i + 1) := by
        rw [List.drop_eq_getElem_cons hlt]
        congr 1
        have := List.getElem?_eq_getElem hlt
        rw [hp] at this
        exact (Option.some.inj this).symm
      obtain ⟨go, yl⟩ := w1 p hp
      rw [hdrop] at q2
      refine .inr ⟨go, fun σ' H' => i + 1 ≤ items.length ∧ ∃ W2 sg2 st2, W1.Le W2 ∧ Sim T W2 st2 H' ∧ SigOk T.K W2 sg2 σ' ∧ SQ T Wx D W2 H' (forL gt body (items.drop (i + 1)) sg2 st2),
        fun σ' H' ⟨h1, h⟩ => ⟨items.length - (i + 1), by omega, rfl, h1, h⟩, fun x H3 y => ?_⟩
      obtain ⟨W3, g3, S3, rx⟩ := yl x H3 y
      have q3 : SQ T Wx D W3 H3 (bindE (gt p sg2 st2) sg2 fun sg1 st1 => match body sg1 st1 with
        | .nx sg st => forL gt body (items.drop (i + 1)) sg st
        | .ct sg st => forL gt body (items.drop (i + 1)) sg st
        | .bk sg st => .nx sg st
        | r => r) := SQ.later q2 g3
      refine ⟨W3, sg2, st2, p, S3, so2.up g3.le, rx, (SQ.bindE q3 (so2.up g3.le)).mono fun sg4 st4 W4 H4 g4 S4 q4 σ4 so4 _ => ⟨W4, sg4, st4, S4, so4, ?_⟩⟩
      have l4 := (l2.trans g3.le).trans g4.le
      cases hb : body sg4 st4 with
      | nx sg5 st5 => rw [hb] at q4; exact fun W' H' σ' g S' so' => ⟨hlt, W', sg5, st5, l4.trans g.le, S', so', SQ.later q4 g⟩
      | ct sg5 st5 => rw [hb] at q4; exact fun W' H' σ' g S' so' => ⟨hlt, W', sg5, st5, l4.trans g.le, S', so', SQ.later q4 g⟩
      | bk sg5 st5 => rw [hb] at q4; exact q4
      | rt p st5 => rw [hb] at q4; exact q4
      | ex x sg5 st5 => rw [hb] at q4; exact q4
      | stuck => rw [hb] at q4; exact q4
    · have hdrop : items.drop i = [] := List.drop_eq_nil_of_le (by omega)
      rw [hdrop] at q2
      exact .inl ⟨w2 (by omega), SQ.nx_here q2 S2 so2⟩⟩
theorem ds_for {iter : Expr} {b : List Stmt} (hp : PassesOwn (model X.prog X.w) X.A X.env X.xe) (hc : X.calm = true) (hi : PI X tg iter (TIv T Wx fi)) (hg : PG X tg (TGv T Wx ws gt)) (hb : PSs X b (TSv T Wx body)) (hs : notSet iter = true) :
    PS X (.For tg iter b [] pos) (TSv T Wx (fsFor fi gt body)) := PSimp (ps_for hp hc hi hg hb (folded_of hs X.env)) tFor_of

/-! ### while: at most so many turns are served -/
def whileN (c : FT) (body : FS) : Nat → FS
  | 0, _, _ => .stuck
  | n + 1, sg, st => bindE (c sg st) sg fun b st1 => if b then (match body sg st1 with
    | .nx sg st => whileN c body n sg st
    | .ct sg st => whileN c body n sg st
    | .bk sg st => .nx sg st
    | r => r) else .nx sg st1
def fuelW : Nat := 1000000000
def fsWhile (c : FT) (body : FS) : FS := fun sg st => whileN c body fuelW sg st
theorem tWhile_of : ∀ D σ H, TSv T Wx (fsWhile ft body) D σ H → tWhile (TTv T Wx ft) (TSv T Wx body) D σ H := fun D σ H ⟨W, sg, st, S, so, q⟩ => by
  refine ⟨fun m σ H => ∃ W sg st, Sim T W st H ∧ SigOk T.K W sg σ ∧ SQ T Wx D W H (whileN ft body m sg st), ⟨fuelW, W, sg, st, S, so, q⟩, ?_⟩
  rintro m σ2 H2 ⟨W2, sg2, st2, S2, so2, q2⟩
  cases m with
  | zero => exact q2.elim
  | succ n =>
    have q2 : SQ T Wx D W2 H2 (bindE (ft sg2 st2) sg2 fun b st1 => if b then (match body sg2 st1 with
      | .nx sg st => whileN ft body n sg st
      | .ct sg st => whileN ft body n sg st
      | .bk sg st => .nx sg st
      | r => r) else .nx sg2 st1) := q2
    refine ⟨W2, sg2, st2, S2, so2, (SQ.bindE q2 so2).mono fun b st3 W3 H3 g3 S3 q3 => ?_⟩
    cases b with
    | false => rw [if_neg Bool.false_ne_true]; exact SQ.nx_here q3 S3 (so2.up g3.le)
    | true =>
      rw [if_pos rfl]
      rw [if_pos rfl] at q3
      refine ⟨fun σ' H' => ∃ W sg st, Sim T W st H' ∧ SigOk T.K W sg σ' ∧ SQ T Wx D W H' (whileN ft body n sg st), fun σ' H' h => ⟨n, Nat.lt_succ_self _, h⟩, W3, sg2, st3, S3, so2.up g3.le, ?_⟩
      cases hb : body sg2 st3 with
      | nx sg5 st5 => rw [hb] at q3; exact fun W' H' σ' g S' so' => ⟨W', sg5, st5, S', so', SQ.later q3 g⟩
      | ct sg5 st5 => rw [hb] at q3; exact fun W' H' σ' g S' so' => ⟨W', sg5, st5, S', so', SQ.later q3 g⟩
      | bk sg5 st5 => rw [hb] at q3; exact q3
      | rt p st5 => rw [hb] at q3; exact q3
      | ex x sg5 st5 => rw [hb] at q3; exact q3
      | stuck => rw [hb] at q3; exact q3
theorem ds_while {b : List Stmt} (hp : PassesOwn (model X.prog X.w) X.A X.env X.xe) (hc : PT X c (TTv T Wx ft)) (hb : PSs X b (TSv T Wx body)) : PS X (.While c b [] pos) (TSv T Wx (fsWhile ft body)) := PSimp (ps_while hp hc hb) tWhile_of

/-! ### o.f = v, o.f op= v -/
def fsFld (ok : Nat → Bool) (l : List Nat) (fv fo : FE) : FS := fun sg st => bindE (fv sg st) sg fun p st => bindE (fo sg st) sg fun q st => match setF ok l q p st with
  | some st => .nx sg st
  | none => .stuck
variable {ok : Nat → Bool} {l : List Nat} {pos' tpos : Pos}
theorem ds_fld (hK : T.K = X.K) (hok : ∀ c, ok c = true → NoAttr T.K (T.cl c) (nmS l)) (ho : PE X o (TEv T Wx g)) (he : PE X e (TEv T Wx f)) (hn : noComp e = true) : PS X (.Assign [.Attribute o (nmS l) pos'] e pos) (TSv T Wx (fsFld ok l f g)) :=
  PSimp (ps_fld ho he (swaps_of hn _ _ _)) fun D σ H ⟨W, sg, st, S, so, q⟩ => ⟨W, sg, st, S, so, (SQ.bindE q so).mono fun p st1 W1 H1 g1 S1 q1 vv rv => ⟨W1, sg, st1, S1, so.up g1.le, (SQ.bindE q1 (so.up g1.le)).mono fun q st2 W2 H2 g2 S2 q2 ov ro => by
    cases hs : setF ok l q p st2 with
    | none => simp only [hs] at q2; exact q2.elim
    | some st3 =>
      simp only [hs] at q2
      obtain ⟨a, C, dx, us, rfl, hH, cl, na, hl, g', S'⟩ := setF_at hok S2 ro (rv.up g2.le) hs
      exact ⟨a, C, dx, us, rfl, hH, hK ▸ cl, hK ▸ na, hl, q2 W2 _ σ g' S' (so.up (g1.le.trans g2.le))⟩⟩⟩
def fsFldAug (ok : Nat → Bool) (l : List Nat) (op : Operator) (fv fo : FE) : FS := fun sg st => bindE (fo sg st) sg fun q st => match insAt q st with
  | some (c, fs) => match lookF l fs with
    | some z => bindE (fv sg st) sg fun p st => match augP op z p st, insAt q st with
      | some y, some (c', _) => if c' = c then match setF ok l q y st with
        | some st => .nx sg st
        | none => .stuck else .stuck
      | _, _ => .stuck
    | none => .stuck
  | none => .stuck
theorem setF_ins {ok : Nat → Bool} {l : List Nat} {n : Nat} {v : PV} {st st' : Store} (h : setF ok l (.ref n) v st = some st') : ∃ c fs, st[n]? = some (.ins c fs) := by
  cases hc : st[n]? with
  | none => simp only [setF, hc] at h; cases h
  | some c =>
    cases c with
    | ins c fs => exact ⟨c, fs, rfl⟩
    | _ => simp only [setF, hc] at h; cases h
theorem ds_fldaug {op : Operator} (hop : augOk op = true) (hK : T.K = X.K) (hok : ∀ c, ok c = true → NoAttr T.K (T.cl c) (nmS l)) (ho : PE X o (TEv T Wx g)) (he : PE X e (TEv T Wx f)) : PS X (.AugAssign (.Attribute o (nmS l) tpos) op e pos) (TSv T Wx (fsFldAug ok l op f g)) := by
  have core : ∀ (h : Int → Int → Int) (rd : V → V → Hp → VK → Prop), (∀ i j H Q, Q (.int (h i j)) H → rd (.int i) (.int j) H Q) → (∀ p q st z, augP op p q st = some z → ∃ i j, p = .int i ∧ q = .int j ∧ z = .int (h i j)) →
      ∀ D σ H, TSv T Wx (fsFldAug ok l op f g) D σ H → sFldAug X.K (TEv T Wx g) (TEv T Wx f) rd (nmS l) D σ H := fun h rd hrd hh D σ H ⟨W, sg, st, S, so, q⟩ =>
    ⟨W, sg, st, S, so, (SQ.bindE q so).mono fun p st1 W1 H1 g1 S1 q1 v rv => by
      cases hi : insAt p st1 with
      | none => simp only [hi] at q1; exact q1.elim
      | some z =>
        obtain ⟨c, fs⟩ := z
        simp only [hi] at q1
        cases hm : lookF l fs with
        | none => simp only [hm] at q1; exact q1.elim
        | some z =>
          simp only [hm] at q1
          obtain ⟨n, a, dx, us, rfl, e1, e2, rfl, e3, rf, cl, na⟩ := insAt_at S1 rv hi
          have lk := lookF_at (f := l) rf
          rw [hm] at lk
          obtain ⟨w, lu, rw'⟩ := lk
          obtain ⟨g', hg', rfl⟩ := lookF_mem hm
          refine ⟨a, T.cl c, dx, us, w, rfl, e3, hK ▸ cl, hK ▸ na g' hg', lu, W1, sg, st1, S1, so.up g1.le, (SQ.bindE q1 (so.up g1.le)).mono fun y st2 W2 H2 g2 S2 q2 u ru => ?_⟩
          cases ha : augP op z y st2 with
          | none => simp only [ha] at q2; exact q2.elim
          | some y2 =>
            cases hi2 : insAt (.ref n) st2 with
            | none => simp only [ha, hi2] at q2; exact q2.elim
            | some z2 =>
              obtain ⟨c2, fs2⟩ := z2
              simp only [ha, hi2] at q2
              by_cases hcc : c2 = c
              rotate_left
              · rw [if_neg hcc] at q2; exact q2.elim
              rw [if_pos hcc] at q2
              subst hcc
              obtain ⟨i, j, rfl, rfl, rfl⟩ := hh _ _ _ _ ha
              cases rw'; cases ru
              cases hs : setF ok g'.1 (.ref n) (.int (h i j)) st2 with
              | none => simp only [hs] at q2; exact q2.elim
              | some st3 =>
                simp only [hs] at q2
                obtain ⟨n', a', dx', us', e6, e7, e8, e9, hH', _⟩ := insAt_at S2 (rv.up g2.le) hi2
                cases e6; cases e9
                obtain ⟨a2, C2, dx2, us2, e5, hH, cl2, na2, hl, g5, S5⟩ := setF_at hok S2 (rv.up g2.le) (show Rep T.K W2 (.int (h i j)) (.int (h i j)) from rfl) hs
                cases e5
                rw [hH] at hH'
                cases hH'
                exact hrd _ _ _ _ ⟨_, _, hH, hl, q2 W2 _ σ g5 S5 (so.up (g1.le.trans g2.le))⟩⟩
  cases op <;> first | cases hop | skip
  · refine PSimp (ps_fldaug ho he in_add) (core (fun i j => i + j) _ (fun i j H Q q => ⟨i, j, rfl, rfl, q⟩) fun p q st z h => ?_)
    cases p <;> cases q <;> first | (cases h; exact ⟨_, _, rfl, rfl, rfl⟩) | cases h
  · refine PSimp (ps_fldaug ho he in_sub) (core (fun i j => i - j) _ (fun i j H Q q => ⟨i, j, rfl, rfl, q⟩) fun p q st z h => ?_)
    cases p <;> cases q <;> first | (cases h; exact ⟨_, _, rfl, rfl, rfl⟩) | cases h
end

/-! ### a def's body -/
def startS (n : Nat) (ps : List PV) : Sig := ps.map some ++ List.replicate (n - ps.length) none
theorem SigOk.start {K : PySem.W.Frag} {W : Wd} {N : List Str} {ps : List PV} {vs : List V} (r : Reps K W ps vs) : SigOk K W (startS N.length ps) (L2.start N vs) := by
  refine ⟨?_, fun i p h => ?_⟩
  · unfold startS L2.start; rw [List.length_append, List.length_append, List.length_map, List.length_map, List.length_replicate, List.length_replicate, Reps.length r]
  · unfold startS at h
    unfold L2.start
    by_cases hi : i < ps.length
    · rw [List.getElem?_append_left (by simpa using hi), List.getElem?_map] at h
      cases hp : ps[i]? with
      | none => rw [hp] at h; cases h
      | some q =>
        rw [hp] at h
        cases h
        obtain ⟨v, hv, rv⟩ := r.get hp
        refine ⟨v, ?_, rv⟩
        rw [List.getElem?_append_left (by rw [List.length_map, Reps.length r]; exact hi), List.getElem?_map, hv]
        rfl
    · rw [List.getElem?_append_right (by simpa using hi), List.getElem?_replicate] at h
      split at h <;> cases h
/-- n parameters, m names -/
def fnF (n m : Nat) (f : FS) : FF := fun ps st => if ps.length = n then match f (startS m ps) st with
  | .nx _ st => .ok .non st
  | .rt p st => .ok p st
  | .ex x _ st => .ex x st
  | _ => .stuck else .stuck
theorem tBody_of {T : Txt} {N : List Str} {n : Nat} {f : FS} {vs : List V} {H : Hp} {Q : VK} {E : XK} (h : spF T (fnF n N.length f) vs H Q E) : vs.length = n ∧ TSv T (fun cls d _ H => E cls d H) f { nx := fun _ H' => Q .non H', rt := Q } (L2.start N vs) H := by
  obtain ⟨W, ps, st, S, r, q⟩ := h
  unfold fnF at q
  by_cases hl : ps.length = n
  rotate_left
  · rw [if_neg hl] at q; exact q.elim
  rw [if_pos hl] at q
  refine ⟨by rw [Reps.length r, hl], W, startS N.length ps, st, S, SigOk.start r, ?_⟩
  cases hf : f (startS N.length ps) st with
  | nx sg st1 => rw [hf] at q; exact fun W' H' σ' g S' so' => q W' H' g S' .non rfl
  | rt p st1 => rw [hf] at q; exact fun W' H' v g S' rv => q W' H' g S' v rv
  | ex x sg st1 => rw [hf] at q; exact fun W' H' σ' cls d g S' so' at_ => q W' H' cls d g S' at_
  | bk sg st1 => rw [hf] at q; exact q.elim
  | ct sg st1 => rw [hf] at q; exact q.elim
  | stuck => rw [hf] at q; exact q.elim
/-- a def by its body, where there is room R; the body runs in R' -/
theorem fn_okR {P : Program} {w : World} {K : PySem.W.Frag} {mg : Str → Option Value} {base : Heap} {T : Txt} {x qual : Str} {st : Stmt} {f : Addr} {fd : FuncData} {N ps : List Str} {R R' : Around → Prop} {b : FS} (F : Fun K x qual st f fd) (S : FnScope N ps (defScope st))
    (hR : ∀ A, R A → A.handled = none ∧ A.depth < recursionLimit ∧ ∀ env, R' (A.deeper env))
    (hbody : ∀ (cdv : Value) (A : Around) (outer : List Env) (s : Shared) (H : Hp) (E : XK), R' (A.deeper (envOfC qual (defScope st) s.heap.objs.size f cdv)) →
      PSs (cxOf (L2.CX P w) P w K mg base N qual (defScope st) f cdv A outer s H E) (defBody st) (TSv T (fun cls d _ H => E cls d H) b)) :
    FnR P w K mg base R f fd ps (spF T (fnF ps.length N.length b)) := by
  obtain ⟨oc, od, kV, doc, pm, an, cdv, ct, osl, rfl, lk, hcd⟩ := F.ex
  refine ⟨fun vs H Q E h => (tBody_of (N := N) h).1, fun A outer s H args us vs Q E ra e0 hb rv hz => ?_⟩
  obtain ⟨r1, r2, r3⟩ := hR A ra
  obtain ⟨many, tb⟩ := tBody_of (N := N) hz
  have kin : K.In s.heap := e0.mod.kin.keeps fun c o e => (e0.bs c o e).1
  have nolim : s.heap.NoLimit := e0.mod.nolimit.keeps fun c o e => (e0.bs c o e).1
  refine codeAny_call_function r2 (kin _ _ lk) rfl S.co S.gen rfl (PySem.W.codeRec_of kin hcd) (hb _ _ _ _ ?_)
  refine wpAny_newFunctionEnv_cells S.kind (fun ⟨n, v⟩ hy => (S.par n (List.of_mem_zip hy).1).imp id fun q => ⟨q, PySem.W.cellsFrom_some _ _ _ (.inl q)⟩) fun env he s1 entered => ?_
  subst he
  refine ⟨nolim.keeps entered.toInCall.keep, codeAny_func ?_⟩
  have body := hbody cdv A outer s H E (r3 _)
  have inv := inv_start (CX := L2.CX P w) (P := P) (w := w) (mg := mg) (base := base) (E := E) (cd := cdv) (f := f) (qual := qual) S r1 e0 many rv entered
  refine wpAny_mono (body.run [] s1 (start N vs) H _ inv tb) (fun out s2 got => ?_) fun _ _ got => got
  have done : ∀ {σ2 : L2.St} {H2 : Hp} {z : V} {u : Value}, Inv (cxOf (L2.CX P w) P w K mg base N qual (defScope st) f cdv A outer s H E) [] σ2 H2 s2 → RelV z u → Q z H2 → CE outer P w H s Q u s2 :=
    fun {_ H2 z _} J ru q => ⟨z, H2, J.os, J.bare, J.base, J.hok, ru, q⟩
  match out, got with
  | .next, ⟨_, _, J, q⟩ => exact done (z := .non) (u := .none) J rfl q
  | .ret _, ⟨_, _, _, J, ru, q⟩ => exact done J ru q
  | .brk, ⟨_, _, _, q⟩ => exact False.elim q
  | .cont, ⟨_, _, _, q⟩ => exact False.elim q
end Pv
/-! Pv, part X: raise of an own class with one value, try .. except X: return a constant. -/
namespace Pv
open PySem PySem.Spec PyProof.Rows PySem.SeqAt L2 SkE
section
variable {X : Cx} {T : Txt} {Wx : WX} {pos p p2 : Pos} {e : Expr} {f : FE} {u : FS}
/-- raise C(e): the value is not kept -/
def fsRaise (c : Nat) (f : FE) : FS := fun sg st => bindE (f sg st) sg fun _ st => .ex ⟨c, none⟩ sg st
/-- what is known of an own exception class -/
structure ExOk (X : Cx) (x : Str) (C : Addr) : Prop where
  made : ∃ (B newId initId : String) (bmB : List Value), ExcBaseFacts B newId initId bmB ∧ PySem.W.excIn X.K C bmB newId = true
  glob : X.mg x = some (.ref C)
  keep : PySem.W.keepIn X.K (.ref C) = true
  rs : Raises X (.ref C)
theorem ds_raise {c : Nat} {x : Str} (hc : X.calm = true) (tk : Takes X Wx) (h : ExOk X x (T.cl c)) (hg : Gl X x) (hdb : (x == ("__debug__" : Str)) = false) (he : PE X e (TEv T Wx f)) (hn : notStar e = true) :
    PS X (.Raise (some (.Call (.Name x p) [e] [] p2)) none pos) (TSv T Wx (fsRaise c f)) := by
  obtain ⟨B, n, i, bm, F, q⟩ := h.made
  refine PSimp (ps_raise hc tk (pmk_own1 F q h.glob h.keep h.rs hg he (star_of hn) hdb)) fun D σ H ⟨W, sg, st, S, so, k⟩ => ⟨W, sg, st, S, so, ?_⟩
  have k : SQ T Wx D W H (bindE (f sg st) sg fun _ st => .ex ⟨c, none⟩ sg st) := k
  refine (SQ.bindE k so).mono fun v st1 W1 H1 g1 S1 k1 w rw => ?_
  exact k1 W1 H1 σ (.ref (T.cl c)) none (.refl _ _) S1 (so.up g1.le) ⟨rfl, rfl⟩
/-- try: u, except X: return p -/
def fsTry (l : List (Nat × Bool)) (u : FS) (p : PV) : FS := fun sg st => match u sg st with
  | .ex x sg st => match l.lookup x.c with
    | some true => .rt p st
    | some false => .ex x sg st
    | none => .stuck
  | r => r
theorem ds_try {x : Str} {c : Value} {body suite : List Stmt} {b₀ : Stmt} {np pos' : Pos} {l : List (Nat × Bool)} {q : PV} (hs : X.stack = X.env :: X.outer) (hf : X.env.frame = some X.env.locals) (hc : Names X x c) (tk : Takes X Wx)
    (hl : ∀ n b, l.lookup n = some b → PySem.W.exmOne X.K (.ref (T.cl n)) c = some b)
    (hb : ∀ (W : WX) (pn : List (Addr × Obj)) (xe : Value → Shared → Prop), Takes (X.tr pn xe) W → PassesOwn (model X.prog X.w) X.A X.env xe → PSs (X.tr pn xe) body (TSv T W u))
    (hsu : ∀ (a : Addr) (oe : Obj) (pn : List (Addr × Obj)), PSs (X.suite a ((a, oe) :: pn)) (b₀ :: suite) (TSv T WxF (fsSeq (fsRet (fC q)) fsNil))) :
    PS X (.Try body [.ExceptHandler (some (.Name x np)) none (b₀ :: suite) pos'] [] [] pos) (TSv T Wx (fsTry l u q)) := by
  refine PSimp (ps_try_only (tb := fun W => TSv T W u) (ts := fun a cls d => TSv T WxF (fsSeq (fsRet (fC q)) fsNil)) hs hf hc tk hb (fun a oe cls d pn _ _ => hsu a oe pn)) fun D σ H ⟨W, sg, st, S, so, k⟩ => ⟨W, sg, st, S, so, ?_⟩
  have k : SQ T Wx D W H (match u sg st with
    | .ex x sg st => match l.lookup x.c with
      | some true => .rt q st
      | some false => .ex x sg st
      | none => .stuck
    | r => r) := k
  cases hu : u sg st with
  | ex x sg1 st1 =>
    rw [hu] at k
    simp only [] at k
    intro W' H' σ' cls d g S' so' ea
    obtain ⟨rfl, hd⟩ := ea
    cases hx : l.lookup x.c with
    | none => rw [hx] at k; exact k.elim
    | some b =>
      rw [hx] at k
      refine ⟨b, hl _ _ hx, fun z a _ => ?_, fun z => ?_⟩
      · subst z
        exact ⟨W', sg1, st1, S', so', fun W2 H2 v g2 S2 rv => k W2 H2 v (g.trans g2) S2 rv⟩
      · subst z
        exact k W' H' σ' _ d g S' so' ⟨rfl, hd⟩
  | nx _ _ => rw [hu] at k; exact k
  | rt _ _ => rw [hu] at k; exact k
  | bk _ _ => rw [hu] at k; exact k
  | ct _ _ => rw [hu] at k; exact k
  | stuck => rw [hu] at k; exact k
end
end Pv
set_option maxHeartbeats 8000000
/-! Pv, part N: the text is turned into functions of values; expressions. -/
namespace Pv
open PySem PySem.Spec PyProof.Rows PySem.SeqAt L2

/-- what is known of a text: its defs, classes, methods, constants, fields by names; sites: new lists and dicts that are cells, comprehensions over a dict's keys, values that are frozen, names that are frozen ahead of a statement -/
structure Stc where
  fns : List (Str × Nat) := []
  mks : List (Str × Nat × Nat) := []
  mts : List (Str × List (Nat × Nat)) := []
  gcs : List (Str × PV) := []
  flds : List (Str × List Nat) := []
  bx : List (Nat × Nat) := []
  kys : List (Nat × Nat) := []
  frz : List (Nat × Nat) := []
  frzv : List (Nat × Str) := []
  exs : List (Str × Nat) := []
  exm : List (Str × List (Nat × Bool)) := []
def Stc.bxAt (S : Stc) (p : Pos) : Bool := S.bx.contains (p.line, p.col)
def Stc.kyAt (S : Stc) (p : Pos) : Bool := S.kys.contains (p.line, p.col)
def Stc.frzAt (S : Stc) (p : Pos) : Bool := S.frz.contains (p.line, p.col)
def Stc.mt (S : Stc) (m : Str) (c : Nat) : Option Nat := (S.mts.lookup m).bind fun l => l.lookup c
def Stc.fldOk (S : Stc) (l : Str) (c : Nat) : Bool := ((S.flds.lookup l).getD []).contains c
/-- where an expression stands: the names' places, the scope; none: a def's own block, else a comprehension's -/
structure LE where
  N : List Str
  sc : Scope
  cs : Option Scope := none
def LE.fnb (le : LE) (x : Str) : Bool := match le.cs with
  | none => true
  | some s => s.names.lookup x == some .cell
def okName (x : Str) : Bool := !(x == ("__debug__" : Str)) && !(x == ("__classdict__" : Str)) && !(x == ("__name__" : Str))
def LE.vis (le : LE) (x : Str) : Bool := le.sc.names.lookup x == some .local || le.sc.names.lookup x == some .cell || le.sc.names.lookup x == some .free
def LE.gl (le : LE) (x : Str) : Bool := le.sc.names.lookup x == some .globalImplicit && okName x
/-- a name that may be bound -/
def LE.loc (le : LE) (x : Str) : Bool := le.sc.names.lookup x == some .local || (le.sc.names.lookup x == some .cell && le.fnb x)
def LE.ix (le : LE) (x : Str) : Option Nat := let i := le.N.findIdx (· == x); if le.N[i]? = some x then some i else none

/-! ### what is built in -/
inductive BI where
  | len | str | int | abs | max | min | tuple | list | all | any | sorted
  deriving DecidableEq
def BI.name : BI → Str
  | .len => "len" | .str => "str" | .int => "int" | .abs => "abs" | .max => "max" | .min => "min" | .tuple => "tuple" | .list => "list" | .all => "all" | .any => "any" | .sorted => "sorted"
def allBI : List BI := [.len, .str, .int, .abs, .max, .min, .tuple, .list, .all, .any, .sorted]
def BI.of (x : Str) : Option BI := allBI.find? fun b => x == b.name
theorem BI.of_name {x : Str} {b : BI} (h : BI.of x = some b) : x = b.name := by
  have := List.find?_some h
  simpa using this
def BI.fn : BI → Bool → List PV → Store → Option (PV × Store)
  | .len, _ => lenB | .str, _ => strB | .int, _ => intB | .abs, _ => absB | .max, _ => maxB | .min, _ => minB | .tuple, _ => tupB | .list, b => lstB b | .all, _ => allB | .any, _ => anyB | .sorted, b => srtT b
def Ty.of (x : Str) : Option Ty := if x == ("bool" : Str) then some .bool else if x == ("int" : Str) then some .int else if x == ("str" : Str) then some .str else if x == ("tuple" : Str) then some .tuple else if x == ("list" : Str) then some .list else if x == ("dict" : Str) then some .dict else none
def bltNames : List Str := ["len", "str", "int", "abs", "max", "min", "tuple", "list", "all", "any", "sorted", "isinstance", "bool", "dict", "range", "enumerate", "zip"]
inductive BM where
  | append | pop | extend | join
def BM.of (x : Str) : Option BM := if x == ("append" : Str) then some .append else if x == ("pop" : Str) then some .pop else if x == ("extend" : Str) then some .extend else if x == ("join" : Str) then some .join else none
def BM.is : BM → PV → Store → Bool
  | .join => isStr
  | _ => isLst
def BM.fn : BM → PV → List PV → Store → Option (PV × Store)
  | .append => appM | .pop => popM | .extend => extM | .join => joinM
abbrev OpF := PV → PV → Store → Option PV
def binO : Operator → Option OpF
  | .Add => some addP | .Sub => some subP | .Mult => some mulP | .FloorDiv => some divP | .Mod => some modP | .Pow => some powP | _ => none
def cmpO : CmpOp → Option OpF
  | .Eq => some eqC | .NotEq => some neC | .Lt => some ltC | .LtE => some leC | .Gt => some gtC | .GtE => some geC | .Is => some isC | .IsNot => some isntC | .In => some inC | .NotIn => some ninC

/-! ### the translation, with te for what is below -/
def trL (te : Expr → Option FE) : List Expr → Option FA
  | [] => some faNil
  | e :: es => if notStar e then (te e).bind fun f => (trL te es).map fun g => faCons f g else none
def trAndT (tt : Expr → Option FT) : List Expr → Option FT
  | [] => none
  | [a] => tt a
  | a :: es => (tt a).bind fun f => (trAndT tt es).map fun g => tfAnd f g
def trOrT (tt : Expr → Option FT) : List Expr → Option FT
  | [] => none
  | [a] => tt a
  | a :: es => (tt a).bind fun f => (trOrT tt es).map fun g => tfOr f g
def trCmp (te : Expr → Option FE) (a : Expr) (ops : List CmpOp) (bs : List Expr) : Option FE := match ops, bs with
  | [op], [b] => if behindInMarks op b then none else (cmpO op).bind fun o => (te a).bind fun f => (te b).map fun g => fBin o f g
  | [op, op'], [b, c] => if lastMarks [op, op'] [b, c] then none else (cmpO op).bind fun o => (cmpO op').bind fun o' => (te a).bind fun f => (te b).bind fun g => (te c).map fun h => fChain o o' f g h
  | _, _ => none
def trT (te : Expr → Option FE) : Nat → Expr → Option FT
  | 0, _ => none
  | n + 1, e => match e with
    | .UnaryOp .Not a _ => (trT te n a).map tfNot
    | .BoolOp .And es _ => trAndT (trT te n) es
    | .BoolOp .Or es _ => trOrT (trT te n) es
    | .IfExp c a b _ => (trT te n c).bind fun h => (trT te n a).bind fun f => (trT te n b).map fun g => tfIte h f g
    | .Compare a ops bs _ => (trCmp te a ops bs).map fBl
    | e => if plainT e then (te e).map fTru else none
def boolF : BoolOp → FE → FE → FE
  | .And, f, g => fAnd f g
  | .Or, f, g => fOr f g
def trBool (te : Expr → Option FE) (op : BoolOp) : List Expr → Option FE
  | [] => none
  | [a] => te a
  | a :: es => (te a).bind fun f => (trBool te op es).map fun g => boolF op f g
def trO (te : Expr → Option FE) : Option Expr → Option FO
  | none => some foNone
  | some e => (te e).map foSome
def trGs (tg : Expr → Option (FG × List Nat)) : List Expr → Option ((List PV → Sig → Store → R Sig) × List Nat)
  | [] => some (gsNil, [])
  | e :: es => (tg e).bind fun g => (trGs tg es).map fun gs => (gsCons g.1 gs.1, g.2 ++ gs.2)
def trG (le : LE) (te : Expr → Option FE) : Nat → Expr → Option (FG × List Nat)
  | 0, _ => none
  | n + 1, e => match e with
    | .Name x _ => if le.loc x then (le.ix x).map fun i => (gtName i, [i]) else none
    | .Tuple es _ _ => if es.all notStar then (trGs (trG le te n) es).map fun gs => (gtTup es.length gs.1, gs.2) else none
    | .Subscript o i _ => if plainIx i then (te o).bind fun f => (te i).map fun g => (gtSub f g, []) else none
    | _ => none
def isTupleE : Expr → Bool
  | .Tuple _ _ _ => true
  | _ => false
def trIc (le : LE) (te : Expr → Option FE) (tg : Expr) (x : Str) (args : List Expr) : Option FA :=
  if le.gl x then
    match args with
    | [a] => if notStar a then
        if x == ("range" : Str) then (te a).map fiRng1
        else if x == ("enumerate" : Str) && isTupleE tg then (te a).map fiEnum
        else none
      else none
    | [a, b] => if notStar a && notStar b then
        if x == ("range" : Str) then (te a).bind fun f => (te b).map fun g => fiRng2 f g
        else if x == ("zip" : Str) && isTupleE tg then (te a).bind fun f => (te b).map fun g => fiZip f g
        else none
      else none
    | _ => none
  else none
def walkC : Str → Bool := fun x => x == ("range" : Str) || x == ("enumerate" : Str) || x == ("zip" : Str)
def trI (le : LE) (te : Expr → Option FE) (tg iter : Expr) : Option FA := match iter with
  | .Call (.Name x _) args [] _ => if walkC x then trIc le te tg x args else (te iter).map fiVal
  | _ => (te iter).map fiVal
def ownOf (N : List Str) (scope : Scope) : List (Str × Nat) := scope.names.filterMap fun nk => if nk.2 == .local || nk.2 == .cell then (let i := N.findIdx (· == nk.1); if N[i]? = some nk.1 then some (nk.1, i) else none) else none
def trIfs (tt : Expr → Option FT) : List Expr → Option FT
  | [] => some ftYes
  | [c] => tt c
  | _ => none
def trPs (te : Expr → Option FE) : List (Option Expr) → List Expr → Option (List (FE × FE))
  | [], [] => some []
  | some k :: ks, v :: vs => (te k).bind fun f => (te v).bind fun g => (trPs te ks vs).map fun r => (f, g) :: r
  | _, _ => none
def trCall (S : Stc) (tf tfm : Nat → FF) (le : LE) (te : Expr → Option FE) (fn : Expr) (args : List Expr) (pos : Pos) : Option FE := match fn with
  | .Name x _ => if le.gl x then
      match S.fns.lookup x with
      | some j => (trL te args).map (fCall (tf j))
      | none => match S.mks.lookup x with
        | some cj => (trL te args).map (fMake cj.1 (tfm cj.2))
        | none => if x == ("isinstance" : Str) then match args with
            | [e, .Name t _] => if notStar e && le.gl t then (Ty.of t).bind fun c => (te e).map (fIsi c) else none
            | _ => none
          else match BI.of x with
            | some b => if args.isEmpty then none else (trL te args).map (fcB (b.fn (S.bxAt pos)))
            | none => none
      else none
  | .Attribute o m apos => if recvE o && decide (args.length < 30) && (apos.endLine == pos.line) then
      match BM.of m with
      | some b => (te o).bind fun f => (trL te args).map fun fa => fBM b.is b.fn f fa
      | none => (te o).bind fun f => (trL te args).map fun fa => fMeth (fun c => (S.mt m c).map tf) m.cps.toList f fa
    else none
  | _ => none
/-- the parts of a comprehension -/
def trComp (S : Stc) (le : LE) (te te' : Expr → Option FE) (n : Nat) (elt tg iter : Expr) (ifs : List Expr) (scope : Scope) (pos : Pos) (fi : FA) : Option FE :=
  let own := ownOf le.N scope
  if blkC le.N le.sc scope own && notSet iter then
    (trG ⟨le.N, relS scope le.sc, some scope⟩ te' n tg).bind fun g => if g.2.all fun i => (own.map (·.2)).contains i then
      (trIfs (trT te' n) ifs).bind fun ft => (te' elt).map fun f => fComp (S.bxAt pos) (own.map (·.2)) fi g.1 ft f else none
  else none
def trE (S : Stc) (tf tfm : Nat → FF) : Nat → LE → Expr → Option FE
  | 0, _, _ => none
  | n + 1, le, e => (match e with
    | .Name x _ => if okName x then (if le.vis x then (le.ix x).map fVar else if le.gl x then (S.gcs.lookup x).map fC else none) else none
    | .Constant c _ _ => (match c with
      | .int i => some (fC (.int i))
      | .bool b => some (fC (.bl b))
      | .none => some (fC .non)
      | .str s => if s.cps.toList.length ≤ 100000 then some (fC (.str s.cps.toList)) else none
      | _ => none)
    | .BinOp a op b _ => (binO op).bind fun o => (trE S tf tfm n le a).bind fun f => (trE S tf tfm n le b).map fun g => fBin o f g
    | .UnaryOp op a _ => (match op with
      | .Not => (trE S tf tfm n le a).map fNot
      | .USub => (trE S tf tfm n le a).map (fUn negP)
      | _ => none)
    | .Compare a ops bs _ => trCmp (trE S tf tfm n le) a ops bs
    | .BoolOp op es _ => trBool (trE S tf tfm n le) op es
    | .IfExp c a b _ => (trT (trE S tf tfm n le) n c).bind fun h => (trE S tf tfm n le a).bind fun f => (trE S tf tfm n le b).map fun g => fIte h f g
    | .Tuple es _ _ => (trL (trE S tf tfm n le) es).map fTup
    | .List es pos => (trL (trE S tf tfm n le) es).map (fLst (S.bxAt pos))
    | .Dict ks vs pos => (match ks, vs with
      | [], [] => some (fDNew (S.bxAt pos))
      | ks, vs => if decide (ks.length ≤ 15) && ks.all (·.isSome) then (trPs (trE S tf tfm n le) ks vs).map (fDisp (S.bxAt pos)) else none)
    | .Subscript a i _ => (match i with
      | .Slice lo hi none _ => (trE S tf tfm n le a).bind fun f => (trO (trE S tf tfm n le) lo).bind fun l => (trO (trE S tf tfm n le) hi).map fun h => fSlc f l h
      | i => if plainIx i then (trE S tf tfm n le a).bind fun f => (trE S tf tfm n le i).map fun g => fBin idxP f g else none)
    | .Attribute a f _ => if recvE a then (trE S tf tfm n le a).map (fFld f.cps.toList) else none
    | .Call fn args kws pos => (match kws with
      | [] => trCall S tf tfm le (trE S tf tfm n le) fn args pos
      | _ => none)
    | .ListComp elt gens scope pos => (match gens with
      | [⟨tg, iter, ifs, 0⟩] => if S.kyAt pos then (match iter with
          | .Name x _ => if le.vis x && okName x then (le.ix x).bind fun i => (trComp S le (trE S tf tfm n le) (trE S tf tfm n ⟨le.N, relS scope le.sc, some scope⟩) n elt tg iter ifs scope pos (fiKeys (fVar i))).map (fLock i) else none
          | _ => none)
        else (trI le (trE S tf tfm n le) tg iter).bind fun fi => trComp S le (trE S tf tfm n le) (trE S tf tfm n ⟨le.N, relS scope le.sc, some scope⟩) n elt tg iter ifs scope pos fi
      | _ => none)
    | _ => none).map fun f => if S.frzAt e.pos then fFrz f else f

/-! ### its soundness -/
structure Ctx (S : Stc) (T : Txt) (tf tfm : Nat → FF) (Wx : WX) (X : Cx) (le : LE) : Prop where
  hK : T.K = X.K
  calm : X.calm = true
  N : X.N = le.N
  nd : X.N.Nodup
  sc : X.env.scope = le.sc
  kind : le.sc.kind = .function
  fn : ∀ x, le.fnb x = true → X.fn x = true
  room : ∃ (R : Around → Prop) (k : Nat), R X.A ∧ Room (k + 1) X.A ∧ (∀ x j, S.fns.lookup x = some j → Fn1 X.prog X.w X.K X.mg X.base T R x (tf j)) ∧ (∀ x c j, S.mks.lookup x = some (c, j) → Ma1 X.prog X.w X.K X.mg X.base T k x c (tfm j)) ∧
    (∀ m c j, S.mt m c = some j → Me1 X.prog X.w X.K X.mg X.base T R c m (tf j))
  tk : Takes X Wx
  gcs : ∀ x p, S.gcs.lookup x = some p → ∃ v u, X.mg x = some u ∧ RelV v u ∧ Fixed T.K p v
  blt : ∀ x ∈ bltNames, X.mg x = none
  fld : ∀ l c, S.fldOk l c = true → NoAttr T.K (T.cl c) l
  exs : ∀ x c, S.exs.lookup x = some c → ExOk X x (T.cl c)
  exm : ∀ x l, S.exm.lookup x = some l → ∃ C, X.mg x = some (.ref C) ∧ ∀ n b, l.lookup n = some b → PySem.W.exmOne X.K (.ref (T.cl n)) (.ref C) = some b
section
variable {S : Stc} {T : Txt} {tf tfm : Nat → FF} {Wx : WX} {X : Cx} {le : LE} {n : Nat} {te : Expr → Option FE}
theorem Ctx.un (C : Ctx S T tf tfm Wx X le) : X.A.units + 200 < cLine := by
  obtain ⟨_, k, _, r, _⟩ := C.room
  have := r.un; omega
theorem LE.ix_of {x : Str} {i : Nat} (h : le.ix x = some i) : le.N[i]? = some x := by
  unfold LE.ix at h
  simp only [] at h
  split at h
  · rename_i q; cases h; exact q
  · cases h
theorem Ctx.visX (C : Ctx S T tf tfm Wx X le) {x : Str} (h : le.vis x = true) : Vis X.env.scope x := by
  rw [C.sc]
  unfold LE.vis at h
  simp only [Bool.or_eq_true, beq_iff_eq] at h
  rcases h with (h | h) | h
  · exact .inl h
  · exact .inr (.inl h)
  · exact .inr (.inr h)
theorem Ctx.glX (C : Ctx S T tf tfm Wx X le) {x : Str} (h : le.gl x = true) : Gl X x := by
  unfold LE.gl at h
  simp only [Bool.and_eq_true, beq_iff_eq] at h
  show X.env.scope.names.lookup x = _
  rw [C.sc]; exact h.1
theorem okName_of {x : Str} (h : okName x = true) : (x == ("__debug__" : Str)) = false ∧ (x == ("__classdict__" : Str)) = false ∧ x ≠ "__name__" := by
  unfold okName at h
  simp only [Bool.and_eq_true, Bool.not_eq_true'] at h
  exact ⟨h.1.1, h.1.2, beq_eq_false_iff_ne.mp h.2⟩
theorem LE.gl_ok {x : Str} (h : le.gl x = true) : okName x = true := by
  unfold LE.gl at h
  simp only [Bool.and_eq_true] at h
  exact h.2
theorem Ctx.locX (C : Ctx S T tf tfm Wx X le) {x : Str} (h : le.loc x = true) : L2.Loc X.env.scope x ∧ (X.fn x = true ∨ X.env.scope.names.lookup x = some .local) := by
  unfold LE.loc at h
  simp only [Bool.or_eq_true, Bool.and_eq_true, beq_iff_eq] at h
  rw [C.sc]
  rcases h with h | ⟨h1, h2⟩
  · exact ⟨.inl h, .inr h⟩
  · exact ⟨.inr h1, .inl (C.fn x h2)⟩
theorem nmS_of (m : Str) : nmS m.cps.toList = m := by cases m; simp [nmS]
def TeOk (T : Txt) (Wx : WX) (X : Cx) (te : Expr → Option FE) : Prop := ∀ e f, te e = some f → PE X e (TEv T Wx f)
theorem trL_ok (h : TeOk T Wx X te) : ∀ {es : List Expr} {fa : FA}, trL te es = some fa → PA X es (TAv T Wx fa) ∧ es.all notStar = true
  | [], fa, e => by cases e; exact ⟨da_nil, rfl⟩
  | a :: es, fa, e => by
    unfold trL at e
    split at e
    · rename_i hs
      obtain ⟨f, h1, e⟩ := Option.bind_eq_some_iff.mp e
      obtain ⟨g, h2, e⟩ := Option.map_eq_some_iff.mp e
      subst e
      obtain ⟨i1, i2⟩ := trL_ok h h2
      exact ⟨da_cons (h _ _ h1) i1 hs, by rw [List.all_cons, hs, i2]; rfl⟩
    · cases e
theorem cmpO_ok (C : Ctx S T tf tfm Wx X le) {op : CmpOp} {o : OpF} (h : cmpO op = some o) : OpR X (compareOp op) (rP2 T o) := by
  have hu := C.un
  cases op <;> cases h
  · exact opEq C.hK hu
  · exact opNe C.hK hu
  · exact opLt C.hK
  · exact opLe C.hK
  · exact opGt C.hK
  · exact opGe C.hK
  · exact opIs C.hK
  · exact opIsnt C.hK
  · exact opIn C.hK (by omega)
  · exact opNin C.hK (by omega)
theorem binO_ok (C : Ctx S T tf tfm Wx X le) {op : Operator} {o : OpF} (h : binO op = some o) : OpR X (binaryOp op) (rP2 T o) := by
  cases op <;> cases h
  · exact opAdd C.hK
  · exact opSub C.hK
  · exact opMul C.hK
  · exact opMod C.hK
  · exact opPow C.hK
  · exact opDiv C.hK
theorem trCmp_ok (C : Ctx S T tf tfm Wx X le) (h : TeOk T Wx X te) {a : Expr} {ops : List CmpOp} {bs : List Expr} {pos : Pos} {f : FE} (e : trCmp te a ops bs = some f) :
    PE X (.Compare a ops bs pos) (TEv T Wx f) ∧ PT X (.Compare a ops bs pos) (TTv T Wx (fBl f)) := by
  unfold trCmp at e
  split at e
  · rename_i op b
    split at e
    · cases e
    rename_i hm
    obtain ⟨o, h0, e⟩ := Option.bind_eq_some_iff.mp e
    obtain ⟨f1, h1, e⟩ := Option.bind_eq_some_iff.mp e
    obtain ⟨g1, h2, e⟩ := Option.map_eq_some_iff.mp e
    subst e
    have hm : behindInMarks op b = false := by simpa using hm
    exact ⟨de_cmp (cmpO_ok C h0) (h _ _ h1) (h _ _ h2) hm, dt_cmp (cmpO_ok C h0) (h _ _ h1) (h _ _ h2) hm⟩
  · rename_i op op' b c
    split at e
    · cases e
    rename_i hm
    obtain ⟨o, h0, e⟩ := Option.bind_eq_some_iff.mp e
    obtain ⟨o', h0', e⟩ := Option.bind_eq_some_iff.mp e
    obtain ⟨f1, h1, e⟩ := Option.bind_eq_some_iff.mp e
    obtain ⟨g1, h2, e⟩ := Option.bind_eq_some_iff.mp e
    obtain ⟨k1, h3, e⟩ := Option.map_eq_some_iff.mp e
    subst e
    have hm : lastMarks [op, op'] [b, c] = false := by simpa using hm
    exact ⟨de_chain (cmpO_ok C h0) (cmpO_ok C h0') (h _ _ h1) (h _ _ h2) (h _ _ h3) hm, dt_chain (cmpO_ok C h0) (cmpO_ok C h0') (h _ _ h1) (h _ _ h2) (h _ _ h3) hm⟩
  · cases e
def TtOk (T : Txt) (Wx : WX) (X : Cx) (tt : Expr → Option FT) : Prop := ∀ e f, tt e = some f → PT X e (TTv T Wx f)
theorem trAndT_ok {tt : Expr → Option FT} (h : TtOk T Wx X tt) {pos : Pos} : ∀ {es : List Expr} {f : FT}, trAndT tt es = some f → PW X (.BoolOp .And es pos) (TTv T Wx f)
  | [], _, e => by cases e
  | [a], f, e => dw_and1 (h _ _ e)
  | a :: b :: es, f, e => by
    obtain ⟨f1, h1, e⟩ := Option.bind_eq_some_iff.mp (show (tt a).bind (fun f => (trAndT tt (b :: es)).map fun g => tfAnd f g) = some f from e)
    obtain ⟨g1, h2, e⟩ := Option.map_eq_some_iff.mp e
    subst e
    exact dw_and (h _ _ h1) (trAndT_ok h h2)
theorem trOrT_ok {tt : Expr → Option FT} (h : TtOk T Wx X tt) {pos : Pos} : ∀ {es : List Expr} {f : FT}, trOrT tt es = some f → PW X (.BoolOp .Or es pos) (TTv T Wx f)
  | [], _, e => by cases e
  | [a], f, e => dw_or1 (h _ _ e)
  | a :: b :: es, f, e => by
    obtain ⟨f1, h1, e⟩ := Option.bind_eq_some_iff.mp (show (tt a).bind (fun f => (trOrT tt (b :: es)).map fun g => tfOr f g) = some f from e)
    obtain ⟨g1, h2, e⟩ := Option.map_eq_some_iff.mp e
    subst e
    exact dw_or (h _ _ h1) (trOrT_ok h h2)
theorem trT_ok (C : Ctx S T tf tfm Wx X le) (h : TeOk T Wx X te) : ∀ n, TtOk T Wx X (trT te n)
  | 0, e, f, q => by cases q
  | n + 1, e, f, q => by
    unfold trT at q
    split at q
    · obtain ⟨f1, h1, q⟩ := Option.map_eq_some_iff.mp q
      subst q
      exact dt_not (trT_ok C h n _ _ h1)
    · exact (trAndT_ok (trT_ok C h n) q).pt
    · exact (trOrT_ok (trT_ok C h n) q).pt
    · obtain ⟨f1, h1, q⟩ := Option.bind_eq_some_iff.mp q
      obtain ⟨f2, h2, q⟩ := Option.bind_eq_some_iff.mp q
      obtain ⟨f3, h3, q⟩ := Option.map_eq_some_iff.mp q
      subst q
      exact dt_ite (trT_ok C h n _ _ h1) (trT_ok C h n _ _ h2) (trT_ok C h n _ _ h3)
    · obtain ⟨f1, h1, q⟩ := Option.map_eq_some_iff.mp q
      subst q
      exact (trCmp_ok C h h1).2
    · split at q
      · rename_i hp
        obtain ⟨f1, h1, q⟩ := Option.map_eq_some_iff.mp q
        subst q
        exact dt_val C.hK (h _ _ h1) hp
      · cases q
theorem trBool_ok (C : Ctx S T tf tfm Wx X le) (h : TeOk T Wx X te) {op : BoolOp} {pos : Pos} : ∀ {es : List Expr} {f : FE}, trBool te op es = some f → PE X (.BoolOp op es pos) (TEv T Wx f)
  | [], _, e => by cases e
  | [a], f, e => de_one (h _ _ e)
  | a :: b :: es, f, e => by
    obtain ⟨f1, h1, e⟩ := Option.bind_eq_some_iff.mp (show (te a).bind (fun f => (trBool te op (b :: es)).map fun g => boolF op f g) = some f from e)
    obtain ⟨g1, h2, e⟩ := Option.map_eq_some_iff.mp e
    subst e
    cases op with
    | And => exact de_and C.hK (h _ _ h1) (trBool_ok C h h2)
    | Or => exact de_or C.hK (h _ _ h1) (trBool_ok C h h2)
theorem trO_ok (h : TeOk T Wx X te) {e : Option Expr} {f : FO} (q : trO te e = some f) : PO X e (TOv T Wx f) := by
  cases e with
  | none => cases q; exact do_none
  | some e =>
    obtain ⟨f1, h1, q⟩ := Option.map_eq_some_iff.mp (show (te e).map foSome = some f from q)
    subst q
    exact do_some (h _ _ h1)
def TgOk (T : Txt) (Wx : WX) (X : Cx) (tg : Expr → Option (FG × List Nat)) : Prop := ∀ e g, tg e = some g → PG X e (TGv T Wx g.2 g.1) ∧ ∀ p sg st x st', g.1 p sg st ≠ .ex x st'
theorem R.bind_not {α β : Type} {r : R α} {f : α → Store → R β} (h : ∀ x st, r ≠ .ex x st) (h' : ∀ a st x st', f a st ≠ .ex x st') : ∀ x st, r.bind f ≠ .ex x st := fun x st => by
  cases r with
  | ok a s => exact h' a s x st
  | ex y s => exact (h y s rfl).elim
  | stuck => exact fun z => by cases z
theorem trGs_ok {tg : Expr → Option (FG × List Nat)} (h : TgOk T Wx X tg) : ∀ {es : List Expr} {g : (List PV → Sig → Store → R Sig) × List Nat}, es.all notStar = true → trGs tg es = some g → PGs X es (TGsv T Wx g.2 g.1) ∧ ∀ p sg st x st', g.1 p sg st ≠ .ex x st'
  | [], g, _, e => by
    cases e
    refine ⟨dgs_nil, fun p sg st x st' z => ?_⟩
    cases p <;> cases z
  | a :: es, g, hs, e => by
    rw [List.all_cons, Bool.and_eq_true] at hs
    obtain ⟨g1, h1, e⟩ := Option.bind_eq_some_iff.mp (show (tg a).bind (fun g => (trGs tg es).map fun gs => (gsCons g.1 gs.1, g.2 ++ gs.2)) = some g from e)
    obtain ⟨g2, h2, e⟩ := Option.map_eq_some_iff.mp e
    subst e
    obtain ⟨i1, i2⟩ := trGs_ok h hs.2 h2
    obtain ⟨j1, j2⟩ := h _ _ h1
    refine ⟨dgs_cons j1 i1 hs.1 i2, fun p sg st x st' => ?_⟩
    cases p with
    | nil => exact fun z => by cases z
    | cons p ps => exact R.bind_not (fun x st => j2 p sg _ x st) (fun a st x st' => i2 ps a st x st') x st'
theorem trG_ok (C : Ctx S T tf tfm Wx X le) (h : TeOk T Wx X te) : ∀ n, TgOk T Wx X (trG le te n)
  | 0, e, g, q => by cases q
  | n + 1, e, g, q => by
    unfold trG at q
    split at q
    · rename_i x p
      split at q
      · rename_i hl
        obtain ⟨i, hi, q⟩ := Option.map_eq_some_iff.mp q
        subst q
        obtain ⟨l1, l2⟩ := C.locX hl
        exact ⟨dg_name C.nd (by rw [C.N]; exact LE.ix_of hi) l1 l2, fun p sg st x st' z => by cases z⟩
      · cases q
    · split at q
      · rename_i es k p hs
        obtain ⟨gs, h1, q⟩ := Option.map_eq_some_iff.mp q
        subst q
        obtain ⟨i1, i2⟩ := trGs_ok (trG_ok C h n) hs h1
        refine ⟨dg_tup C.hK C.calm i1 hs, fun p sg st x st' z => ?_⟩
        have z : gtTup es.length gs.1 p sg st = .ex x st' := z
        unfold gtTup at z
        split at z
        · split at z
          · exact i2 _ _ _ _ _ z
          · cases z
        · cases z
      · cases q
    · split at q
      · rename_i o i p hp
        obtain ⟨f1, h1, q⟩ := Option.bind_eq_some_iff.mp q
        obtain ⟨f2, h2, q⟩ := Option.map_eq_some_iff.mp q
        subst q
        exact ⟨dg_sub (by have := C.un; omega) (h _ _ h1) (h _ _ h2) hp, fun p sg st x st' => gtSub_not⟩
      · cases q
    · cases q
theorem isTupleE_of {e : Expr} (h : isTupleE e = true) : ∃ es k p, e = .Tuple es k p := by
  cases e <;> first | exact ⟨_, _, _, rfl⟩ | cases h
theorem trI_ok (C : Ctx S T tf tfm Wx X le) (h : TeOk T Wx X te) {tg iter : Expr} {f : FA} (q : trI le te tg iter = some f) : PI X tg iter (TIv T Wx f) := by
  have plain : (te iter).map fiVal = some f → PI X tg iter (TIv T Wx f) := fun q => by
    obtain ⟨f1, h1, q⟩ := Option.map_eq_some_iff.mp q
    subst q
    exact di_val C.hK (h _ _ h1)
  unfold trI at q
  split at q
  · rename_i x p args pos
    split at q
    · unfold trIc at q
      split at q
      · rename_i hg
        have hgl := C.glX hg
        split at q
        · rename_i a
          split at q
          · rename_i hs
            split at q
            · rename_i hx
              have hx := beq_iff_eq.mp hx
              subst hx
              obtain ⟨f1, h1, q⟩ := Option.map_eq_some_iff.mp q
              subst q
              exact di_rng1 hgl (C.blt _ (by decide)) (h _ _ h1) hs
            · split at q
              · rename_i hx
                rw [Bool.and_eq_true] at hx
                obtain ⟨hx, ht⟩ := hx
                have hx := beq_iff_eq.mp hx
                subst hx
                obtain ⟨es, k, p, rfl⟩ := isTupleE_of ht
                obtain ⟨f1, h1, q⟩ := Option.map_eq_some_iff.mp q
                subst q
                exact di_enum C.hK hgl (C.blt _ (by decide)) (h _ _ h1) hs
              · cases q
          · cases q
        · rename_i a b
          split at q
          · rename_i hs
            rw [Bool.and_eq_true] at hs
            split at q
            · rename_i hx
              have hx := beq_iff_eq.mp hx
              subst hx
              obtain ⟨f1, h1, q⟩ := Option.bind_eq_some_iff.mp q
              obtain ⟨f2, h2, q⟩ := Option.map_eq_some_iff.mp q
              subst q
              exact di_rng2 hgl (C.blt _ (by decide)) (h _ _ h1) (h _ _ h2) hs.1 hs.2
            · split at q
              · rename_i hx
                rw [Bool.and_eq_true] at hx
                obtain ⟨hx, ht⟩ := hx
                have hx := beq_iff_eq.mp hx
                subst hx
                obtain ⟨es, k, p, rfl⟩ := isTupleE_of ht
                obtain ⟨f1, h1, q⟩ := Option.bind_eq_some_iff.mp q
                obtain ⟨f2, h2, q⟩ := Option.map_eq_some_iff.mp q
                subst q
                exact di_zip C.hK hgl (C.blt _ (by decide)) (h _ _ h1) (h _ _ h2) hs.1 hs.2
              · cases q
          · cases q
        · cases q
      · cases q
    · exact plain q
  · exact plain q
theorem trIfs_ok {tt : Expr → Option FT} (h : TtOk T Wx X tt) {es : List Expr} {f : FT} (q : trIfs tt es = some f) : PTs X es (TTv T Wx f) := by
  unfold trIfs at q
  split at q
  · cases q; exact dts_nil
  · exact dts_one (h _ _ q)
  · cases q
theorem trPs_ok (h : TeOk T Wx X te) {pos : Pos} : ∀ {ks : List (Option Expr)} {vs : List Expr} {prs : List (FE × FE)}, trPs te ks vs = some prs → PPs X pos ks vs (prs.map fun fg => (TEv T Wx fg.1, TEv T Wx fg.2)) ∧ ks.length = vs.length
  | [], [], _, q => by cases q; exact ⟨dps_nil, rfl⟩
  | [], _ :: _, _, q => by cases q
  | none :: _, _, _, q => by cases q
  | some _ :: _, [], _, q => by cases q
  | some k :: ks, v :: vs, prs, q => by
    obtain ⟨f1, h1, q⟩ := Option.bind_eq_some_iff.mp (show (te k).bind (fun f => (te v).bind fun g => (trPs te ks vs).map fun r => (f, g) :: r) = some prs from q)
    obtain ⟨f2, h2, q⟩ := Option.bind_eq_some_iff.mp q
    obtain ⟨r, h3, q⟩ := Option.map_eq_some_iff.mp q
    subst q
    obtain ⟨i1, i2⟩ := trPs_ok (pos := pos) h h3
    exact ⟨dps_cons (h _ _ h1) (h _ _ h2) i1, by rw [List.length_cons, List.length_cons, i2]⟩
end
end Pv
/-! Pv, part O: the translation of expressions is sound. -/
namespace Pv
open PySem PySem.Spec PyProof.Rows PySem.SeqAt L2
section
variable {S : Stc} {T : Txt} {tf tfm : Nat → FF} {Wx : WX} {X : Cx} {le : LE} {n : Nat} {te : Expr → Option FE}
theorem bi_ok (C : Ctx S T tf tfm Wx X le) (h : TeOk T Wx X te) {b : BI} {bx : Bool} {e : Expr} {es : List Expr} {fa : FA} {p pos : Pos} (hg : Gl X b.name) (ha : PA X (e :: es) (TAv T Wx fa)) (hs : (e :: es).all notStar = true) :
    PE X (.Call (.Name b.name p) (e :: es) [] pos) (TEv T Wx (fcB (b.fn bx) fa)) := by
  have hK := C.hK
  have hc := C.calm
  have hm : X.mg b.name = none := C.blt _ (by cases b <;> decide)
  cases b with
  | len => exact de_callB (biLen hK) hg hm (by rfl) ha hs (by decide) (by decide)
  | str => exact de_callTy (biStr hK) hg hm (by rfl) ha hs (by decide) (by decide)
  | int => exact de_callTy (biInt hK) hg hm (by rfl) ha hs (by decide) (by decide)
  | abs => exact de_callB (biAbs hK) hg hm (by rfl) ha hs (by decide) (by decide)
  | max => exact de_callB (biMax hK hc) hg hm (by rfl) ha hs (by decide) (by decide)
  | min => exact de_callB (biMin hK hc) hg hm (by rfl) ha hs (by decide) (by decide)
  | tuple => exact de_callTy (biTup hK) hg hm (by rfl) ha hs (by decide) (by decide)
  | list => exact de_callTy (biLst hK bx) hg hm (by rfl) ha hs (by decide) (by decide)
  | all => exact de_callB (biAll hK hc) hg hm (by rfl) ha hs (by decide) (by decide)
  | any => exact de_callB (biAny hK hc) hg hm (by rfl) ha hs (by decide) (by decide)
  | sorted => exact de_callB (biSrtT hK hc bx) hg hm (by rfl) ha hs (by decide) (by decide)
theorem ty_ok {x : Str} {c : Ty} (h : Ty.of x = some c) : c ≠ .non ∧ x ∈ bltNames ∧ bootBuiltins x = some (.type c.name) := by
  unfold Ty.of at h
  split at h
  · rename_i q; cases beq_iff_eq.mp q; cases h; exact ⟨by decide, by decide, by rfl⟩
  split at h
  · rename_i q; cases beq_iff_eq.mp q; cases h; exact ⟨by decide, by decide, by rfl⟩
  split at h
  · rename_i q; cases beq_iff_eq.mp q; cases h; exact ⟨by decide, by decide, by rfl⟩
  split at h
  · rename_i q; cases beq_iff_eq.mp q; cases h; exact ⟨by decide, by decide, by rfl⟩
  split at h
  · rename_i q; cases beq_iff_eq.mp q; cases h; exact ⟨by decide, by decide, by rfl⟩
  split at h
  · rename_i q; cases beq_iff_eq.mp q; cases h; exact ⟨by decide, by decide, by rfl⟩
  cases h
theorem bm_ok (C : Ctx S T tf tfm Wx X le) {m : Str} {b : BM} (hb : BM.of m = some b) {o : Expr} {es : List Expr} {f : FE} {fa : FA} {apos pos : Pos} (ho : PE X o (TEv T Wx f)) (ha : PA X es (TAv T Wx fa)) (h0 : es = [] → fa = faNil)
    (hre : recvE o = true) (hs : es.all notStar = true) (hl : es.length < 30) (hp : (apos.endLine == pos.line) = true) : PE X (.Call (.Attribute o m apos) es [] pos) (TEv T Wx (fBM b.is b.fn f fa)) := by
  have hK := C.hK
  unfold BM.of at hb
  split at hb
  · rename_i q; cases beq_iff_eq.mp q; cases hb
    cases es with
    | nil => rw [h0 rfl]; exact de_bm0 hK (@fun _ _ _ S _ _ r h => isLst_at S r h) F.plainAttrs_list F.slot_list_append F.type_list_append (meApp hK) ho hre hp
    | cons e es => exact de_bm hK (@fun _ _ _ S _ _ r h => isLst_at S r h) F.plainAttrs_list F.slot_list_append F.type_list_append (meApp hK) ho ha hre hs hl hp
  split at hb
  · rename_i q; cases beq_iff_eq.mp q; cases hb
    cases es with
    | nil => rw [h0 rfl]; exact de_bm0 hK (@fun _ _ _ S _ _ r h => isLst_at S r h) F.plainAttrs_list F.slot_list_pop F.type_list_pop (mePop hK) ho hre hp
    | cons e es => exact de_bm hK (@fun _ _ _ S _ _ r h => isLst_at S r h) F.plainAttrs_list F.slot_list_pop F.type_list_pop (mePop hK) ho ha hre hs hl hp
  split at hb
  · rename_i q; cases beq_iff_eq.mp q; cases hb
    cases es with
    | nil => rw [h0 rfl]; exact de_bm0 hK (@fun _ _ _ S _ _ r h => isLst_at S r h) F.plainAttrs_list F.slot_list_extend F.type_list_extend (meExt hK) ho hre hp
    | cons e es => exact de_bm hK (@fun _ _ _ S _ _ r h => isLst_at S r h) F.plainAttrs_list F.slot_list_extend F.type_list_extend (meExt hK) ho ha hre hs hl hp
  split at hb
  · rename_i q; cases beq_iff_eq.mp q; cases hb
    cases es with
    | nil => rw [h0 rfl]; exact de_bm0 hK (@fun _ _ _ S _ _ r h => isStr_at S r h) F.plainAttrs_str F.slot_str_join F.type_str_join (meJoin hK) ho hre hp
    | cons e es => exact de_bm hK (@fun _ _ _ S _ _ r h => isStr_at S r h) F.plainAttrs_str F.slot_str_join F.type_str_join (meJoin hK) ho ha hre hs hl hp
  cases hb
theorem trL_nil {fa : FA} (h : trL te [] = some fa) : fa = faNil := by cases h; rfl
theorem trCall_ok (C : Ctx S T tf tfm Wx X le) (h : TeOk T Wx X te) {fn : Expr} {args : List Expr} {pos : Pos} {f : FE} (q : trCall S tf tfm le te fn args pos = some f) : PE X (.Call fn args [] pos) (TEv T Wx f) := by
  obtain ⟨R, k, hR, hr, Hf, Hm, Ht⟩ := C.room
  unfold trCall at q
  split at q
  · rename_i x p
    split at q
    rotate_left
    · cases q
    rename_i hg
    have hgl := C.glX hg
    obtain ⟨n1, n2, n3⟩ := okName_of (LE.gl_ok hg)
    split at q
    · rename_i j hj
      obtain ⟨fa, h1, q⟩ := Option.map_eq_some_iff.mp q
      subst q
      obtain ⟨i1, i2⟩ := trL_ok h h1
      cases args with
      | nil => rw [trL_nil h1]; exact de_call0 (Hf _ _ hj) hR hgl C.tk n1
      | cons e es => exact de_call (Hf _ _ hj) hR hgl C.tk i1 i2 n1
    split at q
    · rename_i cj hj
      obtain ⟨c, j⟩ := cj
      obtain ⟨fa, h1, q⟩ := Option.map_eq_some_iff.mp q
      subst q
      obtain ⟨i1, i2⟩ := trL_ok h h1
      cases args with
      | nil => rw [trL_nil h1]; exact de_make0 (Hm _ _ _ hj) C.hK hr hgl n1
      | cons e es => exact de_make (Hm _ _ _ hj) C.hK hr hgl i1 i2 n1
    split at q
    · rename_i hx
      cases beq_iff_eq.mp hx
      split at q
      · rename_i e t p2
        split at q
        · rename_i hs
          rw [Bool.and_eq_true] at hs
          obtain ⟨c, h1, q⟩ := Option.bind_eq_some_iff.mp q
          obtain ⟨f1, h2, q⟩ := Option.map_eq_some_iff.mp q
          subst q
          obtain ⟨t1, t2, t3⟩ := ty_ok h1
          obtain ⟨m1, m2, m3⟩ := okName_of (LE.gl_ok hs.2)
          exact de_isi C.hK t1 hgl (C.blt _ (by decide)) (C.glX hs.2) (C.blt _ t2) t3 m3 m1 (h _ _ h2) hs.1
        · cases q
      · cases q
    split at q
    · rename_i b hb
      split at q
      · cases q
      obtain ⟨fa, h1, q⟩ := Option.map_eq_some_iff.mp q
      subst q
      obtain ⟨i1, i2⟩ := trL_ok h h1
      have e := BI.of_name hb
      subst e
      cases args with
      | nil => rename_i ha; exact absurd rfl ha
      | cons e es => exact bi_ok C h hgl i1 i2
    · cases q
  · rename_i o m apos
    split at q
    rotate_left
    · cases q
    rename_i hc
    simp only [Bool.and_eq_true, decide_eq_true_eq] at hc
    obtain ⟨⟨c1, c2⟩, c3⟩ := hc
    split at q
    · rename_i b hb
      obtain ⟨f1, h1, q⟩ := Option.bind_eq_some_iff.mp q
      obtain ⟨fa, h2, q⟩ := Option.map_eq_some_iff.mp q
      subst q
      obtain ⟨i1, i2⟩ := trL_ok h h2
      exact bm_ok C hb (h _ _ h1) i1 (fun e => by subst e; exact trL_nil h2) c1 i2 c2 c3
    · obtain ⟨f1, h1, q⟩ := Option.bind_eq_some_iff.mp q
      obtain ⟨fa, h2, q⟩ := Option.map_eq_some_iff.mp q
      subst q
      obtain ⟨i1, i2⟩ := trL_ok h h2
      have hM : ∀ c F, ((S.mt m c).map tf) = some F → Me1 X.prog X.w X.K X.mg X.base T R c (nmS m.cps.toList) F := fun c F e => by
        obtain ⟨j, e1, e2⟩ := Option.map_eq_some_iff.mp e
        subst e2
        rw [nmS_of]
        exact Ht _ _ _ e1
      have key : PE X (.Call (.Attribute o (nmS m.cps.toList) apos) args [] pos) (TEv T Wx (fMeth (fun c => (S.mt m c).map tf) m.cps.toList f1 fa)) := by
        cases args with
        | nil => rw [trL_nil h2]; exact de_meth0 C.hK hM hR C.tk (h _ _ h1) c1 c3
        | cons e es => exact de_meth C.hK hM hR C.tk (h _ _ h1) i1 c1 i2 c2 c3
      rw [nmS_of] at key
      exact key
  · cases q
theorem Ctx.blk (C : Ctx S T tf tfm Wx X le) {scope : Scope} {own : List (Str × Nat)} (hb : BlkOk le.N le.sc scope own) (s : Shared) (H : Hp) (a : Addr) (cl : List (Str × Addr)) (fp : List Addr) :
    Ctx S T tf tfm WxF (X.blk s H scope (compEnvC scope cl a X.env) fp) ⟨le.N, relS scope le.sc, some scope⟩ where
  hK := C.hK
  calm := C.calm
  N := C.N
  nd := C.nd
  sc := by rw [← C.sc]; rfl
  kind := hb.kind
  fn := fun x h => h
  room := C.room
  tk := takes0
  gcs := C.gcs
  blt := C.blt
  fld := C.fld
  exs := fun x c h => let e := C.exs x c h; ⟨e.made, e.glob, e.keep, e.rs⟩
  exm := C.exm
theorem comp_parts (C : Ctx S T tf tfm Wx X le) (ih : ∀ {Wx : WX} {X : Cx} {le : LE}, Ctx S T tf tfm Wx X le → TeOk T Wx X (trE S tf tfm n le)) {elt tg iter : Expr} {ifs : List Expr} {scope : Scope} {pos : Pos} {fi : FA} {f : FE}
    (q : trComp S le (trE S tf tfm n le) (trE S tf tfm n ⟨le.N, relS scope le.sc, some scope⟩) n elt tg iter ifs scope pos fi = some f) :
    ∃ own g ft fe, f = fComp (S.bxAt pos) (own.map (·.2)) fi g ft fe ∧ BlkOk X.N X.env.scope scope own ∧ notSet iter = true ∧
      (∀ (s : Shared) (H : Hp) (C : Addr) (cl : List (Str × Addr)) (fp : List Addr), PG (X.blk s H scope (compEnvC scope cl C X.env) fp) tg (TGv T WxF (own.map (·.2)) g)) ∧
      (∀ (s : Shared) (H : Hp) (C : Addr) (cl : List (Str × Addr)) (fp : List Addr), PTs (X.blk s H scope (compEnvC scope cl C X.env) fp) ifs (TTv T WxF ft)) ∧
      (∀ (s : Shared) (H : Hp) (C : Addr) (cl : List (Str × Addr)) (fp : List Addr), PE (X.blk s H scope (compEnvC scope cl C X.env) fp) elt (TEv T WxF fe)) := by
  unfold trComp at q
  simp only [] at q
  split at q
  rotate_left
  · cases q
  rename_i hc
  rw [Bool.and_eq_true] at hc
  have hb := blkOk_by hc.1
  obtain ⟨g, h1, q⟩ := Option.bind_eq_some_iff.mp q
  split at q
  rotate_left
  · cases q
  rename_i hw
  obtain ⟨ft, h2, q⟩ := Option.bind_eq_some_iff.mp q
  obtain ⟨fe, h3, q⟩ := Option.map_eq_some_iff.mp q
  subst q
  refine ⟨_, g.1, ft, fe, rfl, by rw [C.N, C.sc]; exact hb, hc.2, fun s H a cl fp => ?_, fun s H a cl fp => ?_, fun s H a cl fp => ?_⟩
  · have C' := C.blk hb s H a cl fp
    refine PGimp (trG_ok C' (ih C') n _ _ h1).1 fun v σ H Q ⟨W, sg, st, p, S0, so, r, q⟩ => ⟨W, sg, st, p, S0, so, r, q.mono fun sg' st' W' H' g' S' k σ' so' o => k σ' so' (o.up fun i hi => ?_)⟩
    have := List.all_eq_true.mp hw i hi
    exact List.contains_iff_mem.mp this
  · have C' := C.blk hb s H a cl fp
    exact trIfs_ok (trT_ok C' (ih C') n) h2
  · have C' := C.blk hb s H a cl fp
    exact ih C' _ _ h3
theorem trE_ok : ∀ (n : Nat) {Wx : WX} {X : Cx} {le : LE}, Ctx S T tf tfm Wx X le → TeOk T Wx X (trE S tf tfm n le)
  | 0, Wx, X, le, C, e, f, q => by cases q
  | n + 1, Wx, X, le, C, e, f, q => by
    have h : TeOk T Wx X (trE S tf tfm n le) := trE_ok n C
    have ih : ∀ {Wx : WX} {X : Cx} {le : LE}, Ctx S T tf tfm Wx X le → TeOk T Wx X (trE S tf tfm n le) := fun {Wx X le} C => trE_ok n C
    unfold trE at q
    obtain ⟨f0, q, qf⟩ := Option.map_eq_some_iff.mp q
    suffices hh : PE X e (TEv T Wx f0) by
      by_cases hz : S.frzAt e.pos = true
      · rw [if_pos hz] at qf; subst qf; exact de_frz hh
      · rw [if_neg hz] at qf; subst qf; exact hh
    clear qf
    split at q
    · rename_i x p
      split at q
      rotate_left
      · cases q
      rename_i hn
      obtain ⟨n1, n2, n3⟩ := okName_of hn
      split at q
      · rename_i hv
        obtain ⟨i, hi, q⟩ := Option.map_eq_some_iff.mp q
        subst q
        exact de_var C.hK (by rw [C.N]; exact LE.ix_of hi) (C.visX hv) n1 n2
      · split at q
        · rename_i hg
          obtain ⟨p', h1, q⟩ := Option.map_eq_some_iff.mp q
          subst q
          obtain ⟨v, u, m1, m2, m3⟩ := C.gcs _ _ h1
          exact de_glob (C.glX hg) m1 m2 m3 n1
        · cases q
    · rename_i c j p
      split at q
      · cases q; exact de_int
      · cases q; exact de_bl
      · cases q; exact de_non
      · split at q
        · rename_i hz
          cases q
          exact de_str (by rw [sizeLine_eq]; omega)
        · cases q
      · cases q
    · rename_i a op b p
      obtain ⟨o, h0, q⟩ := Option.bind_eq_some_iff.mp q
      obtain ⟨f1, h1, q⟩ := Option.bind_eq_some_iff.mp q
      obtain ⟨f2, h2, q⟩ := Option.map_eq_some_iff.mp q
      subst q
      exact de_bin (binO_ok C h0) (h _ _ h1) (h _ _ h2)
    · split at q
      · obtain ⟨f1, h1, q⟩ := Option.map_eq_some_iff.mp q
        subst q
        exact de_not C.hK (h _ _ h1)
      · obtain ⟨f1, h1, q⟩ := Option.map_eq_some_iff.mp q
        subst q
        exact de_un (unNeg C.hK) (h _ _ h1)
      · cases q
    · exact (trCmp_ok C h q).1
    · exact trBool_ok C h q
    · obtain ⟨f1, h1, q⟩ := Option.bind_eq_some_iff.mp q
      obtain ⟨f2, h2, q⟩ := Option.bind_eq_some_iff.mp q
      obtain ⟨f3, h3, q⟩ := Option.map_eq_some_iff.mp q
      subst q
      exact de_ite (trT_ok C h n _ _ h1) (h _ _ h2) (h _ _ h3)
    · obtain ⟨fa, h1, q⟩ := Option.map_eq_some_iff.mp q
      subst q
      exact de_tup (trL_ok h h1).1
    · obtain ⟨fa, h1, q⟩ := Option.map_eq_some_iff.mp q
      subst q
      exact de_lst _ (trL_ok h h1).1
    · split at q
      · cases q; exact de_dnew _
      · split at q
        · rename_i hne hc
          simp only [Bool.and_eq_true, decide_eq_true_eq] at hc
          obtain ⟨prs, h1, q⟩ := Option.map_eq_some_iff.mp q
          subst q
          obtain ⟨i1, i2⟩ := trPs_ok h h1
          refine de_disp _ i1 hc.2 i2 (fun e => ?_) hc.1
          subst e
          have : (_ : List Expr) = [] := List.eq_nil_of_length_eq_zero i2.symm
          subst this
          exact hne rfl rfl
        · cases q
    · split at q
      · obtain ⟨f1, h1, q⟩ := Option.bind_eq_some_iff.mp q
        obtain ⟨f2, h2, q⟩ := Option.bind_eq_some_iff.mp q
        obtain ⟨f3, h3, q⟩ := Option.map_eq_some_iff.mp q
        subst q
        exact de_slc C.hK (h _ _ h1) (trO_ok h h2) (trO_ok h h3)
      · split at q
        · rename_i hp
          obtain ⟨f1, h1, q⟩ := Option.bind_eq_some_iff.mp q
          obtain ⟨f2, h2, q⟩ := Option.map_eq_some_iff.mp q
          subst q
          exact de_idx C.hK (by have := C.un; omega) (h _ _ h1) (h _ _ h2) hp
        · cases q
    · rename_i a fl p _
      split at q
      · rename_i hr
        obtain ⟨f1, h1, q⟩ := Option.map_eq_some_iff.mp q
        subst q
        have key := de_fld (pos := p) (l := fl.cps.toList) C.hK (h _ _ h1) hr
        rw [nmS_of] at key
        exact key
      · cases q
    · split at q
      · exact trCall_ok C h q
      · cases q
    · split at q
      · rename_i elt gens scope pos _ tg iter ifs
        split at q
        · split at q
          · rename_i x p
            split at q
            · rename_i hv
              rw [Bool.and_eq_true] at hv
              obtain ⟨n1, n2, n3⟩ := okName_of hv.2
              obtain ⟨i, hi, q⟩ := Option.bind_eq_some_iff.mp q
              obtain ⟨f1, h1, q⟩ := Option.map_eq_some_iff.mp q
              subst q
              obtain ⟨own, g, ft, fe, rfl, hb, hs, z1, z2, z3⟩ := comp_parts C ih h1
              exact de_lock i (de_comp _ C.calm C.nd (di_keys (de_var C.hK (by rw [C.N]; exact LE.ix_of hi) (C.visX hv.1) n1 n2)) hb z1 z2 z3 hs)
            · cases q
          · cases q
        · obtain ⟨fi, h1, q⟩ := Option.bind_eq_some_iff.mp q
          obtain ⟨own, g, ft, fe, rfl, hb, hs, z1, z2, z3⟩ := comp_parts C ih q
          exact de_comp _ C.calm C.nd (trI_ok C h h1) hb z1 z2 z3 hs
      · cases q
    · cases q
end
end Pv
/-! Pv, part P: statements are translated, soundly. -/
namespace Pv
open PySem PySem.Spec PyProof.Rows PySem.SeqAt L2

/-- the list cell that slot i holds is frozen -/
def fsFrzV (i : Nat) (u : FS) : FS := fun sg st => match sg[i]? with
  | some (some (.ref n)) => match st[n]? with
    | some (.lst xs) => u (sg.set i (some (.lst xs))) (st.set n .dead)
    | _ => .stuck
  | _ => .stuck
section
variable {X : Cx} {T : Txt} {Wx : WX}
theorem ds_frzv {st : Stmt} {u : FS} (i : Nat) (h : PS X st (TSv T Wx u)) : PS X st (TSv T Wx (fsFrzV i u)) := PSimp h fun D σ H ⟨W, sg, st, S, so, q⟩ => by
  unfold fsFrzV at q
  cases hi : sg[i]? with
  | none => simp only [hi] at q; exact q.elim
  | some o =>
    cases o with
    | none => simp only [hi] at q; exact q.elim
    | some p =>
      cases p with
      | ref n =>
        cases hc : st[n]? with
        | none => simp only [hi, hc] at q; exact q.elim
        | some c =>
          cases c with
          | lst xs =>
            simp only [hi, hc] at q
            obtain ⟨v, hv, a, e, rfl⟩ := so.get i _ hi
            obtain ⟨vs, f, rs⟩ := S.cell n a _ e hc
            obtain ⟨g, S'⟩ := S.froze e hc rfl f
            refine ⟨_, _, _, S', ⟨by rw [List.length_set]; exact so.len, fun j p hj => ?_⟩, SQ.later q g⟩
            by_cases z : i = j
            · subst z
              have hl : i < sg.length := (List.getElem?_eq_some_iff.mp hi).1
              rw [List.getElem?_set_self hl] at hj
              cases hj
              exact ⟨_, hv, a, vs, rfl, upd_same, rs.up g.le⟩
            · rw [List.getElem?_set_ne z] at hj
              obtain ⟨w, h1, h2⟩ := so.get j p hj
              exact ⟨w, h1, h2.up g.le⟩
          | _ => simp only [hi, hc] at q; exact q.elim
      | _ => simp only [hi] at q; exact q.elim
end

def trPar (le : LE) (te : Expr → Option FE) (names : List Str) (ts vs : List Expr) : Option FS := match ts, vs with
  | [.Name x _, .Name y _], [a, b] => if decide (names = [x, y]) && (le.sc.names.lookup x == some .local) && (le.sc.names.lookup y == some .local) then
      (le.ix x).bind fun i => (le.ix y).bind fun j => if i = j then none else (trL te vs).map (fsPar [i, j]) else none
  | [.Name x _, .Name y _, .Name z _], [a, b, c] => if decide (names = [x, y, z]) && (le.sc.names.lookup x == some .local) && (le.sc.names.lookup y == some .local) && (le.sc.names.lookup z == some .local) then
      (le.ix x).bind fun i => (le.ix y).bind fun j => (le.ix z).bind fun l => if i = j ∨ i = l ∨ j = l then none else (trL te vs).map (fsPar [i, j, l]) else none
  | _, _ => none
def trAsg (S : Stc) (tf tfm : Nat → FF) (m : Nat) (le : LE) (tg e : Expr) : Option FS :=
  let te := trE S tf tfm m le
  match tg, e with
  | .Attribute o f _, e => if noComp e then (te e).bind fun fv => (te o).map fun fo => fsFld (S.fldOk f) f.cps.toList fv fo else none
  | .Tuple ts k p, .Tuple vs k2 p2 => match swapQ le.sc ts vs with
    | none => none
    | some none => (te (.Tuple vs k2 p2)).bind fun f => (trG le te m (.Tuple ts k p)).map fun g => fsAsg f g.1
    | some (some names) => trPar le te names ts vs
  | tg, e => if notStar tg && noPair tg e then
      if noSwap le.sc tg e then (te e).bind fun f => (trG le te m tg).map fun g => fsAsg f g.1
      else match tg, e with
        | .Name y _, .ListComp elt [⟨t, iter, ifs, 0⟩] scope pos => if le.sc.names.lookup y == some .local && !S.kyAt pos then
            (le.ix y).bind fun i => (trI le te t iter).bind fun fi => (trComp S le te (trE S tf tfm m ⟨le.N, relS scope le.sc, some scope⟩) m elt t iter ifs scope pos fi).map fun f => fsAsg f (gtName i)
          else none
        | _, _ => none
    else none
def trSs (ts : Stmt → Option FS) : List Stmt → Option FS
  | [] => some fsNil
  | s :: r => (ts s).bind fun u => (trSs ts r).map fun v => fsSeq u v
def frzS (S : Stc) (le : LE) (pos : Pos) (u : FS) : Option FS := match S.frzv.lookup pos.line with
  | none => some u
  | some x => (le.ix x).map fun i => fsFrzV i u
def constP : PySem.Const → Option PV
  | .none => some .non
  | .bool b => some (.bl b)
  | .int i => some (.int i)
  | _ => none
theorem constP_ok {X : Cx} {T : Txt} {Wx : WX} {k : PySem.Const} {p : PV} {j : Nat} {pos : Pos} (h : constP k = some p) : PE X (.Constant k j pos) (TEv T Wx (fC p)) := by
  cases k <;> simp [constP] at h <;> subst h
  · exact de_non
  · exact de_bl
  · exact de_int
def trS (S : Stc) (tf tfm : Nat → FF) (m : Nat) (le : LE) : Nat → Stmt → Option FS
  | 0, _ => none
  | n + 1, s =>
    let te := trE S tf tfm m le
    match s with
    | .Expr e _ => (match e with
      | .Constant (.str _) _ _ => some fsNil
      | e => if noComp e then (te e).map fsDrop else none)
    | .Return v _ => (match v with
      | some e => (te e).map fsRet
      | none => some fsRetN)
    | .Pass _ => some fsNil
    | .Break _ => some fsBk
    | .Continue _ => some fsCt
    | .If c a b _ => (trT te m c).bind fun f => (trSs (trS S tf tfm m le n) a).bind fun u => (trSs (trS S tf tfm m le n) b).map fun v => fsIf f u v
    | .Assign tgs e _ => (match tgs with
      | [tg] => trAsg S tf tfm m le tg e
      | _ => none)
    | .AugAssign tg op e _ => if augOk op then (match tg with
      | .Name x _ => if le.loc x then (le.ix x).bind fun i => (te e).map fun f => fsAug i op f else none
      | .Attribute o f _ => (te o).bind fun fo => (te e).map fun fv => fsFldAug (S.fldOk f) f.cps.toList op fv fo
      | _ => none) else none
    | .For tg iter body orelse pos => (match orelse with
      | [] => if notSet iter then (trI le te tg iter).bind fun fi => (trG le te m tg).bind fun g => (trSs (trS S tf tfm m le n) body).bind fun u => frzS S le pos (fsFor fi g.1 u) else none
      | _ => none)
    | .While c body orelse _ => (match orelse with
      | [] => (trT te m c).bind fun f => (trSs (trS S tf tfm m le n) body).map fun u => fsWhile f u
      | _ => none)
    | .Raise e c _ => (match e, c with
      | some (.Call (.Name x _) [a] [] _), none => if le.gl x && notStar a then (match S.exs.lookup x with
        | some c => (te a).map (fsRaise c)
        | none => some fsStuck) else some fsStuck
      | _, _ => some fsStuck)
    | .Try body hs orelse fin _ => (match hs, orelse, fin with
      | [.ExceptHandler (some (.Name x _)) none [.Return (some (.Constant k _ _)) _] _], [], [] => if le.gl x then (S.exm.lookup x).bind fun l => (constP k).bind fun p => (trSs (trS S tf tfm m le n) body).map fun u => fsTry l u p else none
      | _, _, _ => none)
    | _ => none
section
variable {S : Stc} {T : Txt} {tf tfm : Nat → FF} {Wx : WX} {X : Cx} {le : LE} {m : Nat}
def TsOk (T : Txt) (Wx : WX) (X : Cx) (ts : Stmt → Option FS) : Prop := ∀ e f, ts e = some f → PS X e (TSv T Wx f)
theorem trSs_ok {ts : Stmt → Option FS} (h : TsOk T Wx X ts) : ∀ {es : List Stmt} {f : FS}, trSs ts es = some f → PSs X es (TSv T Wx f)
  | [], f, q => by cases q; exact dss_nil
  | s :: r, f, q => by
    obtain ⟨u, h1, q⟩ := Option.bind_eq_some_iff.mp (show (ts s).bind (fun u => (trSs ts r).map fun v => fsSeq u v) = some f from q)
    obtain ⟨v, h2, q⟩ := Option.map_eq_some_iff.mp q
    subst q
    exact dss_cons (h _ _ h1) (trSs_ok h h2)
theorem trPar_ok (C : Ctx S T tf tfm Wx X le) {te : Expr → Option FE} (h : TeOk T Wx X te) {names : List Str} {ts vs : List Expr} {k p k2 p2 pos} {f : FS} (hw : swapQ le.sc ts vs = some (some names)) (q : trPar le te names ts vs = some f) :
    PS X (.Assign [.Tuple ts k p] (.Tuple vs k2 p2) pos) (TSv T Wx f) := by
  unfold trPar at q
  split at q
  · rename_i x px y py a b
    split at q
    rotate_left
    · cases q
    rename_i hc
    simp only [Bool.and_eq_true, decide_eq_true_eq, beq_iff_eq] at hc
    obtain ⟨⟨c1, c2⟩, c3⟩ := hc
    subst c1
    obtain ⟨i, hi, q⟩ := Option.bind_eq_some_iff.mp q
    obtain ⟨j, hj, q⟩ := Option.bind_eq_some_iff.mp q
    split at q
    · cases q
    rename_i hij
    obtain ⟨fa, h1, q⟩ := Option.map_eq_some_iff.mp q
    subst q
    exact ds_par2 C.sc C.kind C.calm C.nd (by rw [C.N]; exact LE.ix_of hi) (by rw [C.N]; exact LE.ix_of hj) hij (by rw [C.sc]; exact c2) (by rw [C.sc]; exact c3) (trL_ok h h1).1 hw
  · rename_i x px y py z pz a b c
    split at q
    rotate_left
    · cases q
    rename_i hc
    simp only [Bool.and_eq_true, decide_eq_true_eq, beq_iff_eq] at hc
    obtain ⟨⟨⟨c1, c2⟩, c3⟩, c4⟩ := hc
    subst c1
    obtain ⟨i, hi, q⟩ := Option.bind_eq_some_iff.mp q
    obtain ⟨j, hj, q⟩ := Option.bind_eq_some_iff.mp q
    obtain ⟨l, hl, q⟩ := Option.bind_eq_some_iff.mp q
    split at q
    · cases q
    rename_i hij
    obtain ⟨fa, h1, q⟩ := Option.map_eq_some_iff.mp q
    subst q
    simp only [not_or] at hij
    exact ds_par3 C.sc C.kind C.calm C.nd (by rw [C.N]; exact LE.ix_of hi) (by rw [C.N]; exact LE.ix_of hj) (by rw [C.N]; exact LE.ix_of hl) hij.1 hij.2.1 hij.2.2 (by rw [C.sc]; exact c2) (by rw [C.sc]; exact c3) (by rw [C.sc]; exact c4) (trL_ok h h1).1 hw
  · cases q
theorem trAsg_ok (C : Ctx S T tf tfm Wx X le) {tg e : Expr} {pos : Pos} {f : FS} (q : trAsg S tf tfm m le tg e = some f) : PS X (.Assign [tg] e pos) (TSv T Wx f) := by
  have h : TeOk T Wx X (trE S tf tfm m le) := trE_ok m C
  unfold trAsg at q
  simp only [] at q
  split at q
  · rename_i o fl p
    split at q
    · rename_i hn
      obtain ⟨f1, h1, q⟩ := Option.bind_eq_some_iff.mp q
      obtain ⟨f2, h2, q⟩ := Option.map_eq_some_iff.mp q
      subst q
      have key := ds_fld (pos := pos) (pos' := p) (l := fl.cps.toList) C.hK (fun c hc => by rw [nmS_of]; exact C.fld _ _ hc) (h _ _ h2) (h _ _ h1) hn
      rw [nmS_of] at key
      exact key
    · cases q
  · split at q
    · cases q
    · rename_i hw
      obtain ⟨f1, h1, q⟩ := Option.bind_eq_some_iff.mp q
      obtain ⟨g1, h2, q⟩ := Option.map_eq_some_iff.mp q
      subst q
      exact ds_asgT C.sc C.kind (h _ _ h1) (trG_ok C h m _ _ h2).1 hw
    · rename_i names hw
      exact trPar_ok C h hw q
  · split at q
    rotate_left
    · cases q
    rename_i hp
    rw [Bool.and_eq_true] at hp
    split at q
    · rename_i hs
      obtain ⟨f1, h1, q⟩ := Option.bind_eq_some_iff.mp q
      obtain ⟨g1, h2, q⟩ := Option.map_eq_some_iff.mp q
      subst q
      exact ds_asg C.sc C.kind (h _ _ h1) (trG_ok C h m _ _ h2).1 hs hp.2 hp.1
    · rename_i hs
      split at q
      · split at q
        · rename_i hc
          rw [Bool.and_eq_true] at hc
          obtain ⟨i, hi, q⟩ := Option.bind_eq_some_iff.mp q
          obtain ⟨fi, h1, q⟩ := Option.bind_eq_some_iff.mp q
          obtain ⟨f1, h2, q⟩ := Option.map_eq_some_iff.mp q
          subst q
          obtain ⟨own, g, ft, fe, rfl, hb, hn, z1, z2, z3⟩ := comp_parts C (fun C => trE_ok m C) h2
          exact ds_setLc _ C.sc C.kind C.calm C.nd (by rw [C.N]; exact LE.ix_of hi) (by rw [C.sc]; exact beq_iff_eq.mp hc.1) (by simpa using hs) (trI_ok C h h1) hb z1 z2 z3 hn
        · cases q
      · cases q
theorem frzS_ok {pos : Pos} {u f : FS} {st : Stmt} (h : PS X st (TSv T Wx u)) (q : frzS S le pos u = some f) : PS X st (TSv T Wx f) := by
  unfold frzS at q
  split at q
  · cases q; exact h
  · obtain ⟨i, hi, q⟩ := Option.map_eq_some_iff.mp q
    subst q
    exact ds_frzv i h
theorem Ctx.tr {W : WX} {pn : List (Addr × Obj)} {xe : Value → Shared → Prop} (C : Ctx S T tf tfm Wx X le) (tk : Takes (X.tr pn xe) W) : Ctx S T tf tfm W (X.tr pn xe) le :=
  { hK := C.hK, calm := C.calm, N := C.N, nd := C.nd, sc := C.sc, kind := C.kind, fn := C.fn, room := C.room, tk := tk, gcs := C.gcs, blt := C.blt, fld := C.fld,
    exs := fun x c h => let e := C.exs x c h; ⟨e.made, e.glob, e.keep, e.rs⟩, exm := C.exm }
end
theorem trS_ok {S : Stc} {T : Txt} {tf tfm : Nat → FF} {le : LE} {m : Nat} : ∀ (n : Nat) {Wx : WX} {X : Cx}, Ctx S T tf tfm Wx X le → PassesOwn (model X.prog X.w) X.A X.env X.xe → X.stack = X.env :: X.outer → X.env.frame = some X.env.locals → TsOk T Wx X (trS S tf tfm m le n)
  | 0, _, _, _, _, _, _, s, f, q => by cases q
  | n + 1, Wx, X, C, hp, hst, hfr, s, f, q => by
    have h : TeOk T Wx X (trE S tf tfm m le) := trE_ok m C
    have ih : TsOk T Wx X (trS S tf tfm m le n) := trS_ok n C hp hst hfr
    unfold trS at q
    simp only [] at q
    split at q
    · split at q
      · cases q; exact ds_doc
      · split at q
        · rename_i hn
          obtain ⟨f1, h1, q⟩ := Option.map_eq_some_iff.mp q
          subst q
          exact ds_expr (h _ _ h1) hn
        · cases q
    · split at q
      · obtain ⟨f1, h1, q⟩ := Option.map_eq_some_iff.mp q
        subst q
        exact ds_ret (h _ _ h1)
      · cases q; exact ds_retN
    · cases q; exact ds_pass
    · cases q; exact ds_break
    · cases q; exact ds_cont
    · obtain ⟨f1, h1, q⟩ := Option.bind_eq_some_iff.mp q
      obtain ⟨f2, h2, q⟩ := Option.bind_eq_some_iff.mp q
      obtain ⟨f3, h3, q⟩ := Option.map_eq_some_iff.mp q
      subst q
      exact ds_if (trT_ok C h m _ _ h1) (trSs_ok ih h2) (trSs_ok ih h3)
    · split at q
      · exact trAsg_ok C q
      · cases q
    · split at q
      rotate_left
      · cases q
      rename_i hop
      split at q
      · split at q
        rotate_left
        · cases q
        rename_i hl
        obtain ⟨i, hi, q⟩ := Option.bind_eq_some_iff.mp q
        obtain ⟨f1, h1, q⟩ := Option.map_eq_some_iff.mp q
        subst q
        obtain ⟨l1, l2⟩ := C.locX hl
        exact ds_aug hop C.nd (by rw [C.N]; exact LE.ix_of hi) l1 (h _ _ h1) l2
      · rename_i o fl p
        obtain ⟨f2, h2, q⟩ := Option.bind_eq_some_iff.mp q
        obtain ⟨f1, h1, q⟩ := Option.map_eq_some_iff.mp q
        subst q
        have key := fun pos => ds_fldaug (pos := pos) (tpos := p) (l := fl.cps.toList) hop C.hK (fun c hc => by rw [nmS_of]; exact C.fld _ _ hc) (h _ _ h2) (h _ _ h1)
        rw [nmS_of] at key
        exact key _
      · cases q
    · split at q
      · split at q
        · rename_i hn
          obtain ⟨fi, h1, q⟩ := Option.bind_eq_some_iff.mp q
          obtain ⟨g, h2, q⟩ := Option.bind_eq_some_iff.mp q
          obtain ⟨u, h3, q⟩ := Option.bind_eq_some_iff.mp q
          exact frzS_ok (ds_for hp C.calm (trI_ok C h h1) (trG_ok C h m _ _ h2).1 (trSs_ok ih h3) hn) q
        · cases q
      · cases q
    · split at q
      · obtain ⟨f1, h1, q⟩ := Option.bind_eq_some_iff.mp q
        obtain ⟨u, h3, q⟩ := Option.map_eq_some_iff.mp q
        subst q
        exact ds_while hp (trT_ok C h m _ _ h1) (trSs_ok ih h3)
      · cases q
    · split at q
      · split at q
        · rename_i hg
          rw [Bool.and_eq_true] at hg
          split at q
          · rename_i c hx
            obtain ⟨f1, h1, q⟩ := Option.map_eq_some_iff.mp q
            subst q
            exact ds_raise C.calm C.tk (C.exs _ _ hx) (C.glX hg.1) (okName_of (LE.gl_ok hg.1)).1 (h _ _ h1) hg.2
          · cases q; exact ds_never
        · cases q; exact ds_never
      · cases q; exact ds_never
    · split at q
      · split at q
        · rename_i hg
          obtain ⟨l, hl, q⟩ := Option.bind_eq_some_iff.mp q
          obtain ⟨p, hk, q⟩ := Option.bind_eq_some_iff.mp q
          obtain ⟨u, hu, q⟩ := Option.map_eq_some_iff.mp q
          subst q
          obtain ⟨cl, hm, he⟩ := C.exm _ _ hl
          exact ds_try hst hfr ⟨C.glX hg, (okName_of (LE.gl_ok hg)).1, .inl hm⟩ C.tk he (fun W pn xe tk hp' => trSs_ok (trS_ok n (C.tr tk) hp' hst hfr) hu) fun a oe pn => dss_cons (ds_ret (constP_ok hk)) dss_nil
        · cases q
      · cases q
    · cases q
end Pv
/-! Pv, part Q: a text's defs, level by level. -/
namespace Pv
open PySem PySem.Spec PyProof.Rows PySem.SeqAt L2

/-- a def of the text: its name, its qualified name, its statement, its slots, its parameters -/
structure DefI where
  name : Str
  qual : Str
  st : Stmt
  N : List Str
  ps : List Str
def ffStuck : FF := fun _ _ => .stuck
def trB (S : Stc) (tf tfm : Nat → FF) (d : DefI) : Option FS := trSs (trS S tf tfm 40 ⟨d.N, defScope d.st, none⟩ 20) (defBody d.st)
def evb (S : Stc) (D : List DefI) (tf tfm : Nat → FF) (j : Nat) : FF := match D[j]? with
  | some d => match trB S tf tfm d with
    | some f => fnF d.ps.length d.N.length f
    | none => ffStuck
  | none => ffStuck
/-- the tables of level i: what a body of that level calls, what a class that it makes calls -/
def ev2 (S : Stc) (D : List DefI) : Nat → (Nat → FF) × (Nat → FF)
  | 0 => (fun _ => ffStuck, fun _ => ffStuck)
  | i + 1 => (evb S D (ev2 S D i).1 (ev2 S D i).2, (ev2 S D i).1)

/-- an own exception class in the written part -/
structure ExF (K : PySem.W.Frag) (mg : Str → Option Value) (x : Str) (C : Addr) : Prop where
  made : ∃ (B newId initId : String) (bmB : List Value), ExcBaseFacts B newId initId bmB ∧ PySem.W.excIn K C bmB newId = true
  glob : mg x = some (.ref C)
  keep : PySem.W.keepIn K (.ref C) = true
  sub : PySem.W.subIn K (.ref C) (.type "BaseException") = some true
  typ : PySem.W.typeIn K (.ref C) = some (.type "type")
/-- what the written part says of the text -/
structure Prog (S : Stc) (D : List DefI) (K : PySem.W.Frag) (mg : Str → Option Value) (T : Txt) (fa : Nat → Addr) (fd : Nat → FuncData) : Prop where
  tK : T.K = K
  funs : ∀ (j : Nat) d, D[j]? = some d → L2.Fun K d.name d.qual d.st (fa j) (fd j)
  scs : ∀ (j : Nat) d, D[j]? = some d → FnScope d.N d.ps (defScope d.st)
  bnd : ∀ (j : Nat) d, D[j]? = some d → Binds K (fd j) d.ps []
  fns : ∀ x j, S.fns.lookup x = some j → (∃ d, D[j]? = some d) ∧ mg x = some (.ref (fa j))
  mks : ∀ x c j, S.mks.lookup x = some (c, j) → (∃ d, D[j]? = some d) ∧ Mk K (T.cl c) (fa j) ∧ mg x = some (.ref (T.cl c)) ∧ Cls K (T.cl c)
  mts : ∀ m c j, S.mt m c = some j → (∃ d, D[j]? = some d) ∧ Meth K (T.cl c) m (fa j)
  gcs : ∀ x p, S.gcs.lookup x = some p → ∃ v u, mg x = some u ∧ RelV v u ∧ Fixed T.K p v
  blt : ∀ x ∈ bltNames, mg x = none
  fld : ∀ l c, S.fldOk l c = true → NoAttr T.K (T.cl c) l
  exs : ∀ x c, S.exs.lookup x = some c → ExF K mg x (T.cl c)
  exm : ∀ x l, S.exm.lookup x = some l → ∃ C, mg x = some (.ref C) ∧ ∀ n b, l.lookup n = some b → PySem.W.exmOne K (.ref (T.cl n)) (.ref C) = some b
theorem fn_stuck {P : Program} {w : World} {K : PySem.W.Frag} {mg : Str → Option Value} {base : Heap} {T : Txt} {CX : CXT} {k : Nat} {f : Addr} {fd : FuncData} {ps : List Str} : FnOk P w K mg base CX k f fd ps (spF T ffStuck) :=
  ⟨fun vs H Q E ⟨_, _, _, _, _, q⟩ => q.elim, fun A outer s H args us vs Q E _ _ _ _ ⟨_, _, _, _, _, q⟩ => q.elim⟩
section
variable {S : Stc} {D : List DefI} {P : Program} {w : World} {K : PySem.W.Frag} {mg : Str → Option Value} {base : Heap} {T : Txt} {fa : Nat → Addr} {fd : Nat → FuncData}
def LevR (P : Program) (w : World) (K : PySem.W.Frag) (mg : Str → Option Value) (base : Heap) (T : Txt) (D : List DefI) (fa : Nat → Addr) (fd : Nat → FuncData) (R : Around → Prop) (tf : Nat → FF) : Prop :=
  ∀ (j : Nat) d, D[j]? = some d → FnR P w K mg base R (fa j) (fd j) d.ps (spF T (tf j))
theorem evb_ok (G : Prog S D K mg T fa fd) {R R' : Around → Prop} {k : Nat} {tf tfm : Nat → FF} (hR : ∀ A, R A → A.handled = none ∧ A.depth < recursionLimit ∧ ∀ env, R' (A.deeper env)) (hk : ∀ A, R' A → Room (k + 1) A)
    (h1 : LevR P w K mg base T D fa fd R' tf) (h0 : LevR P w K mg base T D fa fd (Room k) tfm) : LevR P w K mg base T D fa fd R (evb S D tf tfm) := by
  intro j d hd
  have hF := G.funs j d hd
  have hS := G.scs j d hd
  unfold evb
  simp only [hd]
  cases ht : trB S tf tfm d with
  | none => exact FnR.of (k := 0) (fn_stuck) fun A h => Room.mono (hk _ ((hR A h).2.2 default)) (Nat.zero_le _) |> fun r => ⟨(hR A h).1, by have := r.dp; have e : (A.deeper default).depth = A.depth + 1 := rfl; omega, by have := r.un; have e : (A.deeper default).units = A.units + 3 := rfl; omega⟩
  | some f =>
    simp only []
    refine fn_okR hF hS hR fun cdv A outer s H E hr => ?_
    have C : Ctx S T tf tfm (fun cls d _ H => E cls d H) (cxOf (L2.CX P w) P w K mg base d.N d.qual (defScope d.st) (fa j) cdv A outer s H E) ⟨d.N, defScope d.st, none⟩ :=
      { hK := G.tK, calm := rfl, N := rfl, nd := hS.nd, sc := rfl, kind := hS.kind, fn := fun _ _ => rfl,
        room := ⟨R', k, hr, hk _ hr, fun x j' e => by
          obtain ⟨⟨d', hd'⟩, m⟩ := G.fns x j' e
          exact ⟨_, _, _, h1 j' d' hd', m, (G.funs j' d' hd').kp, G.bnd j' d' hd'⟩, fun x c j' e => by
          obtain ⟨⟨d', hd'⟩, m1, m2, m3⟩ := G.mks x c j' e
          exact ⟨_, _, _, (h0 j' d' hd').ok fun _ h => h, m1, m2, G.bnd j' d' hd', m3⟩, fun m c j' e => by
          obtain ⟨⟨d', hd'⟩, m1⟩ := G.mts m c j' e
          exact ⟨_, _, _, h1 j' d' hd', m1, G.bnd j' d' hd'⟩⟩,
        tk := takes_of rfl rfl rfl rfl, gcs := G.gcs, blt := G.blt, fld := G.fld,
        exs := fun x c h => let e := G.exs x c h; ⟨e.made, e.glob, e.keep, raises_own e.sub e.typ⟩, exm := G.exm }
    exact trSs_ok (trS_ok 20 C (passes_of rfl) rfl rfl) ht
theorem room_go {k : Nat} (A : Around) (h : Room (k + 1) A) : A.handled = none ∧ A.depth < recursionLimit ∧ ∀ env, Room k (A.deeper env) := ⟨h.hd, h.depth, h.deeper⟩
theorem stuckR {R : Around → Prop} {k : Nat} (h : ∀ A, R A → Room k A) : LevR P w K mg base T D fa fd R fun _ => ffStuck := fun _ _ _ => .of fn_stuck h
theorem lev_ok (G : Prog S D K mg T fa fd) : ∀ i, LevR P w K mg base T D fa fd (Room (i + 1)) (ev2 S D i).1 ∧ LevR P w K mg base T D fa fd (Room i) (ev2 S D i).2
  | 0 => ⟨stuckR fun _ h => h, stuckR fun _ h => h⟩
  | i + 1 => by
    obtain ⟨h1, h0⟩ := lev_ok G i
    exact ⟨evb_ok G room_go (fun _ h => h) h1 h0, h1⟩
/-! where calls lie deep: a frame a call -/
structure Rm (i : Nat) (A : Around) : Prop where
  hd : A.handled = none
  dp : A.depth + i + 40 < recursionLimit
  un : A.units + 5 * i + 400 < cLine
theorem Rm.room {i : Nat} {A : Around} (h : Rm i A) : Room 5 A := ⟨h.hd, by have := h.dp; omega, by have := h.un; omega⟩
theorem Rm.go {i : Nat} (A : Around) (h : Rm (i + 1) A) : A.handled = none ∧ A.depth < recursionLimit ∧ ∀ env, Rm i (A.deeper env) :=
  ⟨h.hd, by have := h.dp; omega, fun env => ⟨h.hd, by have := h.dp; show A.depth + 1 + i + 40 < _; omega, by have := h.un; show A.units + 3 + 5 * i + 400 < _; omega⟩⟩
/-- the tables of level i, where calls lie deep; what a class that is made calls is of level 3 -/
def evd (S : Stc) (D : List DefI) : Nat → Nat → FF
  | 0 => fun _ => ffStuck
  | i + 1 => evb S D (evd S D i) (ev2 S D 3).1
theorem levd_ok (G : Prog S D K mg T fa fd) : ∀ i, LevR P w K mg base T D fa fd (Rm i) (evd S D i)
  | 0 => stuckR fun _ h => h.room
  | i + 1 => evb_ok G (k := 4) Rm.go (fun _ h => h.room) (levd_ok G i) (lev_ok G 3).1
/-- nothing is let out at the head -/
theorem no_cx {H : Hp} {s : Shared} {e : Value} {s' : Shared} (h : L2.CX P w [] H s (fun _ _ _ => False) e s') : False := by
  obtain ⟨_, _, _, _, _, _, _, _, _, _, _, _, z⟩ := h
  exact z
/-- the law's def answers True at every script -/
def Law (S : Stc) (D : List DefI) (j i most : Nat) : Prop := ∀ ns : List Int, ns.length ≤ most → ∃ st, (ev2 S D i).1 j [.scr (ns.map .int)] [] = .ok (.bl true) st
theorem sp_law {i j most : Nat} (h : Law S D j i most) (hK : T.K = K) {H : Hp} {a : Addr} {ns : List Int} (hl : ns.length ≤ most) (hO : Only H) (hS : SqL K H a (ns.map V.int)) :
    spF T ((ev2 S D i).1 j) [.ref a] H (fun v _ => v = .bl true) fun _ _ _ => False := by
  subst hK
  obtain ⟨st, e⟩ := h ns hl
  refine ⟨⟨H, []⟩, [.scr (ns.map .int)], [], ⟨fun _ _ h => h, List.nodup_nil, rfl, fun _ h => absurd h (by simp), fun n a c h => by simp at h, fun n a c h => by simp at h⟩, ⟨.ref a, [], rfl, ⟨a, _, rfl, hS, reps_ints ns⟩, rfl⟩, ?_⟩
  rw [e]
  exact fun W' H' g S' v rv => rv
theorem walk {l : PySem.W.OpenLaw} {n : Nat} {q : Program} {loose : List Str} {XP : (Str → Option Value) → Heap → Prop} {YP : World → Heap → Prop} {dr : DefRec} {j i : Nat} {x : Str}
    (hn : l.most = some n) (hn2 : n ≤ sizeLine) (hdf : dr.params.defaults = []) (hr : Room (i + 1) callerA) (hl : Law S D j i n)
    (hd : ∃ d, D[j]? = some d ∧ d.ps = [x])
    (F : ∀ (w : World) (mg : Str → Option Value) (f : Addr) (h : Heap), YP w h → h.Ns mainGlobals mg → mg dr.name = some (.ref f) →
      ∃ (K : PySem.W.Frag) (T : Txt) (fa : Nat → Addr) (fd : Nat → FuncData), K.In h ∧ fa j = f ∧ (∀ (s : Shared) (u : Value), BindsTo s (fd j) ⟨[u], []⟩ [(x, u)]) ∧ Prog S D K mg T fa fd) :
    PySem.W.WalkO q loose XP YP l.row.toRowW dr [] (fun f vs => PySem.call f vs) := by
  obtain ⟨d, hd, hx⟩ := hd
  refine Att.attach_call hn hdf fun w s₀ s₁ mg mb f o pm cd doc a vs ns G Y ho hdd hcd hmg hobj hints hlen hg => ?_
  obtain ⟨K, T, fa, fd, KX, e, hb, PG⟩ := F w mg f _ Y G.T.g hmg
  subst e
  refine law_call (CX := L2.CX l.prog w) (sp := spF T ((ev2 S D i).1 j)) KX G.T.g G.T.b G.T.builtins G.T.nolimit hg hobj hints (Nat.le_trans hlen hn2) hr (fun base _ _ => ?_) hb (fun H hO hS => sp_law hl PG.tK hlen hO hS) fun H e s' => no_cx
  have := ((lev_ok (P := l.prog) (w := w) (base := base) PG i).1 j d hd).ok fun _ h => h
  rw [hx] at this
  exact this
/-- the same, where calls lie deep -/
def LawD (S : Stc) (D : List DefI) (j i most : Nat) : Prop := ∀ ns : List Int, ns.length ≤ most → ∃ st, evd S D i j [.scr (ns.map .int)] [] = .ok (.bl true) st
theorem sp_lawD {i j most : Nat} (h : LawD S D j i most) (hK : T.K = K) {H : Hp} {a : Addr} {ns : List Int} (hl : ns.length ≤ most) (hO : Only H) (hS : SqL K H a (ns.map V.int)) :
    spF T (evd S D i j) [.ref a] H (fun v _ => v = .bl true) fun _ _ _ => False := by
  subst hK
  obtain ⟨st, e⟩ := h ns hl
  refine ⟨⟨H, []⟩, [.scr (ns.map .int)], [], ⟨fun _ _ h => h, List.nodup_nil, rfl, fun _ h => absurd h (by simp), fun n a c h => by simp at h, fun n a c h => by simp at h⟩, ⟨.ref a, [], rfl, ⟨a, _, rfl, hS, reps_ints ns⟩, rfl⟩, ?_⟩
  rw [e]
  exact fun W' H' g S' v rv => rv
theorem walkD {l : PySem.W.OpenLaw} {n : Nat} {q : Program} {loose : List Str} {XP : (Str → Option Value) → Heap → Prop} {YP : World → Heap → Prop} {dr : DefRec} {j i k : Nat} {x : Str}
    (hn : l.most = some n) (hn2 : n ≤ sizeLine) (hdf : dr.params.defaults = []) (hr : Room k callerA) (hk : i + 35 ≤ 3 * k ∧ 5 * i + 200 ≤ 16 * k) (hl : LawD S D j i n)
    (hd : ∃ d, D[j]? = some d ∧ d.ps = [x])
    (F : ∀ (w : World) (mg : Str → Option Value) (f : Addr) (h : Heap), YP w h → h.Ns mainGlobals mg → mg dr.name = some (.ref f) →
      ∃ (K : PySem.W.Frag) (T : Txt) (fa : Nat → Addr) (fd : Nat → FuncData), K.In h ∧ fa j = f ∧ (∀ (s : Shared) (u : Value), BindsTo s (fd j) ⟨[u], []⟩ [(x, u)]) ∧ Prog S D K mg T fa fd) :
    PySem.W.WalkO q loose XP YP l.row.toRowW dr [] (fun f vs => PySem.call f vs) := by
  obtain ⟨d, hd, hx⟩ := hd
  refine Att.attach_call hn hdf fun w s₀ s₁ mg mb f o pm cd doc a vs ns G Y ho hdd hcd hmg hobj hints hlen hg => ?_
  obtain ⟨K, T, fa, fd, KX, e, hb, PG⟩ := F w mg f _ Y G.T.g hmg
  subst e
  refine law_call (CX := L2.CX l.prog w) (sp := spF T (evd S D i j)) KX G.T.g G.T.b G.T.builtins G.T.nolimit hg hobj hints (Nat.le_trans hlen hn2) hr (fun base _ _ => ?_) hb (fun H hO hS => sp_lawD hl PG.tK hlen hO hS) fun H e s' => no_cx
  have := ((levd_ok (P := l.prog) (w := w) (base := base) PG i) j d hd).ok (k := k) fun A h => ⟨h.hd, by have := h.dp; omega, by have := h.un; omega⟩
  rw [hx] at this
  exact this
end
end Pv
/-! Pv, part S: the text's facts as lists. -/
namespace Pv
open PySem PySem.Spec PyProof.Rows PySem.SeqAt L2
section
variable {S : Stc} {D : List DefI} {K : PySem.W.Frag} {mg : Str → Option Value}
def AllF (K : PySem.W.Frag) : List DefI → List (Addr × FuncData) → Prop
  | [], _ => True
  | d :: ds, (a, f) :: r => (L2.Fun K d.name d.qual d.st a f ∧ Binds K f d.ps []) ∧ AllF K ds r
  | _ :: _, [] => False
def faOf (l : List (Addr × FuncData)) (j : Nat) : Addr := match l[j]? with
  | some p => p.1
  | none => 0
def fdOf (dflt : FuncData) (l : List (Addr × FuncData)) (j : Nat) : FuncData := match l[j]? with
  | some p => p.2
  | none => dflt
theorem AllF.at {dflt : FuncData} : ∀ {D : List DefI} {l : List (Addr × FuncData)}, AllF K D l → ∀ {j : Nat} {d : DefI}, D[j]? = some d → L2.Fun K d.name d.qual d.st (faOf l j) (fdOf dflt l j) ∧ Binds K (fdOf dflt l j) d.ps []
  | [], _, _, j, d, h => by simp at h
  | _ :: _, [], z, _, _, _ => z.elim
  | x :: ds, (a, f) :: r, z, 0, d, h => by
    have h : x = d := by simpa using h
    subst h
    exact z.1
  | x :: ds, (a, f) :: r, z, j + 1, d, h => AllF.at (dflt := dflt) (l := r) z.2 (j := j) (by simpa using h)
def fnScopeB (d : DefI) : Bool :=
  let sc := defScope d.st
  (match sc.kind with | .function => true | _ => false) && !sc.isCoroutine && !sc.isGenerator && decide d.N.Nodup && decide (d.N.take d.ps.length = d.ps) &&
    (d.ps.all fun x => decide (sc.names.lookup x = some .local) || decide (sc.names.lookup x = some .cell)) && (sc.names.all fun y => decide (y.2 ≠ .free))
theorem fnScope_of {d : DefI} (h : fnScopeB d = true) : FnScope d.N d.ps (defScope d.st) := by
  unfold fnScopeB at h
  simp only [Bool.and_eq_true, decide_eq_true_eq, Bool.not_eq_true', List.all_eq_true, Bool.or_eq_true] at h
  obtain ⟨⟨⟨⟨⟨⟨h1, h2⟩, h3⟩, h4⟩, h5⟩, h6⟩, h7⟩ := h
  refine ⟨?_, h2, h3, h4, h5, h6, h7⟩
  split at h1
  · assumption
  · cases h1
def AllG (mg : Str → Option Value) (fa : Nat → Addr) : List (Str × Nat) → Prop
  | [] => True
  | (x, j) :: r => mg x = some (.ref (fa j)) ∧ AllG mg fa r
theorem lookup_mem {α β : Type} [BEq α] [LawfulBEq α] {x : α} {y : β} : ∀ {l : List (α × β)}, l.lookup x = some y → (x, y) ∈ l
  | [], h => by cases h
  | (a, b) :: r, h => by
    unfold List.lookup at h
    split at h
    · rename_i e
      cases h
      rw [beq_iff_eq.mp e]
      exact List.mem_cons_self
    · exact List.mem_cons_of_mem _ (lookup_mem h)
theorem AllG.at {fa : Nat → Addr} : ∀ {l : List (Str × Nat)}, AllG mg fa l → ∀ {x : Str} {j : Nat}, (x, j) ∈ l → mg x = some (.ref (fa j))
  | [], _, _, _, h => absurd h (by simp)
  | (y, i) :: r, z, x, j, h => by
    rcases List.mem_cons.mp h with e | h
    · cases e; exact z.1
    · exact AllG.at z.2 h
/-- constants: as they stand in the globals -/
def ConG (K : PySem.W.Frag) (mg : Str → Option Value) : List (Str × PV) → Prop
  | [] => True
  | (x, p) :: r => (∃ v u, mg x = some u ∧ RelV v u ∧ Fixed K p v) ∧ ConG K mg r
theorem ConG.at : ∀ {l : List (Str × PV)}, ConG K mg l → ∀ {x : Str} {p : PV}, (x, p) ∈ l → ∃ v u, mg x = some u ∧ RelV v u ∧ Fixed K p v
  | [], _, _, _, h => absurd h (by simp)
  | (y, i) :: r, z, x, j, h => by
    rcases List.mem_cons.mp h with e | h
    · cases e; exact z.1
    · exact ConG.at z.2 h
theorem con_int {x : Str} {i : Int} {t : Tok} (h : mg x = some (.int i t)) : ∃ v u, mg x = some u ∧ RelV v u ∧ Fixed K (.int i) v := ⟨.int i, _, h, ⟨t, rfl⟩, fun _ => rfl⟩
theorem con_str {x : Str} {s : List Nat} {t : Tok} (h : mg x = some (.str ⟨s.toArray⟩ t)) (hz : s.length ≤ 100000) : ∃ v u, mg x = some u ∧ RelV v u ∧ Fixed K (.str s) v := ⟨strV s, _, h, ⟨t, rfl⟩, fun _ => ⟨rfl, by rw [sizeLine_eq]; omega⟩⟩
theorem con_bl {x : Str} {b : Bool} (h : mg x = some (.bool b)) : ∃ v u, mg x = some u ∧ RelV v u ∧ Fixed K (.bl b) v := ⟨.bl b, _, h, rfl, fun _ => rfl⟩
/-- a class: its methods, fields, its making -/
structure ClsG (S : Stc) (D : List DefI) (K : PySem.W.Frag) (mg : Str → Option Value) (cl : Nat → Addr) (fa : Nat → Addr) : Prop where
  mks : ∀ x c j, (x, c, j) ∈ S.mks → Mk K (cl c) (fa j) ∧ mg x = some (.ref (cl c)) ∧ Cls K (cl c)
  mts : ∀ m l c j, (m, l) ∈ S.mts → (c, j) ∈ l → Meth K (cl c) m (fa j)
  fld : ∀ f l c, (f, l) ∈ S.flds → c ∈ l → NoAttr K (cl c) f
def tabsB (S : Stc) (D : List DefI) : Bool := (S.fns.all fun p => decide (p.2 < D.length)) && (S.mks.all fun p => decide (p.2.2 < D.length)) && (S.mts.all fun p => p.2.all fun q => decide (q.2 < D.length)) && D.all fnScopeB
/-- what except names, when the class is the very one -/
theorem exm_own {C : Addr} (hb : PySem.W.subIn K (.ref C) (.type "BaseException") = some true) (hc : PySem.W.isClsIn K C = true) (ht : PySem.W.typeIn K (.ref C) = some (.type "type")) (hs : PySem.W.subIn K (.ref C) (.ref C) = some true) : PySem.W.exmOne K (.ref C) (.ref C) = some true := by
  have q : (PySem.W.clsIn K C).isSome = true := hc
  unfold PySem.W.exmOne
  rw [hb, if_pos (beq_self_eq_true _)]
  show (if ((PySem.W.clsIn K C).isSome && (PySem.W.typeIn K (.ref C) == some (.type "type"))) = true then _ else none) = _
  rw [q, ht, if_pos (by rw [Bool.true_and]; exact beq_self_eq_true _)]
  exact hs
theorem prog_of {dflt : FuncData} {cl : Nat → Addr} {l : List (Addr × FuncData)} (ht : tabsB S D = true) (hf : AllF K D l) (hg : AllG mg (faOf l) S.fns) (hc : ConG K mg S.gcs) (hC : ClsG S D K mg cl (faOf l)) (hb : ∀ x ∈ bltNames, mg x = none)
    (he : ∀ x c, (x, c) ∈ S.exs → ExF K mg x (cl c)) (hm : ∀ x l, (x, l) ∈ S.exm → ∃ C, mg x = some (.ref C) ∧ ∀ n b, (n, b) ∈ l → PySem.W.exmOne K (.ref (cl n)) (.ref C) = some b) :
    Prog S D K mg ⟨K, cl⟩ (faOf l) (fdOf dflt l) := by
  unfold tabsB at ht
  simp only [Bool.and_eq_true, List.all_eq_true, decide_eq_true_eq] at ht
  obtain ⟨⟨⟨t1, t2⟩, t3⟩, t4⟩ := ht
  have there : ∀ {j : Nat}, j < D.length → ∃ d, D[j]? = some d := fun h => ⟨_, List.getElem?_eq_getElem h⟩
  refine ⟨rfl, fun j d h => (hf.at h).1, fun j d h => fnScope_of (t4 d (List.mem_of_getElem? h)), fun j d h => (hf.at h).2, fun x j h => ⟨there (t1 _ (lookup_mem h)), hg.at (lookup_mem h)⟩, fun x c j h => ?_, fun m c j h => ?_, fun x p h => hc.at (lookup_mem h), hb, fun f c h => ?_, fun x c h => he x c (lookup_mem h), fun x l h => let ⟨C, h1, h2⟩ := hm x l (lookup_mem h); ⟨C, h1, fun n b z => h2 n b (lookup_mem z)⟩⟩
  · have m := lookup_mem h
    exact ⟨there (t2 _ m), hC.mks _ _ _ m⟩
  · obtain ⟨l', h1, h2⟩ := Option.bind_eq_some_iff.mp h
    have m1 := lookup_mem h1
    have m2 := lookup_mem h2
    exact ⟨there (t3 _ m1 _ m2), hC.mts _ _ _ _ m1 m2⟩
  · unfold Stc.fldOk at h
    cases hl : S.flds.lookup f with
    | none => rw [hl] at h; cases h
    | some l' =>
      rw [hl] at h
      exact hC.fld _ _ _ (lookup_mem hl) (List.contains_iff_mem.mp h)
end
end Pv
/-! Pv, part T: rules for what an answer of the evaluator is. -/
namespace Pv
open PySem L2

/-- r answers, and so that Q (a structure, so that nobody unfolds it) -/
inductive Mk1 {α : Sort u} (a : α) : Type
  | mk
/-- r answers, so that Q, or raises, so that Z (the marks: what is wanted later is of their types, so that simp, which works on r, never looks into it) -/
def satX {α : Type} (Z : Exc → Store → Prop) (r : R α) (Q : α → Store → Prop) : Prop := match r with
  | .ok a st => Q a st
  | .ex x st => Z x st
  | .stuck => False
structure SatX {α : Type} (Z : Exc → Store → Prop) (r : R α) (Q : α → Store → Prop) (u : Mk1 Q := .mk) (w : Mk1 Z := .mk) : Prop where
  run : satX Z r Q
def satS (Z : Exc → Store → Prop) (r : SR) (nx : Sig → Store → Prop) (rt : PV → Store → Prop) : Prop := match r with
  | .nx sg st => nx sg st
  | .rt p st => rt p st
  | .ex x _ st => Z x st
  | _ => False
structure SatSX (Z : Exc → Store → Prop) (r : SR) (nx : Sig → Store → Prop) (rt : PV → Store → Prop) (u : Mk1 nx := .mk) (w : Mk1 rt := .mk) (y : Mk1 Z := .mk) : Prop where
  run : satS Z r nx rt
/-- .. and nothing is raised -/
abbrev Sat {α : Type} (r : R α) (Q : α → Store → Prop) : Prop := SatX (fun _ _ => False) r Q
abbrev SatS (r : SR) (nx : Sig → Store → Prop) (rt : PV → Store → Prop) : Prop := SatSX (fun _ _ => False) r nx rt
section
variable {α β : Type} {Z Z' : Exc → Store → Prop} {Q Q' : α → Store → Prop}
@[simp] theorem Sat_ok (a : α) (st : Store) : SatX Z (.ok a st) Q = Q a st := propext ⟨fun h => h.run, fun h => ⟨h⟩⟩
@[simp] theorem Sat_stuck : SatX Z (.stuck : R α) Q = False := propext ⟨fun h => h.run, fun h => ⟨h⟩⟩
@[simp] theorem Sat_ex (x : Exc) (st : Store) : SatX Z (.ex x st : R α) Q = Z x st := propext ⟨fun h => h.run, fun h => ⟨h⟩⟩
theorem Sat_bind (r : R α) (f : α → Store → R β) (Q : β → Store → Prop) : SatX Z (r.bind f) Q = SatX Z r fun a st => SatX Z (f a st) Q := by
  cases r with
  | ok a st => rw [Sat_ok]; rfl
  | ex x st => rw [Sat_ex]; exact Sat_ex x st
  | stuck => rw [Sat_stuck]; exact Sat_stuck
theorem SatX.imp {r : R α} (h : SatX Z r Q) (i : ∀ a st, Q a st → Q' a st) (j : ∀ x st, Z x st → Z' x st) : SatX Z' r Q' := by
  obtain ⟨h⟩ := h
  cases r with
  | ok a st => exact ⟨i _ _ h⟩
  | ex x st => exact ⟨j _ _ h⟩
  | stuck => exact ⟨h⟩
theorem SatX.mono {r : R α} (h : SatX Z r Q) (i : ∀ a st, Q a st → Q' a st) : SatX Z r Q' := h.imp i fun _ _ z => z
theorem Sat.mono {r : R α} (h : Sat r Q) (i : ∀ a st, Q a st → Q' a st) : SatX Z r Q' := SatX.imp h i fun _ _ z => z.elim
theorem Sat.ok {r : R α} (h : Sat r Q) : ∃ a st, r = .ok a st ∧ Q a st := by
  obtain ⟨h⟩ := h
  cases r with
  | ok a st => exact ⟨a, st, rfl, h⟩
  | ex x st => exact h.elim
  | stuck => exact h.elim
theorem Sat_eq {r : R α} (h : ∀ a st, Q a st = Q' a st) : SatX Z r Q = SatX Z r Q' := by
  have e : Q = Q' := funext fun a => funext fun st => h a st
  rw [e]
theorem Sat_noX (r : R α) : SatX Z (noX r) Q = Sat r Q := by
  cases r with
  | ok a st => exact (Sat_ok a st).trans (Sat_ok a st).symm
  | ex x st => exact Sat_stuck.trans (Sat_ex (Z := fun _ _ => False) x st).symm
  | stuck => exact Sat_stuck.trans Sat_stuck.symm
variable {nx nx' : Sig → Store → Prop} {rt rt' : PV → Store → Prop}
@[simp] theorem SatS_nx (sg : Sig) (st : Store) : SatSX Z (.nx sg st) nx rt = nx sg st := propext ⟨fun h => h.run, fun h => ⟨h⟩⟩
@[simp] theorem SatS_rt (p : PV) (st : Store) : SatSX Z (.rt p st) nx rt = rt p st := propext ⟨fun h => h.run, fun h => ⟨h⟩⟩
@[simp] theorem SatS_stuck : SatSX Z .stuck nx rt = False := propext ⟨fun h => h.run, fun h => h.elim⟩
@[simp] theorem SatS_ex (x : Exc) (sg : Sig) (st : Store) : SatSX Z (.ex x sg st) nx rt = Z x st := propext ⟨fun h => h.run, fun h => ⟨h⟩⟩
@[simp] theorem SatS_bk (sg : Sig) (st : Store) : SatSX Z (.bk sg st) nx rt = False := propext ⟨fun h => h.run, fun h => h.elim⟩
@[simp] theorem SatS_ct (sg : Sig) (st : Store) : SatSX Z (.ct sg st) nx rt = False := propext ⟨fun h => h.run, fun h => h.elim⟩
theorem SatS_bindE (r : R α) (sg : Sig) (k : α → Store → SR) : SatSX Z (bindE r sg k) nx rt = SatX Z r fun a st => SatSX Z (k a st) nx rt := by
  cases r with
  | ok a st => rw [Sat_ok]; rfl
  | ex x st => rw [Sat_ex]; exact SatS_ex x sg st
  | stuck => rw [Sat_stuck]; exact SatS_stuck
theorem SatS_seq (r : SR) (v : FS) : SatSX Z (seqR r v) nx rt = SatSX Z r (fun sg st => SatSX Z (v sg st) nx rt) rt := by
  cases r with
  | nx sg st => rw [SatS_nx]; rfl
  | rt p st => rw [SatS_rt]; exact SatS_rt p st
  | bk sg st => rw [SatS_bk]; exact SatS_bk sg st
  | ct sg st => rw [SatS_ct]; exact SatS_ct sg st
  | ex x sg st => rw [SatS_ex]; exact SatS_ex x sg st
  | stuck => rw [SatS_stuck]; exact SatS_stuck
theorem SatSX.imp {r : SR} (h : SatSX Z r nx rt) (i : ∀ sg st, nx sg st → nx' sg st) (j : ∀ p st, rt p st → rt' p st) (k : ∀ x st, Z x st → Z' x st) : SatSX Z' r nx' rt' := by
  obtain ⟨h⟩ := h
  cases r with
  | nx sg st => exact ⟨i _ _ h⟩
  | rt p st => exact ⟨j _ _ h⟩
  | ex x sg st => exact ⟨k _ _ h⟩
  | bk _ _ => exact h.elim
  | ct _ _ => exact h.elim
  | stuck => exact h.elim
theorem SatSX.mono {r : SR} (h : SatSX Z r nx rt) (i : ∀ sg st, nx sg st → nx' sg st) (j : ∀ p st, rt p st → rt' p st) : SatSX Z r nx' rt' := h.imp i j fun _ _ z => z
theorem SatS.mono {r : SR} (h : SatS r nx rt) (i : ∀ sg st, nx sg st → nx' sg st) (j : ∀ p st, rt p st → rt' p st) : SatSX Z r nx' rt' := SatSX.imp h i j fun _ _ z => z.elim
/-- what stands behind a statement that returns is not looked at -/
theorem SatS_ret {A B : FS} {sg : Sig} {st : Store} (h : SatSX Z (A sg st) (fun _ _ => False) rt) : SatSX Z (fsSeq A B sg st) nx rt := by
  show SatSX Z (seqR (A sg st) B) nx rt
  rw [SatS_seq]
  exact h.mono (fun _ _ z => z.elim) fun _ _ z => z
theorem Sat_fnF {n m : Nat} {f : FS} {ps : List PV} {st : Store} {Q : PV → Store → Prop} (hl : ps.length = n) (h : SatSX Z (f (startS m ps) st) (fun _ st => Q .non st) Q) : SatX Z (fnF n m f ps st) Q := by
  unfold fnF
  rw [if_pos hl]
  cases e : f (startS m ps) st with
  | nx sg st => rw [e, SatS_nx] at h; simpa using h
  | rt p st => rw [e, SatS_rt] at h; simpa using h
  | ex x sg st => rw [e, SatS_ex] at h; simpa using h
  | bk _ _ => rw [e, SatS_bk] at h; exact h.elim
  | ct _ _ => rw [e, SatS_ct] at h; exact h.elim
  | stuck => rw [e, SatS_stuck] at h; exact h.elim
end
/-- a for loop, by an invariant -/
theorem SatS_for {Z : Exc → Store → Prop} {g : FG} {body : FS} {nx : Sig → Store → Prop} {rt : PV → Store → Prop} (I : List PV → Sig → Store → Prop)
    (h0 : ∀ sg st, I [] sg st → nx sg st) (h1 : ∀ p ps sg st, I (p :: ps) sg st → SatX Z (g p sg st) fun sg st => SatSX Z (body sg st) (I ps) rt) :
    ∀ (items : List PV) (sg : Sig) (st : Store), I items sg st → SatSX Z (forL g body items sg st) nx rt
  | [], sg, st, h => by unfold forL; rw [SatS_nx]; exact h0 sg st h
  | p :: ps, sg, st, h => by
    unfold forL
    rw [SatS_bindE]
    refine (h1 p ps sg st h).mono fun sg1 st1 k => ?_
    cases e : body sg1 st1 with
    | nx sg2 st2 => rw [e, SatS_nx] at k; exact SatS_for I h0 h1 ps sg2 st2 k
    | rt p st2 => rw [e, SatS_rt] at k; simpa using k
    | ex x sg2 st2 => rw [e, SatS_ex] at k; simpa using k
    | bk _ _ => rw [e, SatS_bk] at k; exact k.elim
    | ct _ _ => rw [e, SatS_ct] at k; exact k.elim
    | stuck => rw [e, SatS_stuck] at k; exact k.elim
/-- a while loop, by an invariant with a measure -/
theorem SatS_while {Z : Exc → Store → Prop} {c : FT} {body : FS} {nx : Sig → Store → Prop} {rt : PV → Store → Prop} (I : Nat → Sig → Store → Prop)
    (h : ∀ n sg st, I n sg st → SatX Z (c sg st) fun b st => if b then SatSX Z (body sg st) (fun sg st => ∃ m, m < n ∧ I m sg st) rt else nx sg st) :
    ∀ (f n : Nat) (sg : Sig) (st : Store), n < f → I n sg st → SatSX Z (whileN c body f sg st) nx rt
  | 0, n, _, _, hn, _ => absurd hn (Nat.not_lt_zero _)
  | f + 1, n, sg, st, hn, hi => by
    unfold whileN
    rw [SatS_bindE]
    refine (h n sg st hi).mono fun b st1 k => ?_
    cases b with
    | false => simpa using k
    | true =>
      simp only [if_true] at k ⊢
      cases e : body sg st1 with
      | nx sg2 st2 => rw [e, SatS_nx] at k; obtain ⟨m, hm, k⟩ := k; exact SatS_while I h f m sg2 st2 (by omega) k
      | rt p st2 => rw [e, SatS_rt] at k; simpa using k
      | ex x sg2 st2 => rw [e, SatS_ex] at k; simpa using k
      | bk _ _ => rw [e, SatS_bk] at k; exact k.elim
      | ct _ _ => rw [e, SatS_ct] at k; exact k.elim
      | stuck => rw [e, SatS_stuck] at k; exact k.elim
/-- a comprehension, turn by turn -/
theorem Sat_comp {Z : Exc → Store → Prop} {body : PV → Store → R (Option PV)} {Q : List PV → Store → Prop} (I : List PV → List PV → Store → Prop)
    (h0 : ∀ acc st, I acc [] st → Q acc st) (h1 : ∀ acc p ps st, I acc (p :: ps) st → Sat (body p st) fun o st => I (acc ++ o.toList) ps st) :
    ∀ (items acc : List PV) (st : Store), I acc items st → SatX Z (compL body items st) fun ys st => Q (acc ++ ys) st
  | [], acc, st, h => by
    unfold compL
    rw [Sat_ok, List.append_nil]; exact h0 acc st h
  | p :: ps, acc, st, h => by
    unfold compL
    rw [Sat_bind]
    refine Sat.mono (h1 acc p ps st h) fun o st1 k => ?_
    rw [Sat_bind]
    refine (Sat_comp (Z := Z) I h0 h1 ps (acc ++ o.toList) st1 k).mono fun ys st2 k2 => ?_
    rw [Sat_ok]
    simpa using k2
section
variable {sg : Sig} {st : Store} {α : Type} {Z : Exc → Store → Prop}
@[simp] theorem isI_ap (t c : Ty) : isI t c = (decide (t = c) || (decide (t = .bool) && decide (c = .int))) := rfl
/-! the combinators, each at its names and its store: what runs first is taken out -/
section
variable {f g h : FE} {c d : FT} {fa : FA} {fl fh : FO} {u v : FS} {gt : FG} {i n : Nat} {p q : PV} {Q : PV → Store → Prop} {QT : Bool → Store → Prop} {QA : List PV → Store → Prop} {QO : Option Int → Store → Prop} {QG : Sig → Store → Prop} {nx : Sig → Store → Prop} {rt : PV → Store → Prop}
@[simp ↓] theorem Sat_ite {k : Prop} [Decidable k] {r r' : R α} {Q : α → Store → Prop} : SatX Z (if k then r else r') Q = if k then SatX Z r Q else SatX Z r' Q := by split <;> rfl
@[simp ↓] theorem SatS_ite {k : Prop} [Decidable k] {r r' : SR} : SatSX Z (if k then r else r') nx rt = if k then SatSX Z r nx rt else SatSX Z r' nx rt := by split <;> rfl
@[simp] theorem fVar_ap : fVar i sg st = match sg[i]? with | some (some p) => .ok p st | _ => .stuck := rfl
@[simp ↓] theorem Sat_fC : SatX Z (fC p sg st) Q = Q p st := by
  simp only [fC, Sat_bind, Sat_noX, Sat_ok, Sat_ite, Sat_stuck, if_false_right, SatS_bindE, SatS_ite, SatS_nx, SatS_rt, SatS_stuck]
  repeat (first | rfl | (refine Sat_eq fun _ _ => ?_; try simp only [Sat_bind, Sat_noX, Sat_ok, Sat_ite, Sat_stuck, if_false_right, SatS_bindE, SatS_ite, SatS_nx, SatS_rt, SatS_stuck]))
@[simp ↓] theorem Sat_fBin (o : PV → PV → Store → Option PV) : SatX Z (fBin o f g sg st) Q = SatX Z (f sg st) fun p st => SatX Z (g sg st) fun q st => SatX Z (lift (o p q st) st) Q := by
  simp only [fBin, Sat_bind, Sat_noX, Sat_ok, Sat_ite, Sat_stuck, if_false_right, SatS_bindE, SatS_ite, SatS_nx, SatS_rt, SatS_stuck]
  repeat (first | rfl | (refine Sat_eq fun _ _ => ?_; try simp only [Sat_bind, Sat_noX, Sat_ok, Sat_ite, Sat_stuck, if_false_right, SatS_bindE, SatS_ite, SatS_nx, SatS_rt, SatS_stuck]))
@[simp ↓] theorem Sat_fUn (o : PV → Store → Option PV) : SatX Z (fUn o f sg st) Q = SatX Z (f sg st) fun p st => SatX Z (lift (o p st) st) Q := by
  simp only [fUn, Sat_bind, Sat_noX, Sat_ok, Sat_ite, Sat_stuck, if_false_right, SatS_bindE, SatS_ite, SatS_nx, SatS_rt, SatS_stuck]
  repeat (first | rfl | (refine Sat_eq fun _ _ => ?_; try simp only [Sat_bind, Sat_noX, Sat_ok, Sat_ite, Sat_stuck, if_false_right, SatS_bindE, SatS_ite, SatS_nx, SatS_rt, SatS_stuck]))
theorem Sat_fChain0 (o o' : PV → PV → Store → Option PV) : SatX Z (fChain o o' f g h sg st) Q = SatX Z (f sg st) fun p st => SatX Z (g sg st) fun q st => SatX Z (match o p q st with
  | some (.bl true) => (h sg st).bind fun r st => lift (o' q r st) st
  | some (.bl false) => .ok (.bl false) st
  | _ => .stuck) Q := by
  simp only [fChain, Sat_bind, Sat_noX, Sat_ok, Sat_ite, Sat_stuck, if_false_right, SatS_bindE, SatS_ite, SatS_nx, SatS_rt, SatS_stuck]
  repeat (first | rfl | (refine Sat_eq fun _ _ => ?_; try simp only [Sat_bind, Sat_noX, Sat_ok, Sat_ite, Sat_stuck, if_false_right, SatS_bindE, SatS_ite, SatS_nx, SatS_rt, SatS_stuck]))
/-- a comparison that is known -/
def blO : Option PV → Option Bool
  | some (.bl b) => some b
  | _ => none
@[simp] theorem blO_bl (b : Bool) : blO (some (.bl b)) = some b := rfl
@[simp ↓] theorem Sat_fChain (o o' : PV → PV → Store → Option PV) : SatX Z (fChain o o' f g h sg st) Q = SatX Z (f sg st) fun p st => SatX Z (g sg st) fun q st => ∃ b, blO (o p q st) = some b ∧ if b then SatX Z (h sg st) fun r st => SatX Z (lift (o' q r st) st) Q else Q (.bl false) st := by
  rw [Sat_fChain0]
  refine Sat_eq fun p st => Sat_eq fun q st => ?_
  cases e : o p q st with
  | none => simp [blO]
  | some z =>
    cases z with
    | bl b => cases b <;> simp [blO, Sat_bind]
    | _ => simp [blO]
@[simp ↓] theorem Sat_fTru : SatX Z (fTru f sg st) QT = SatX Z (f sg st) fun p st => SatX Z (match truP p st with | some b => .ok b st | none => .stuck) QT := by
  simp only [fTru, Sat_bind, Sat_noX, Sat_ok, Sat_ite, Sat_stuck, if_false_right, SatS_bindE, SatS_ite, SatS_nx, SatS_rt, SatS_stuck]
  repeat (first | rfl | (refine Sat_eq fun _ _ => ?_; try simp only [Sat_bind, Sat_noX, Sat_ok, Sat_ite, Sat_stuck, if_false_right, SatS_bindE, SatS_ite, SatS_nx, SatS_rt, SatS_stuck]))
@[simp ↓] theorem Sat_fBl : SatX Z (fBl f sg st) QT = SatX Z (f sg st) fun p st => SatX Z (match p with | .bl b => .ok b st | _ => .stuck) QT := by
  simp only [fBl, Sat_bind, Sat_noX, Sat_ok, Sat_ite, Sat_stuck, if_false_right, SatS_bindE, SatS_ite, SatS_nx, SatS_rt, SatS_stuck]
  repeat (first | rfl | (refine Sat_eq fun _ _ => ?_; try simp only [Sat_bind, Sat_noX, Sat_ok, Sat_ite, Sat_stuck, if_false_right, SatS_bindE, SatS_ite, SatS_nx, SatS_rt, SatS_stuck]))
@[simp ↓] theorem Sat_tfAnd : SatX Z (tfAnd c d sg st) QT = SatX Z (c sg st) fun b st => if b then SatX Z (d sg st) QT else QT false st := by
  simp only [tfAnd, Sat_bind, Sat_noX, Sat_ok, Sat_ite, Sat_stuck, if_false_right, SatS_bindE, SatS_ite, SatS_nx, SatS_rt, SatS_stuck]
  repeat (first | rfl | (refine Sat_eq fun _ _ => ?_; try simp only [Sat_bind, Sat_noX, Sat_ok, Sat_ite, Sat_stuck, if_false_right, SatS_bindE, SatS_ite, SatS_nx, SatS_rt, SatS_stuck]))
@[simp ↓] theorem Sat_tfOr : SatX Z (tfOr c d sg st) QT = SatX Z (c sg st) fun b st => if b then QT true st else SatX Z (d sg st) QT := by
  simp only [tfOr, Sat_bind, Sat_noX, Sat_ok, Sat_ite, Sat_stuck, if_false_right, SatS_bindE, SatS_ite, SatS_nx, SatS_rt, SatS_stuck]
  repeat (first | rfl | (refine Sat_eq fun _ _ => ?_; try simp only [Sat_bind, Sat_noX, Sat_ok, Sat_ite, Sat_stuck, if_false_right, SatS_bindE, SatS_ite, SatS_nx, SatS_rt, SatS_stuck]))
@[simp ↓] theorem Sat_tfNot : SatX Z (tfNot c sg st) QT = SatX Z (c sg st) fun b st => QT (!b) st := by
  simp only [tfNot, Sat_bind, Sat_noX, Sat_ok, Sat_ite, Sat_stuck, if_false_right, SatS_bindE, SatS_ite, SatS_nx, SatS_rt, SatS_stuck]
  repeat (first | rfl | (refine Sat_eq fun _ _ => ?_; try simp only [Sat_bind, Sat_noX, Sat_ok, Sat_ite, Sat_stuck, if_false_right, SatS_bindE, SatS_ite, SatS_nx, SatS_rt, SatS_stuck]))
/-- by a value's truth -/
def truI (p : PV) (st : Store) (a b : Prop) : Prop := match truP p st with
  | some true => a
  | some false => b
  | none => False
@[simp] theorem truI_bl (b : Bool) (x y : Prop) : truI (.bl b) st x y = if b then x else y := by cases b <;> rfl
@[simp ↓] theorem Sat_fAnd : SatX Z (fAnd f g sg st) Q = SatX Z (f sg st) fun p st => truI p st (SatX Z (g sg st) Q) (Q p st) := by
  simp only [fAnd, Sat_bind]
  refine Sat_eq fun p st => ?_
  unfold truI
  split <;> rename_i e <;> simp [e]
@[simp ↓] theorem Sat_fOr : SatX Z (fOr f g sg st) Q = SatX Z (f sg st) fun p st => truI p st (Q p st) (SatX Z (g sg st) Q) := by
  simp only [fOr, Sat_bind]
  refine Sat_eq fun p st => ?_
  unfold truI
  split <;> rename_i e <;> simp [e]
@[simp ↓] theorem Sat_fNot : SatX Z (fNot f sg st) Q = SatX Z (f sg st) fun p st => SatX Z (match truP p st with | some b => .ok (.bl (!b)) st | none => .stuck) Q := by
  simp only [fNot, Sat_bind, Sat_noX, Sat_ok, Sat_ite, Sat_stuck, if_false_right, SatS_bindE, SatS_ite, SatS_nx, SatS_rt, SatS_stuck]
  repeat (first | rfl | (refine Sat_eq fun _ _ => ?_; try simp only [Sat_bind, Sat_noX, Sat_ok, Sat_ite, Sat_stuck, if_false_right, SatS_bindE, SatS_ite, SatS_nx, SatS_rt, SatS_stuck]))
@[simp ↓] theorem Sat_fIte : SatX Z (fIte c f g sg st) Q = SatX Z (c sg st) fun b st => if b then SatX Z (f sg st) Q else SatX Z (g sg st) Q := by
  simp only [fIte, Sat_bind, Sat_noX, Sat_ok, Sat_ite, Sat_stuck, if_false_right, SatS_bindE, SatS_ite, SatS_nx, SatS_rt, SatS_stuck]
  repeat (first | rfl | (refine Sat_eq fun _ _ => ?_; try simp only [Sat_bind, Sat_noX, Sat_ok, Sat_ite, Sat_stuck, if_false_right, SatS_bindE, SatS_ite, SatS_nx, SatS_rt, SatS_stuck]))
@[simp ↓] theorem Sat_tfIte {a b : FT} : SatX Z (tfIte c a b sg st) QT = SatX Z (c sg st) fun t st => if t then SatX Z (a sg st) QT else SatX Z (b sg st) QT := by
  simp only [tfIte, Sat_bind, Sat_noX, Sat_ok, Sat_ite, Sat_stuck, if_false_right, SatS_bindE, SatS_ite, SatS_nx, SatS_rt, SatS_stuck]
  repeat (first | rfl | (refine Sat_eq fun _ _ => ?_; try simp only [Sat_bind, Sat_noX, Sat_ok, Sat_ite, Sat_stuck, if_false_right, SatS_bindE, SatS_ite, SatS_nx, SatS_rt, SatS_stuck]))
@[simp ↓] theorem Sat_faNil : SatX Z (faNil sg st) QA = QA [] st := by
  simp only [faNil, Sat_bind, Sat_noX, Sat_ok, Sat_ite, Sat_stuck, if_false_right, SatS_bindE, SatS_ite, SatS_nx, SatS_rt, SatS_stuck]
  repeat (first | rfl | (refine Sat_eq fun _ _ => ?_; try simp only [Sat_bind, Sat_noX, Sat_ok, Sat_ite, Sat_stuck, if_false_right, SatS_bindE, SatS_ite, SatS_nx, SatS_rt, SatS_stuck]))
@[simp ↓] theorem Sat_faCons : SatX Z (faCons f fa sg st) QA = SatX Z (f sg st) fun p st => SatX Z (fa sg st) fun ps st => QA (p :: ps) st := by
  simp only [faCons, Sat_bind, Sat_noX, Sat_ok, Sat_ite, Sat_stuck, if_false_right, SatS_bindE, SatS_ite, SatS_nx, SatS_rt, SatS_stuck]
  repeat (first | rfl | (refine Sat_eq fun _ _ => ?_; try simp only [Sat_bind, Sat_noX, Sat_ok, Sat_ite, Sat_stuck, if_false_right, SatS_bindE, SatS_ite, SatS_nx, SatS_rt, SatS_stuck]))
@[simp ↓] theorem Sat_fTup : SatX Z (fTup fa sg st) Q = SatX Z (fa sg st) fun ps st => ps.length ≤ sizeLine ∧ Q (.tup ps) st := by
  simp only [fTup, Sat_bind, Sat_noX, Sat_ok, Sat_ite, Sat_stuck, if_false_right, SatS_bindE, SatS_ite, SatS_nx, SatS_rt, SatS_stuck]
  repeat (first | rfl | (refine Sat_eq fun _ _ => ?_; try simp only [Sat_bind, Sat_noX, Sat_ok, Sat_ite, Sat_stuck, if_false_right, SatS_bindE, SatS_ite, SatS_nx, SatS_rt, SatS_stuck]))
@[simp ↓] theorem Sat_fLst (bx : Bool) : SatX Z (fLst bx fa sg st) Q = SatX Z (fa sg st) fun ps st => ps.length ≤ sizeLine ∧ Q (newL bx ps st).1 (newL bx ps st).2 := by
  simp only [fLst, Sat_bind, Sat_noX, Sat_ok, Sat_ite, Sat_stuck, if_false_right, SatS_bindE, SatS_ite, SatS_nx, SatS_rt, SatS_stuck]
  repeat (first | rfl | (refine Sat_eq fun _ _ => ?_; try simp only [Sat_bind, Sat_noX, Sat_ok, Sat_ite, Sat_stuck, if_false_right, SatS_bindE, SatS_ite, SatS_nx, SatS_rt, SatS_stuck]))
@[simp ↓] theorem Sat_foNone : SatX Z (foNone sg st) QO = QO none st := by
  simp only [foNone, Sat_bind, Sat_noX, Sat_ok, Sat_ite, Sat_stuck, if_false_right, SatS_bindE, SatS_ite, SatS_nx, SatS_rt, SatS_stuck]
  repeat (first | rfl | (refine Sat_eq fun _ _ => ?_; try simp only [Sat_bind, Sat_noX, Sat_ok, Sat_ite, Sat_stuck, if_false_right, SatS_bindE, SatS_ite, SatS_nx, SatS_rt, SatS_stuck]))
@[simp ↓] theorem Sat_foSome : SatX Z (foSome f sg st) QO = SatX Z (f sg st) fun p st => SatX Z (match p with | .int i => .ok (some i) st | _ => .stuck) QO := by
  simp only [foSome, Sat_bind, Sat_noX, Sat_ok, Sat_ite, Sat_stuck, if_false_right, SatS_bindE, SatS_ite, SatS_nx, SatS_rt, SatS_stuck]
  repeat (first | rfl | (refine Sat_eq fun _ _ => ?_; try simp only [Sat_bind, Sat_noX, Sat_ok, Sat_ite, Sat_stuck, if_false_right, SatS_bindE, SatS_ite, SatS_nx, SatS_rt, SatS_stuck]))
@[simp ↓] theorem Sat_fSlc : SatX Z (fSlc f fl fh sg st) Q = SatX Z (f sg st) fun p st => SatX Z (fl sg st) fun l st => SatX Z (fh sg st) fun h st => SatX Z (lift (slcP p l h st) st) Q := by
  simp only [fSlc, Sat_bind, Sat_noX, Sat_ok, Sat_ite, Sat_stuck, if_false_right, SatS_bindE, SatS_ite, SatS_nx, SatS_rt, SatS_stuck]
  repeat (first | rfl | (refine Sat_eq fun _ _ => ?_; try simp only [Sat_bind, Sat_noX, Sat_ok, Sat_ite, Sat_stuck, if_false_right, SatS_bindE, SatS_ite, SatS_nx, SatS_rt, SatS_stuck]))
@[simp ↓] theorem Sat_fFrz : SatX Z (fFrz f sg st) Q = SatX Z (f sg st) fun p st => SatX Z (frzP p st) Q := by
  simp only [fFrz, Sat_bind, Sat_noX, Sat_ok, Sat_ite, Sat_stuck, if_false_right, SatS_bindE, SatS_ite, SatS_nx, SatS_rt, SatS_stuck]
  repeat (first | rfl | (refine Sat_eq fun _ _ => ?_; try simp only [Sat_bind, Sat_noX, Sat_ok, Sat_ite, Sat_stuck, if_false_right, SatS_bindE, SatS_ite, SatS_nx, SatS_rt, SatS_stuck]))
@[simp ↓] theorem Sat_gtName : SatX Z (gtName i p sg st) QG = QG (sg.set i (some p)) st := by
  simp only [gtName, Sat_bind, Sat_noX, Sat_ok, Sat_ite, Sat_stuck, if_false_right, SatS_bindE, SatS_ite, SatS_nx, SatS_rt, SatS_stuck]
  repeat (first | rfl | (refine Sat_eq fun _ _ => ?_; try simp only [Sat_bind, Sat_noX, Sat_ok, Sat_ite, Sat_stuck, if_false_right, SatS_bindE, SatS_ite, SatS_nx, SatS_rt, SatS_stuck]))
@[simp ↓] theorem Sat_gsNil : SatX Z (gsNil [] sg st) QG = QG sg st := by
  simp only [gsNil, Sat_bind, Sat_noX, Sat_ok, Sat_ite, Sat_stuck, if_false_right, SatS_bindE, SatS_ite, SatS_nx, SatS_rt, SatS_stuck]
  repeat (first | rfl | (refine Sat_eq fun _ _ => ?_; try simp only [Sat_bind, Sat_noX, Sat_ok, Sat_ite, Sat_stuck, if_false_right, SatS_bindE, SatS_ite, SatS_nx, SatS_rt, SatS_stuck]))
@[simp ↓] theorem Sat_gsCons {gs : List PV → Sig → Store → R Sig} {ps : List PV} : SatX Z (gsCons gt gs (p :: ps) sg st) QG = SatX Z (gt p sg st) fun sg st => SatX Z (gs ps sg st) QG := by
  simp only [gsCons, Sat_bind, Sat_noX, Sat_ok, Sat_ite, Sat_stuck, if_false_right, SatS_bindE, SatS_ite, SatS_nx, SatS_rt, SatS_stuck]
  repeat (first | rfl | (refine Sat_eq fun _ _ => ?_; try simp only [Sat_bind, Sat_noX, Sat_ok, Sat_ite, Sat_stuck, if_false_right, SatS_bindE, SatS_ite, SatS_nx, SatS_rt, SatS_stuck]))
@[simp ↓] theorem Sat_gtTup {gs : List PV → Sig → Store → R Sig} {xs : List PV} : SatX Z (gtTup n gs (.tup xs) sg st) QG = (xs.length = n ∧ SatX Z (gs xs sg st) QG) := by
  simp only [gtTup, Sat_bind, Sat_noX, Sat_ok, Sat_ite, Sat_stuck, if_false_right, SatS_bindE, SatS_ite, SatS_nx, SatS_rt, SatS_stuck]
  repeat (first | rfl | (refine Sat_eq fun _ _ => ?_; try simp only [Sat_bind, Sat_noX, Sat_ok, Sat_ite, Sat_stuck, if_false_right, SatS_bindE, SatS_ite, SatS_nx, SatS_rt, SatS_stuck]))
@[simp ↓] theorem Sat_gtSub : SatX Z (gtSub f g q sg st) QG = Sat (f sg st) fun a st => Sat (g sg st) fun i st => Sat (liftU sg (setP a i q st)) QG := by
  unfold gtSub
  rw [Sat_noX]
  exact (Sat_bind _ _ _).trans (Sat_eq fun _ _ => Sat_bind _ _ _)
@[simp ↓] theorem Sat_fiVal : SatX Z (fiVal f sg st) QA = SatX Z (f sg st) fun p st => SatX Z (frzP p st) fun p st => SatX Z (iterV p st) QA := by
  simp only [fiVal, Sat_bind, Sat_noX, Sat_ok, Sat_ite, Sat_stuck, if_false_right, SatS_bindE, SatS_ite, SatS_nx, SatS_rt, SatS_stuck]
  repeat (first | rfl | (refine Sat_eq fun _ _ => ?_; try simp only [Sat_bind, Sat_noX, Sat_ok, Sat_ite, Sat_stuck, if_false_right, SatS_bindE, SatS_ite, SatS_nx, SatS_rt, SatS_stuck]))
@[simp ↓] theorem Sat_fiRng1 : SatX Z (fiRng1 f sg st) QA = SatX Z (f sg st) fun p st => SatX Z (rngV [p] st) QA := by
  simp only [fiRng1, Sat_bind, Sat_noX, Sat_ok, Sat_ite, Sat_stuck, if_false_right, SatS_bindE, SatS_ite, SatS_nx, SatS_rt, SatS_stuck]
  repeat (first | rfl | (refine Sat_eq fun _ _ => ?_; try simp only [Sat_bind, Sat_noX, Sat_ok, Sat_ite, Sat_stuck, if_false_right, SatS_bindE, SatS_ite, SatS_nx, SatS_rt, SatS_stuck]))
@[simp ↓] theorem Sat_fiRng2 : SatX Z (fiRng2 f g sg st) QA = SatX Z (f sg st) fun p st => SatX Z (g sg st) fun q st => SatX Z (rngV [p, q] st) QA := by
  simp only [fiRng2, Sat_bind, Sat_noX, Sat_ok, Sat_ite, Sat_stuck, if_false_right, SatS_bindE, SatS_ite, SatS_nx, SatS_rt, SatS_stuck]
  repeat (first | rfl | (refine Sat_eq fun _ _ => ?_; try simp only [Sat_bind, Sat_noX, Sat_ok, Sat_ite, Sat_stuck, if_false_right, SatS_bindE, SatS_ite, SatS_nx, SatS_rt, SatS_stuck]))
@[simp ↓] theorem Sat_fiKeys : SatX Z (fiKeys f sg st) QA = SatX Z (f sg st) fun p st => SatX Z (keysV p st) QA := by
  simp only [fiKeys, Sat_bind, Sat_noX, Sat_ok, Sat_ite, Sat_stuck, if_false_right, SatS_bindE, SatS_ite, SatS_nx, SatS_rt, SatS_stuck]
  repeat (first | rfl | (refine Sat_eq fun _ _ => ?_; try simp only [Sat_bind, Sat_noX, Sat_ok, Sat_ite, Sat_stuck, if_false_right, SatS_bindE, SatS_ite, SatS_nx, SatS_rt, SatS_stuck]))
@[simp ↓] theorem Sat_fiEnum : SatX Z (fiEnum f sg st) QA = SatX Z (f sg st) fun p st => SatX Z (frzP p st) fun p st => SatX Z (enumV p st) QA := by
  simp only [fiEnum, Sat_bind, Sat_noX, Sat_ok, Sat_ite, Sat_stuck, if_false_right, SatS_bindE, SatS_ite, SatS_nx, SatS_rt, SatS_stuck]
  repeat (first | rfl | (refine Sat_eq fun _ _ => ?_; try simp only [Sat_bind, Sat_noX, Sat_ok, Sat_ite, Sat_stuck, if_false_right, SatS_bindE, SatS_ite, SatS_nx, SatS_rt, SatS_stuck]))
@[simp ↓] theorem Sat_fiZip : SatX Z (fiZip f g sg st) QA = SatX Z (f sg st) fun p st => SatX Z (g sg st) fun q st => SatX Z (frzP p st) fun p st => SatX Z (frzP q st) fun q st => SatX Z (zipV p q st) QA := by
  simp only [fiZip, Sat_bind, Sat_noX, Sat_ok, Sat_ite, Sat_stuck, if_false_right, SatS_bindE, SatS_ite, SatS_nx, SatS_rt, SatS_stuck]
  repeat (first | rfl | (refine Sat_eq fun _ _ => ?_; try simp only [Sat_bind, Sat_noX, Sat_ok, Sat_ite, Sat_stuck, if_false_right, SatS_bindE, SatS_ite, SatS_nx, SatS_rt, SatS_stuck]))
@[simp ↓] theorem Sat_ftYes : SatX Z (ftYes sg st) QT = QT true st := by
  simp only [ftYes, Sat_bind, Sat_noX, Sat_ok, Sat_ite, Sat_stuck, if_false_right, SatS_bindE, SatS_ite, SatS_nx, SatS_rt, SatS_stuck]
  repeat (first | rfl | (refine Sat_eq fun _ _ => ?_; try simp only [Sat_bind, Sat_noX, Sat_ok, Sat_ite, Sat_stuck, if_false_right, SatS_bindE, SatS_ite, SatS_nx, SatS_rt, SatS_stuck]))
@[simp ↓] theorem Sat_fCall (F : FF) : SatX Z (fCall F fa sg st) Q = SatX Z (fa sg st) fun ps st => SatX Z (F ps st) Q := by
  simp only [fCall, Sat_bind, Sat_noX, Sat_ok, Sat_ite, Sat_stuck, if_false_right, SatS_bindE, SatS_ite, SatS_nx, SatS_rt, SatS_stuck]
  repeat (first | rfl | (refine Sat_eq fun _ _ => ?_; try simp only [Sat_bind, Sat_noX, Sat_ok, Sat_ite, Sat_stuck, if_false_right, SatS_bindE, SatS_ite, SatS_nx, SatS_rt, SatS_stuck]))
@[simp ↓] theorem Sat_fcB (o : List PV → Store → Option (PV × Store)) : SatX Z (fcB o fa sg st) Q = SatX Z (fa sg st) fun ps st => SatX Z (liftS (o ps st)) Q := by
  simp only [fcB, Sat_bind, Sat_noX, Sat_ok, Sat_ite, Sat_stuck, if_false_right, SatS_bindE, SatS_ite, SatS_nx, SatS_rt, SatS_stuck]
  repeat (first | rfl | (refine Sat_eq fun _ _ => ?_; try simp only [Sat_bind, Sat_noX, Sat_ok, Sat_ite, Sat_stuck, if_false_right, SatS_bindE, SatS_ite, SatS_nx, SatS_rt, SatS_stuck]))
@[simp ↓] theorem Sat_fIsi (t : Ty) : SatX Z (fIsi t f sg st) Q = SatX Z (f sg st) fun p st => SatX Z (match tyP p st with | some c => .ok (.bl (isI c t)) st | none => .stuck) Q := by
  simp only [fIsi, Sat_bind, Sat_noX, Sat_ok, Sat_ite, Sat_stuck, if_false_right, SatS_bindE, SatS_ite, SatS_nx, SatS_rt, SatS_stuck]
  repeat (first | rfl | (refine Sat_eq fun _ _ => ?_; try simp only [Sat_bind, Sat_noX, Sat_ok, Sat_ite, Sat_stuck, if_false_right, SatS_bindE, SatS_ite, SatS_nx, SatS_rt, SatS_stuck]))
/-- an object's method -/
def mtO (mt : Nat → Option FF) (m : List Nat) (o : Option (Nat × List (List Nat × PV))) : Option FF := match o with
  | some (c, fs) => match lookF m fs, mt c with
    | none, some F => some F
    | _, _ => none
  | none => none
def mtI (o : Option FF) (P : FF → Prop) : Prop := match o with
  | some F => P F
  | none => False
@[simp] theorem mtI_some (F : FF) (P : FF → Prop) : mtI (some F) P = P F := rfl
@[simp ↓] theorem Sat_fMeth {mt : Nat → Option FF} {m : List Nat} : SatX Z (fMeth mt m f fa sg st) Q = SatX Z (f sg st) fun p st => mtI (mtO mt m (insAt p st)) fun F => SatX Z (fa sg st) fun ps st => SatX Z (F (p :: ps) st) Q := by
  simp only [fMeth, Sat_bind]
  refine Sat_eq fun p st => ?_
  unfold mtO mtI
  split
  · split <;> simp [Sat_bind, *]
  · simp [*]
@[simp ↓] theorem Sat_fBM {is : PV → Store → Bool} {o : PV → List PV → Store → Option (PV × Store)} : SatX Z (fBM is o f fa sg st) Q = SatX Z (f sg st) fun p st => is p st = true ∧ SatX Z (fa sg st) fun ps st => SatX Z (liftS (o p ps st)) Q := by
  simp only [fBM, Sat_bind, Sat_noX, Sat_ok, Sat_ite, Sat_stuck, if_false_right, SatS_bindE, SatS_ite, SatS_nx, SatS_rt, SatS_stuck]
  repeat (first | rfl | (refine Sat_eq fun _ _ => ?_; try simp only [Sat_bind, Sat_noX, Sat_ok, Sat_ite, Sat_stuck, if_false_right, SatS_bindE, SatS_ite, SatS_nx, SatS_rt, SatS_stuck]))
@[simp ↓] theorem Sat_fFld {l : List Nat} : SatX Z (fFld l f sg st) Q = SatX Z (f sg st) fun p st => SatX Z (match insAt p st with
  | some (_, fs) => match lookF l fs with
    | some z => .ok z st
    | none => .stuck
  | none => .stuck) Q := by
  simp only [fFld, Sat_bind, Sat_noX, Sat_ok, Sat_ite, Sat_stuck, if_false_right, SatS_bindE, SatS_ite, SatS_nx, SatS_rt, SatS_stuck]
  repeat (first | rfl | (refine Sat_eq fun _ _ => ?_; try simp only [Sat_bind, Sat_noX, Sat_ok, Sat_ite, Sat_stuck, if_false_right, SatS_bindE, SatS_ite, SatS_nx, SatS_rt, SatS_stuck]))
@[simp ↓] theorem Sat_fMake {F : FF} : SatX Z (fMake n F fa sg st) Q = SatX Z (fa sg st) fun ps st => SatX Z (noX (F (.ref st.length :: ps) (st ++ [.ins n []]))) fun z st' => SatX Z (match z with
  | .non => .ok (.ref st.length) st'
  | _ => .stuck) Q := by
  unfold fMake
  exact (Sat_bind _ _ _).trans (Sat_eq fun _ _ => Sat_bind _ _ _)
@[simp ↓] theorem Sat_fDNew (bx : Bool) : SatX Z (fDNew bx sg st) Q = Q (newD bx [] [] st).1 (newD bx [] [] st).2 := by
  simp only [fDNew, Sat_bind, Sat_noX, Sat_ok, Sat_ite, Sat_stuck, if_false_right, SatS_bindE, SatS_ite, SatS_nx, SatS_rt, SatS_stuck]
  repeat (first | rfl | (refine Sat_eq fun _ _ => ?_; try simp only [Sat_bind, Sat_noX, Sat_ok, Sat_ite, Sat_stuck, if_false_right, SatS_bindE, SatS_ite, SatS_nx, SatS_rt, SatS_stuck]))
@[simp ↓] theorem Sat_fDisp (bx : Bool) {prs : List (FE × FE)} : SatX Z (fDisp bx prs sg st) Q = SatX Z (fPs prs sg st) fun l st => l.length ≤ 15 ∧ SatX Z (match foldD l [] [] with
  | some (ks, vs) => .ok (newD bx ks vs st).1 (newD bx ks vs st).2
  | none => .stuck) Q := by
  simp only [fDisp, Sat_bind, Sat_noX, Sat_ok, Sat_ite, Sat_stuck, if_false_right, SatS_bindE, SatS_ite, SatS_nx, SatS_rt, SatS_stuck]
  repeat (first | rfl | (refine Sat_eq fun _ _ => ?_; try simp only [Sat_bind, Sat_noX, Sat_ok, Sat_ite, Sat_stuck, if_false_right, SatS_bindE, SatS_ite, SatS_nx, SatS_rt, SatS_stuck]))
  repeat (first | rfl | (refine Sat_eq fun _ _ => ?_; try simp only [Sat_bind, Sat_noX, Sat_ok, Sat_ite, Sat_stuck, if_false_right, SatS_bindE, SatS_ite, SatS_nx, SatS_rt, SatS_stuck]))
@[simp ↓] theorem Sat_turnC {ws : List Nat} {QC : Option PV → Store → Prop} : SatX Z (turnC ws gt c f sg p st) QC = Sat (gt p (wipeS sg ws) st) fun sg' st => Sat (c sg' st) fun b st => if b then Sat (f sg' st) fun q st => QC (some q) st else QC none st := by
  unfold turnC
  rw [Sat_noX]
  refine (Sat_bind _ _ _).trans (Sat_eq fun _ _ => (Sat_bind _ _ _).trans (Sat_eq fun b _ => ?_))
  cases b
  · exact Sat_ok _ _
  · exact (Sat_bind _ _ _).trans (Sat_eq fun _ _ => Sat_ok _ _)
@[simp ↓] theorem SatS_fsStuck : SatSX Z (fsStuck sg st) nx rt = False := by
  simp only [fsStuck, Sat_bind, Sat_noX, Sat_ok, Sat_ite, Sat_stuck, if_false_right, SatS_bindE, SatS_ite, SatS_nx, SatS_rt, SatS_stuck]
  repeat (first | rfl | (refine Sat_eq fun _ _ => ?_; try simp only [Sat_bind, Sat_noX, Sat_ok, Sat_ite, Sat_stuck, if_false_right, SatS_bindE, SatS_ite, SatS_nx, SatS_rt, SatS_stuck]))
@[simp ↓] theorem SatS_fsNil : SatSX Z (fsNil sg st) nx rt = nx sg st := by
  simp only [fsNil, Sat_bind, Sat_noX, Sat_ok, Sat_ite, Sat_stuck, if_false_right, SatS_bindE, SatS_ite, SatS_nx, SatS_rt, SatS_stuck]
  repeat (first | rfl | (refine Sat_eq fun _ _ => ?_; try simp only [Sat_bind, Sat_noX, Sat_ok, Sat_ite, Sat_stuck, if_false_right, SatS_bindE, SatS_ite, SatS_nx, SatS_rt, SatS_stuck]))
@[simp ↓] theorem SatS_fsSeq : SatSX Z (fsSeq u v sg st) nx rt = SatSX Z (u sg st) (fun sg st => SatSX Z (v sg st) nx rt) rt := by
  unfold fsSeq
  rw [SatS_seq]
@[simp ↓] theorem SatS_fsRet : SatSX Z (fsRet f sg st) nx rt = SatX Z (f sg st) rt := by
  simp only [fsRet, Sat_bind, Sat_noX, Sat_ok, Sat_ite, Sat_stuck, if_false_right, SatS_bindE, SatS_ite, SatS_nx, SatS_rt, SatS_stuck]
  repeat (first | rfl | (refine Sat_eq fun _ _ => ?_; try simp only [Sat_bind, Sat_noX, Sat_ok, Sat_ite, Sat_stuck, if_false_right, SatS_bindE, SatS_ite, SatS_nx, SatS_rt, SatS_stuck]))
@[simp ↓] theorem SatS_fsRetN : SatSX Z (fsRetN sg st) nx rt = rt .non st := by
  simp only [fsRetN, Sat_bind, Sat_noX, Sat_ok, Sat_ite, Sat_stuck, if_false_right, SatS_bindE, SatS_ite, SatS_nx, SatS_rt, SatS_stuck]
  repeat (first | rfl | (refine Sat_eq fun _ _ => ?_; try simp only [Sat_bind, Sat_noX, Sat_ok, Sat_ite, Sat_stuck, if_false_right, SatS_bindE, SatS_ite, SatS_nx, SatS_rt, SatS_stuck]))
@[simp ↓] theorem SatS_fsIf0 : SatSX Z (fsIf c u v sg st) nx rt = SatX Z (c sg st) fun b st => if b then SatSX Z (u sg st) nx rt else SatSX Z (v sg st) nx rt := by
  simp only [fsIf, Sat_bind, Sat_noX, Sat_ok, Sat_ite, Sat_stuck, if_false_right, SatS_bindE, SatS_ite, SatS_nx, SatS_rt, SatS_stuck]
  repeat (first | rfl | (refine Sat_eq fun _ _ => ?_; try simp only [Sat_bind, Sat_noX, Sat_ok, Sat_ite, Sat_stuck, if_false_right, SatS_bindE, SatS_ite, SatS_nx, SatS_rt, SatS_stuck]))
@[simp ↓] theorem SatS_fsDrop : SatSX Z (fsDrop f sg st) nx rt = SatX Z (f sg st) fun _ st => nx sg st := by
  simp only [fsDrop, Sat_bind, Sat_noX, Sat_ok, Sat_ite, Sat_stuck, if_false_right, SatS_bindE, SatS_ite, SatS_nx, SatS_rt, SatS_stuck]
  repeat (first | rfl | (refine Sat_eq fun _ _ => ?_; try simp only [Sat_bind, Sat_noX, Sat_ok, Sat_ite, Sat_stuck, if_false_right, SatS_bindE, SatS_ite, SatS_nx, SatS_rt, SatS_stuck]))
@[simp ↓] theorem SatS_fsAsg : SatSX Z (fsAsg f gt sg st) nx rt = SatX Z (f sg st) fun p st => SatX Z (gt p sg st) fun sg st => nx sg st := by
  simp only [fsAsg, Sat_bind, Sat_noX, Sat_ok, Sat_ite, Sat_stuck, if_false_right, SatS_bindE, SatS_ite, SatS_nx, SatS_rt, SatS_stuck]
  repeat (first | rfl | (refine Sat_eq fun _ _ => ?_; try simp only [Sat_bind, Sat_noX, Sat_ok, Sat_ite, Sat_stuck, if_false_right, SatS_bindE, SatS_ite, SatS_nx, SatS_rt, SatS_stuck]))
@[simp ↓] theorem SatS_fsPar {is : List Nat} : SatSX Z (fsPar is fa sg st) nx rt = SatX Z (fa sg st) fun ps st => ps.length = is.length ∧ nx ((is.zip ps).foldl (fun sg ip => sg.set ip.1 (some ip.2)) sg) st := by
  simp only [fsPar, Sat_bind, Sat_noX, Sat_ok, Sat_ite, Sat_stuck, if_false_right, SatS_bindE, SatS_ite, SatS_nx, SatS_rt, SatS_stuck]
  repeat (first | rfl | (refine Sat_eq fun _ _ => ?_; try simp only [Sat_bind, Sat_noX, Sat_ok, Sat_ite, Sat_stuck, if_false_right, SatS_bindE, SatS_ite, SatS_nx, SatS_rt, SatS_stuck]))
@[simp ↓] theorem SatS_fsFor : SatSX Z (fsFor fa gt u sg st) nx rt = SatX Z (fa sg st) fun items st => SatSX Z (forL gt u items sg st) nx rt := by
  simp only [fsFor, Sat_bind, Sat_noX, Sat_ok, Sat_ite, Sat_stuck, if_false_right, SatS_bindE, SatS_ite, SatS_nx, SatS_rt, SatS_stuck]
  repeat (first | rfl | (refine Sat_eq fun _ _ => ?_; try simp only [Sat_bind, Sat_noX, Sat_ok, Sat_ite, Sat_stuck, if_false_right, SatS_bindE, SatS_ite, SatS_nx, SatS_rt, SatS_stuck]))
@[simp ↓] theorem SatS_fsFld {ok : Nat → Bool} {l : List Nat} : SatSX Z (fsFld ok l f g sg st) nx rt = SatX Z (f sg st) fun p st => SatX Z (g sg st) fun q st => SatSX Z (match setF ok l q p st with
  | some st => .nx sg st
  | none => .stuck) nx rt := by
  simp only [fsFld, Sat_bind, Sat_noX, Sat_ok, Sat_ite, Sat_stuck, if_false_right, SatS_bindE, SatS_ite, SatS_nx, SatS_rt, SatS_stuck]
  repeat (first | rfl | (refine Sat_eq fun _ _ => ?_; try simp only [Sat_bind, Sat_noX, Sat_ok, Sat_ite, Sat_stuck, if_false_right, SatS_bindE, SatS_ite, SatS_nx, SatS_rt, SatS_stuck]))
/-- x.l op= p -/
def fldAug (ok : Nat → Bool) (l : List Nat) (op : PySem.Operator) (q p : PV) (st : Store) : Option Store := match insAt q st with
  | some (_, fs) => match lookF l fs with
    | some z => match augP op z p st with
      | some y => setF ok l q y st
      | none => none
    | none => none
  | none => none
def stI (o : Option Store) (P : Store → Prop) : Prop := match o with
  | some st => P st
  | none => False
@[simp] theorem stI_some (P : Store → Prop) : stI (some st) P = P st := rfl
@[simp ↓] theorem SatS_fsFldAugC {ok : Nat → Bool} {l : List Nat} {op : PySem.Operator} {z : PV} : SatSX Z (fsFldAug ok l op (fC z) g sg st) nx rt = SatX Z (g sg st) fun q st => stI (fldAug ok l op q z st) fun st => nx sg st := by
  have e1 : fsFldAug ok l op (fC z) g sg st = bindE (g sg st) sg fun q st => match insAt q st with
    | some (c, fs) => match lookF l fs with
      | some y => match augP op y z st, insAt q st with
        | some y, some (c', _) => if c' = c then match setF ok l q y st with
          | some st => .nx sg st
          | none => .stuck else .stuck
        | _, _ => .stuck
      | none => .stuck
    | none => .stuck := rfl
  rw [e1, SatS_bindE]
  refine Sat_eq fun q st => ?_
  unfold fldAug stI
  cases hi : insAt q st with
  | none => simp
  | some cf =>
    obtain ⟨c, fs⟩ := cf
    cases hl : lookF l fs with
    | none => simp [hl]
    | some y =>
      cases ha : augP op y z st with
      | none => simp [hl, ha]
      | some w =>
        simp only [hl, ha, if_true]
        cases hs : setF ok l q w st with
        | none => simp
        | some s2 => simp
@[simp ↓] theorem SatS_fsAug {op : PySem.Operator} : SatSX Z (fsAug i op f sg st) nx rt = SatSX Z (match sg[i]? with
  | some (some p) => bindE (f sg st) sg fun q st => match augP op p q st with
    | some z => .nx (sg.set i (some z)) st
    | none => .stuck
  | _ => .stuck) nx rt := rfl
end
@[simp] theorem lift_some (p : PV) : lift (some p) st = .ok p st := rfl
@[simp] theorem lift_none : lift none st = .stuck := rfl
@[simp] theorem liftS_some (p : PV) : liftS (some (p, st)) = .ok p st := rfl
@[simp] theorem liftS_none : liftS none = .stuck := rfl
@[simp] theorem liftU_some : liftU sg (some st) = .ok sg st := rfl
@[simp] theorem liftU_none : liftU sg none = .stuck := rfl
@[simp] theorem lift_if {k : Prop} [Decidable k] (z : PV) : lift (if k then some z else none) st = if k then .ok z st else .stuck := by split <;> rfl
@[simp] theorem liftS_if {k : Prop} [Decidable k] (z : PV × Store) : liftS (if k then some z else none) = if k then .ok z.1 z.2 else .stuck := by split <;> rfl
@[simp] theorem startS_ap (n : Nat) (ps : List PV) : startS n ps = ps.map some ++ List.replicate (n - ps.length) none := rfl
@[simp] theorem newL_ap (bx : Bool) (xs : List PV) : newL bx xs st = if bx then (.ref st.length, st ++ [.lst xs]) else (.lst xs, st) := rfl
@[simp] theorem newD_ap (bx : Bool) (ks vs : List PV) : newD bx ks vs st = if bx then (.ref st.length, st ++ [.dic ks vs]) else (.dic ks vs, st) := rfl
@[simp ↓] theorem Sat_fPs_nil {Q : List (PV × PV) → Store → Prop} : SatX Z (fPs [] sg st) Q = Q [] st := by simp only [fPs, Sat_ok]
@[simp ↓] theorem Sat_fPs_cons (f g : FE) (r : List (FE × FE)) {Q : List (PV × PV) → Store → Prop} : SatX Z (fPs ((f, g) :: r) sg st) Q = SatX Z (f sg st) fun a st => SatX Z (g sg st) fun b st => SatX Z (fPs r sg st) fun l st => Q ((a, b) :: l) st := by
  simp only [fPs, Sat_bind]
  repeat (first | rfl | (refine Sat_eq fun _ _ => ?_; try simp only [Sat_bind, Sat_ok]))
@[simp] theorem wipeS_nil : wipeS sg [] = sg := rfl
@[simp] theorem wipeS_cons (v : Nat) (vs : List Nat) : wipeS sg (v :: vs) = (wipeS sg vs).set v none := rfl
@[simp] theorem frzP_tup (xs : List PV) : frzP (.tup xs) st = .ok (.tup xs) st := rfl
@[simp] theorem frzP_lst (xs : List PV) : frzP (.lst xs) st = .ok (.lst xs) st := rfl
@[simp] theorem frzP_str (xs : List Nat) : frzP (.str xs) st = .ok (.str xs) st := rfl
@[simp] theorem frzP_scr (xs : List PV) : frzP (.scr xs) st = .ok (.scr xs) st := rfl
theorem frzP_ref {n : Nat} {xs : List PV} (h : st[n]? = some (.lst xs)) : frzP (.ref n) st = .ok (.lst xs) (st.set n .dead) := by simp [frzP, h]
@[simp] theorem iterV_tup (xs : List PV) : iterV (.tup xs) st = .ok xs st := rfl
@[simp] theorem iterV_lst (xs : List PV) : iterV (.lst xs) st = .ok xs st := rfl
@[simp] theorem iterV_scr (xs : List PV) : iterV (.scr xs) st = .ok xs st := rfl
@[simp] theorem iterV_str (xs : List Nat) : iterV (.str xs) st = .ok (chrs xs) st := rfl
@[simp] theorem addP_int (i j : Int) : addP (.int i) (.int j) st = some (.int (i + j)) := rfl
@[simp] theorem subP_int (i j : Int) : subP (.int i) (.int j) st = some (.int (i - j)) := rfl
@[simp] theorem mulP_int (i j : Int) : mulP (.int i) (.int j) st = if (-(2 ^ 64) < i ∧ i < 2 ^ 64) ∨ (-(2 ^ 64) < j ∧ j < 2 ^ 64) then some (.int (i * j)) else none := rfl
@[simp] theorem modP_int (i j : Int) : modP (.int i) (.int j) st = if 0 < j then some (.int (i % j)) else none := rfl
@[simp] theorem divP_int (i j : Int) : divP (.int i) (.int j) st = if 0 < j ∧ j < 1073741824 then some (.int (i / j)) else none := rfl
@[simp] theorem truP_bl (b : Bool) : truP (.bl b) st = some b := rfl
@[simp] theorem truP_int (i : Int) : truP (.int i) st = some (i != 0) := rfl
@[simp] theorem truP_str (a : List Nat) : truP (.str a) st = some (!a.isEmpty) := rfl
@[simp] theorem truP_non : truP .non st = some false := rfl
@[simp] theorem truP_tup (xs : List PV) : truP (.tup xs) st = some (!xs.isEmpty) := rfl
@[simp] theorem truP_lst (xs : List PV) : truP (.lst xs) st = some (!xs.isEmpty) := rfl
@[simp] theorem tyP_non : tyP .non st = some .non := rfl
@[simp] theorem tyP_bl (b : Bool) : tyP (.bl b) st = some .bool := rfl
@[simp] theorem tyP_int (i : Int) : tyP (.int i) st = some .int := rfl
@[simp] theorem tyP_str (a : List Nat) : tyP (.str a) st = some .str := rfl
@[simp] theorem tyP_tup (xs : List PV) : tyP (.tup xs) st = some .tuple := rfl
@[simp] theorem tyP_lst (xs : List PV) : tyP (.lst xs) st = some .list := rfl
@[simp] theorem tyP_dic (xs ys : List PV) : tyP (.dic xs ys) st = some .dict := rfl
@[simp] theorem intB_int (i : Int) : intB [.int i] st = some (.int i, st) := rfl
@[simp] theorem rng1_int (i : Int) : rngV [.int i] st = if -(2 ^ 62) ≤ i ∧ i < 2 ^ 62 then .ok (rngL 0 i.toNat) st else .stuck := rfl
@[simp] theorem R_bind_ok {β : Type} (a : α) (f : α → Store → R β) : (R.ok a st).bind f = f a st := rfl
@[simp] theorem R_bind_stuck {β : Type} (f : α → Store → R β) : (R.stuck : R α).bind f = .stuck := rfl
@[simp] theorem bindE_ok (a : α) (k : α → Store → SR) : bindE (.ok a st) sg k = k a st := rfl
@[simp] theorem bindE_stuck (k : α → Store → SR) : bindE (.stuck : R α) sg k = .stuck := rfl
@[simp] theorem seqR_nx (v : FS) : seqR (.nx sg st) v = v sg st := rfl
@[simp] theorem seqR_rt (p : PV) (v : FS) : seqR (.rt p st) v = .rt p st := rfl
@[simp] theorem seqR_stuck (v : FS) : seqR .stuck v = .stuck := rfl
@[simp ↓] theorem SatS_forL_nil (g : FG) (body : FS) {nx : Sig → Store → Prop} {rt : PV → Store → Prop} : SatSX Z (forL g body [] sg st) nx rt = nx sg st := by simp only [forL, SatS_nx]
theorem SatS_forL_cons {g : FG} {body : FS} {p : PV} {ps : List PV} {nx : Sig → Store → Prop} {rt : PV → Store → Prop} (h : SatX Z (g p sg st) fun sg st => SatSX Z (body sg st) (fun sg st => SatSX Z (forL g body ps sg st) nx rt) rt) : SatSX Z (forL g body (p :: ps) sg st) nx rt := by
  unfold forL
  rw [SatS_bindE]
  refine h.mono fun sg1 st1 k => ?_
  cases e : body sg1 st1 with
  | nx sg2 st2 => rw [e, SatS_nx] at k; exact k
  | rt p st2 => rw [e, SatS_rt] at k; simpa using k
  | ex x sg2 st2 => rw [e, SatS_ex] at k; simpa using k
  | bk _ _ => rw [e, SatS_bk] at k; exact k.elim
  | ct _ _ => rw [e, SatS_ct] at k; exact k.elim
  | stuck => rw [e, SatS_stuck] at k; exact k.elim
@[simp] theorem ltC_int (i j : Int) : ltC (.int i) (.int j) st = some (.bl (decide (i < j))) := rfl
@[simp] theorem leC_int (i j : Int) : leC (.int i) (.int j) st = some (.bl (decide (i ≤ j))) := rfl
@[simp] theorem gtC_int (i j : Int) : gtC (.int i) (.int j) st = some (.bl (decide (j < i))) := rfl
@[simp] theorem geC_int (i j : Int) : geC (.int i) (.int j) st = some (.bl (decide (j ≤ i))) := rfl
@[simp] theorem idxP_lst (xs : List PV) (q : PV) : idxP (.lst xs) q st = match q with | .int i => L2.atI xs i | _ => none := rfl
@[simp] theorem idxP_tup (xs : List PV) (q : PV) : idxP (.tup xs) q st = match q with | .int i => L2.atI xs i | _ => none := rfl
@[simp] theorem idxP_str (a : List Nat) (i : Int) : idxP (.str a) (.int i) st = (L2.atI a i).map fun c => .str [c] := rfl
theorem idxP_ref {n : Nat} {xs : List PV} (h : st[n]? = some (.lst xs)) (i : Int) : idxP (.ref n) (.int i) st = L2.atI xs i := by simp [idxP, idxQ, asQ, asR, asL, h]
theorem idxP_dic {n : Nat} {ks vs : List PV} (h : st[n]? = some (.dic ks vs)) (q : PV) : idxP (.ref n) q st = (keyOf q).bind fun _ => lookD q ks vs := by simp [idxP, idxQ, asQ, asR, asL, asD, h]
@[simp] theorem lenB_lst (xs : List PV) : lenB [.lst xs] st = some (.int xs.length, st) := rfl
@[simp] theorem lenB_tup (xs : List PV) : lenB [.tup xs] st = some (.int xs.length, st) := rfl
@[simp] theorem lenB_str (xs : List Nat) : lenB [.str xs] st = some (.int xs.length, st) := rfl
theorem lenB_ref {n : Nat} {xs : List PV} (h : st[n]? = some (.lst xs)) : lenB [.ref n] st = some (.int xs.length, st) := by simp [lenB, asQ, asR, asL, h]
theorem setP_ref {n : Nat} {xs : List PV} (h : st[n]? = some (.lst xs)) (i : Int) (v : PV) : setP (.ref n) (.int i) v st = (ixN xs.length i).map fun m => st.set n (.lst (xs.set m v)) := by simp [setP, h]
theorem setP_dic {n : Nat} {ks vs : List PV} (h : st[n]? = some (.dic ks vs)) (q v : PV) (hz : ks.length < sizeLine) : setP (.ref n) q v st = (keyOf q).map fun _ => st.set n (.dic (putDk q ks) (putDv q v ks vs)) := by simp [setP, h, hz]
@[simp] theorem ixN_ap (n : Nat) (i : Int) : L2.ixN n i = if 0 ≤ i then (if i < n then some i.toNat else none) else if -(n : Int) ≤ i then some (i + n).toNat else none := rfl
section
variable {α : Type} {x y z u v : α} {r : List α}
@[simp] theorem atI_0 : L2.atI (x :: r) 0 = some x := by simp [L2.atI]
@[simp] theorem atI_1 : L2.atI (x :: y :: r) 1 = some y := by
  have h : (1 : Int) < (r.length : Int) + 1 + 1 := by omega
  simp [L2.atI, h]
@[simp] theorem atI_2 : L2.atI (x :: y :: z :: r) 2 = some z := by
  have h : (2 : Int) < (r.length : Int) + 1 + 1 + 1 := by omega
  simp [L2.atI, h]
@[simp] theorem atI_3 : L2.atI (x :: y :: z :: u :: r) 3 = some u := by
  have h : (3 : Int) < (r.length : Int) + 1 + 1 + 1 + 1 := by omega
  simp [L2.atI, h]
@[simp] theorem atI_4 : L2.atI (x :: y :: z :: u :: v :: r) 4 = some v := by
  have h : (4 : Int) < (r.length : Int) + 1 + 1 + 1 + 1 + 1 := by omega
  simp [L2.atI, h]
end
@[simp] theorem asR_lst (xs : List PV) : asR (.lst xs) st = some xs := rfl
@[simp] theorem asR_scr (xs : List PV) : asR (.scr xs) st = some xs := rfl
@[simp] theorem asQ_lst (xs : List PV) : asQ (.lst xs) st = some xs := rfl
@[simp] theorem asQ_scr (xs : List PV) : asQ (.scr xs) st = some xs := rfl
@[simp] theorem asQ_tup (xs : List PV) : asQ (.tup xs) st = some xs := rfl
theorem asR_ref {n : Nat} {xs : List PV} (h : st[n]? = some (.lst xs)) : asR (.ref n) st = some xs := by simp [asR, asL, h]
theorem asQ_ref {n : Nat} {xs : List PV} (h : st[n]? = some (.lst xs)) : asQ (.ref n) st = some xs := by simp [asQ, asR, asL, h]
theorem idxP_set {n : Nat} {xs : List PV} (h : n < st.length) (i : Int) : idxP (.ref n) (.int i) (st.set n (.lst xs)) = L2.atI xs i := idxP_ref (List.getElem?_set_self h) i
theorem lenB_set {n : Nat} {xs : List PV} (h : n < st.length) : lenB [.ref n] (st.set n (.lst xs)) = some (.int xs.length, st.set n (.lst xs)) := lenB_ref (List.getElem?_set_self h)
theorem setP_set {n : Nat} {xs : List PV} (h : n < st.length) (i : Int) (v : PV) : setP (.ref n) (.int i) v (st.set n (.lst xs)) = (ixN xs.length i).map fun m => st.set n (.lst (xs.set m v)) := by rw [setP_ref (List.getElem?_set_self h)]; simp
@[simp] theorem noX_ok (a : α) : noX (.ok a st) = .ok a st := rfl
@[simp] theorem noX_stuck : noX (.stuck : R α) = .stuck := rfl
theorem set_get {st : Store} {n : Nat} {c c0 : Cell} (h : st[n]? = some c0) : (st.set n c)[n]? = some c := List.getElem?_set_self (List.getElem?_eq_some_iff.mp h).1
theorem atI_ints {xs : List Int} {a : Int} (h0 : 0 ≤ a) (h1 : a < xs.length) : ∃ x, (L2.ixN (xs.map PV.int).length a).bind (fun j => (xs.map PV.int)[j]?) = some (.int x) := by
  have hl : a.toNat < xs.length := by omega
  refine ⟨xs[a.toNat], ?_⟩
  have e : L2.ixN (xs.map PV.int).length a = some a.toNat := by
    unfold L2.ixN
    rw [if_pos h0, if_pos (by rw [List.length_map]; exact h1)]
  rw [e]
  simp [hl]
end
end Pv
namespace Pv
open PySem L2
theorem Sat_fComp {ws : List Nat} {fi : FA} {g : FG} {ft : FT} {f : FE} {sg : Sig} {st : Store} {Q : PV → Store → Prop}
    (h : SatX Z (fi sg st) fun items st1 => items.length ≤ sizeLine ∧ SatX Z (compL (turnC ws g ft f sg) items st1) fun ys st2 => Q (.lst ys) st2) : SatX Z (fComp false ws fi g ft f sg st) Q := by
  unfold fComp
  rw [Sat_bind]
  refine h.mono fun items st1 ⟨h1, h2⟩ => ?_
  rw [if_pos h1, Sat_bind]
  exact h2.mono fun ys st2 k => by rw [Sat_ok]; exact k
theorem Sat_map {body : PV → Store → R (Option PV)} {φ : PV → PV} {Q : List PV → Store → Prop} {st : Store} : ∀ (ps : List PV), (∀ p ∈ ps, Sat (body p st) fun o st' => o = some (φ p) ∧ st' = st) → Q (ps.map φ) st → SatX Z (compL body ps st) Q := fun ps h q => by
  refine (Sat_comp (body := body) (Q := fun ys st' => ys = ps.map φ ∧ st' = st) (fun acc l st' => acc ++ l.map φ = ps.map φ ∧ st' = st ∧ ∀ p ∈ l, p ∈ ps) (fun acc st' ⟨e, e2, _⟩ => ⟨by simpa using e, e2⟩) (fun acc p l st' ⟨e, e2, hm⟩ => ?_) ps [] st ⟨rfl, rfl, fun _ h => h⟩).mono fun ys st' ⟨e1, e2⟩ => ?_
  · subst e2
    refine (h p (hm p List.mem_cons_self)).mono fun o st2 ⟨e3, e4⟩ => ⟨?_, e4, fun q hq => hm q (List.mem_cons_of_mem _ hq)⟩
    subst e3
    simpa using e
  · have e1 : ys = ps.map φ := by simpa using e1
    subst e1; subst e2; exact q
theorem Sat_filter {body : PV → Store → R (Option PV)} {c : PV → Bool} {φ : PV → PV} {Q : List PV → Store → Prop} {st : Store} : ∀ (ps : List PV), (∀ p ∈ ps, Sat (body p st) fun o st' => o = (if c p then some (φ p) else none) ∧ st' = st) → Q ((ps.filter c).map φ) st → SatX Z (compL body ps st) Q := fun ps h q => by
  refine (Sat_comp (body := body) (Q := fun ys st' => ys = (ps.filter c).map φ ∧ st' = st) (fun acc l st' => acc ++ (l.filter c).map φ = (ps.filter c).map φ ∧ st' = st ∧ ∀ p ∈ l, p ∈ ps) (fun acc st' ⟨e, e2, _⟩ => ⟨by simpa using e, e2⟩) (fun acc p l st' ⟨e, e2, hm⟩ => ?_) ps [] st ⟨rfl, rfl, fun _ h => h⟩).mono fun ys st' ⟨e1, e2⟩ => ?_
  · subst e2
    refine (h p (hm p List.mem_cons_self)).mono fun o st2 ⟨e3, e4⟩ => ⟨?_, e4, fun q hq => hm q (List.mem_cons_of_mem _ hq)⟩
    subst e3
    by_cases hc : c p = true
    · simp only [hc, if_true, List.filter_cons_of_pos, List.map_cons, Option.toList_some] at e ⊢
      simpa using e
    · have hc : c p = false := by simpa using hc
      simp only [hc, List.filter_cons_of_neg, Bool.false_eq_true, if_false, not_false_eq_true, Option.toList_none, List.append_nil] at e ⊢
      exact e
  · have e1 : ys = (ps.filter c).map φ := by simpa using e1
    subst e1; subst e2; exact q
end Pv
namespace Pv
open PySem L2
section
variable {st : Store}
theorem eqP_str (n : Nat) (a b : List Nat) : eqP (n + 1) (.str a) (.str b) = some (a == b) := by rw [eqP]
theorem eqP_int (n : Nat) (a b : Int) : eqP (n + 1) (.int a) (.int b) = some (a == b) := by rw [eqP]
theorem eqP_bl (n : Nat) (a b : Bool) : eqP (n + 1) (.bl a) (.bl b) = some (a == b) := by rw [eqP]
theorem eqB_str (a b : List Nat) : eqB (.str a) (.str b) st = some (a == b) := by unfold eqB; exact eqP_str 199 a b
theorem eqB_int (a b : Int) : eqB (.int a) (.int b) st = some (a == b) := by unfold eqB; exact eqP_int 199 a b
theorem eqB_bl (a b : Bool) : eqB (.bl a) (.bl b) st = some (a == b) := by unfold eqB; exact eqP_bl 199 a b
@[simp] theorem eqC_str (a b : List Nat) : eqC (.str a) (.str b) st = some (.bl (a == b)) := by rw [eqC, eqB_str, Option.map_some]
@[simp] theorem neC_str (a b : List Nat) : neC (.str a) (.str b) st = some (.bl (!(a == b))) := by rw [neC, eqB_str, Option.map_some]
@[simp] theorem eqC_int (a b : Int) : eqC (.int a) (.int b) st = some (.bl (a == b)) := by rw [eqC, eqB_int, Option.map_some]
@[simp] theorem neC_int (a b : Int) : neC (.int a) (.int b) st = some (.bl (!(a == b))) := by rw [neC, eqB_int, Option.map_some]
@[simp] theorem eqC_bl (a b : Bool) : eqC (.bl a) (.bl b) st = some (.bl (a == b)) := by rw [eqC, eqB_bl, Option.map_some]
@[simp] theorem neC_bl (a b : Bool) : neC (.bl a) (.bl b) st = some (.bl (!(a == b))) := by rw [neC, eqB_bl, Option.map_some]
@[simp] theorem inC_chr (c : Nat) (b : List Nat) : inC (.str [c]) (.str b) st = some (.bl (b.contains c)) := rfl
@[simp] theorem ninC_chr (c : Nat) (b : List Nat) : ninC (.str [c]) (.str b) st = some (.bl (!b.contains c)) := rfl
theorem boolL_map {α : Type} (f : α → Bool) : ∀ l : List α, boolL (l.map fun x => PV.bl (f x)) = some (l.map f)
  | [] => rfl
  | x :: r => by
    have ih := boolL_map f r
    simp [boolL, ih]
theorem allB_map {α : Type} (f : α → Bool) (l : List α) : allB [.lst (l.map fun x => PV.bl (f x))] st = some (.bl (l.all f), st) := by
  simp [allB, boolL_map]
end
end Pv
namespace Pv
open PySem L2
theorem SatS_whileF {c : FT} {body : FS} {nx : Sig → Store → Prop} {rt : PV → Store → Prop} {sg : Sig} {st : Store} (I : Nat → Sig → Store → Prop) (n : Nat) (hn : n < 1000000000) (hi : I n sg st)
    (h : ∀ n sg st, I n sg st → SatX Z (c sg st) fun b st => if b then SatSX Z (body sg st) (fun sg st => ∃ m, m < n ∧ I m sg st) rt else nx sg st) : SatSX Z (fsWhile c body sg st) nx rt :=
  SatS_while I h fuelW n sg st hn hi
theorem set_self {st : Store} {n : Nat} {c : Cell} (h : st[n]? = some c) : st.set n c = st := by
  refine List.ext_getElem? fun k => ?_
  by_cases e : n = k
  · subst e
    rw [List.getElem?_set_self (List.getElem?_eq_some_iff.mp h).1, h]
  · rw [List.getElem?_set_ne e]
/-- all cells but n stay; more may come -/
def Frn (n : Nat) (st st' : Store) : Prop := st.length ≤ st'.length ∧ ∀ k, k ≠ n → k < st.length → st'[k]? = st[k]?
theorem Frn.refl (n : Nat) (st : Store) : Frn n st st := ⟨Nat.le_refl _, fun _ _ _ => rfl⟩
theorem Frn.trans {n : Nat} {a b c : Store} (h : Frn n a b) (k : Frn n b c) : Frn n a c := ⟨Nat.le_trans h.1 k.1, fun j h0 h1 => (k.2 j h0 (Nat.lt_of_lt_of_le h1 h.1)).trans (h.2 j h0 h1)⟩
theorem Frn.set (n : Nat) (st : Store) (c : Cell) : Frn n st (st.set n c) := ⟨by simp, fun k h0 _ => by rw [List.getElem?_set_ne (Ne.symm h0)]⟩
theorem Frn.app (n : Nat) (st : Store) (c : Cell) : Frn n st (st ++ [c]) := ⟨by simp, fun k _ h => List.getElem?_append_left h⟩
theorem Frn.get {n : Nat} {st st' : Store} (h : Frn n st st') {k : Nat} {c : Cell} (h0 : k ≠ n) (e : st[k]? = some c) : st'[k]? = some c := (h.2 k h0 (List.getElem?_eq_some_iff.mp e).1).trans e
theorem app_new (st : Store) (c : Cell) : (st ++ [c])[st.length]? = some c := by simp
end Pv
namespace Pv
open PySem L2
section
variable {st : Store} {n : Nat} {xs : List PV}
theorem isLst_ref (h : st[n]? = some (.lst xs)) : isLst (.ref n) st = true := by simp [isLst, h]
theorem appM_ref (h : st[n]? = some (.lst xs)) (hz : xs.length < sizeLine) (q : PV) : appM (.ref n) [q] st = some (.non, st.set n (.lst (xs ++ [q]))) := by simp [appM, h, hz]
theorem lst_set {k : Nat} {c : Cell} {c0 : Option Cell} (h : st[k]? = c0) (hk : n ≠ k) : (st.set n c)[k]? = c0 := by rw [List.getElem?_set_ne hk]; exact h
end
end Pv
namespace Pv
open PySem L2
section
variable {A B : FS} {c : FT} {sg : Sig} {st : Store} {nx : Sig → Store → Prop} {rt : PV → Store → Prop}
theorem SatS_then (h : SatSX Z (A sg st) (fun sg st => SatSX Z (B sg st) nx rt) rt) : SatSX Z (fsSeq A B sg st) nx rt := by
  show SatSX Z (seqR (A sg st) B) nx rt
  rw [SatS_seq]
  exact h
theorem SatS_fsIf {u v : FS} (h : SatX Z (c sg st) fun b st => SatSX Z (if b then u sg st else v sg st) nx rt) : SatSX Z (fsIf c u v sg st) nx rt := by
  show SatSX Z (bindE (c sg st) sg fun b st => if b then u sg st else v sg st) nx rt
  rw [SatS_bindE]
  exact h
end
end Pv
namespace Pv
open PySem L2
section
variable {Z : Exc → Store → Prop} {sg : Sig} {st : Store} {nx : Sig → Store → Prop} {rt : PV → Store → Prop} {f : FE} {u : FS} {c : Nat} {l : List (Nat × Bool)} {p : PV}
@[simp ↓] theorem SatS_fsRaise : SatSX Z (fsRaise c f sg st) nx rt = SatX Z (f sg st) fun _ st => Z ⟨c, none⟩ st := by
  unfold fsRaise
  rw [SatS_bindE]
  exact Sat_eq fun _ _ => SatS_ex _ _ _
theorem SatS_fsTry (h : SatSX (fun x st' => l.lookup x.c = some true ∧ rt p st') (u sg st) nx rt) : SatSX Z (fsTry l u p sg st) nx rt := by
  obtain ⟨h⟩ := h
  unfold fsTry
  cases e : u sg st with
  | nx sg1 st1 => rw [e] at h; rw [SatS_nx]; exact h
  | rt p1 st1 => rw [e] at h; rw [SatS_rt]; exact h
  | ex x sg1 st1 =>
    rw [e] at h
    have h : l.lookup x.c = some true ∧ rt p st1 := h
    simp only [h.1, SatS_rt]
    exact h.2
  | bk sg1 st1 => rw [e] at h; exact h.elim
  | ct sg1 st1 => rw [e] at h; exact h.elim
  | stuck => rw [e] at h; exact h.elim
end
end Pv
namespace Pv
open PySem L2
theorem Sat.to {α : Type} {Z : Exc → Store → Prop} {r : R α} {Q : α → Store → Prop} (h : Sat r Q) : SatX Z r Q := Sat.mono h fun _ _ q => q
theorem SatS.to {Z : Exc → Store → Prop} {r : SR} {nx : Sig → Store → Prop} {rt : PV → Store → Prop} (h : SatS r nx rt) : SatSX Z r nx rt := SatS.mono h (fun _ _ q => q) fun _ _ q => q
end Pv
namespace K13
open Pv PySem L2
def top (i : Nat) : Stmt := PySem.Challenge.pw_streamdown_k13_faulty_texts_of_values.main.body.getD i (.Pass ⟨0, 0, 0, 0⟩)
def D : List DefI := [
  { name := "write_value", qual := "write_value", st := top 9, N := ["value", "part"], ps := ["value"] },
  { name := "__init__", qual := "ValueReader.__init__", st := inClass (top 10) 0, N := ["self", "text"], ps := ["self", "text"] },
  { name := "next_sign", qual := "ValueReader.next_sign", st := inClass (top 10) 1, N := ["self"], ps := ["self"] },
  { name := "run_of", qual := "ValueReader.run_of", st := inClass (top 10) 2, N := ["self", "signs", "begin"], ps := ["self", "signs"] },
  { name := "number", qual := "ValueReader.number", st := inClass (top 10) 3, N := ["self", "sign", "digits"], ps := ["self"] },
  { name := "parts", qual := "ValueReader.parts", st := inClass (top 10) 4, N := ["self", "deep", "found"], ps := ["self", "deep"] },
  { name := "value", qual := "ValueReader.value", st := inClass (top 10) 5, N := ["self", "deep", "sign"], ps := ["self", "deep"] },
  { name := "read_value", qual := "read_value", st := top 11, N := ["text", "reader", "found"], ps := ["text"] },
  { name := "_law_same", qual := "_law_same", st := top 13, N := ["actual", "due", "k"], ps := ["actual", "due"] },
  { name := "_law_pool", qual := "_law_pool", st := top 14, N := ["script", "salt", "cell"], ps := ["script"] },
  { name := "_law_spread", qual := "_law_spread", st := top 15, N := ["cell", "mixed", "total", "k"], ps := ["cell"] },
  { name := "_law_draw", qual := "_law_draw", st := top 16, N := ["pool", "many", "value", "cell", "mixed"], ps := ["pool", "many"] },
  { name := "_law_pick", qual := "_law_pick", st := top 17, N := ["pool", "items"], ps := ["pool", "items"] },
  { name := "_law_garbled", qual := "_law_garbled", st := top 18, N := ["pool", "text", "signs", "at", "turn", "sign"], ps := ["pool", "text", "signs"] },
  { name := "_law_shuffled", qual := "_law_shuffled", st := top 19, N := ["pool", "items", "left", "found"], ps := ["pool", "items"] },
  { name := "_law_word_sign", qual := "_law_word_sign", st := top 20, N := ["sign"], ps := ["sign"] },
  { name := "_law_whole_text", qual := "_law_whole_text", st := top 21, N := ["token", "body", "one"], ps := ["token"] },
  { name := "_law_taken", qual := "_law_taken", st := top 22, N := ["text", "at", "deep", "sign", "found", "here", "end", "part"], ps := ["text", "at", "deep"] },
  { name := "_law_value_of", qual := "_law_value_of", st := top 23, N := ["text", "part"], ps := ["text"] },
  { name := "_law_some_value", qual := "_law_some_value", st := top 24, N := ["pool", "deep", "turn", "k"], ps := ["pool", "deep"] },
  { name := "_law_many", qual := "_law_many", st := top 25, N := ["kind"], ps := ["kind"] },
  { name := "_law_value", qual := "_law_value", st := top 26, N := ["pool", "kind"], ps := ["pool", "kind"] },
  { name := "_law_named", qual := "_law_named", st := top 27, N := ["number"], ps := ["number"] },
  { name := "_law_word", qual := "_law_word", st := top 28, N := ["pool", "state", "kind", "clock", "now", "deep", "found", "turn", "every", "nodes", "test", "one", "node", "args", "name"], ps := ["pool", "state", "kind", "clock", "now", "deep"] },
  { name := "_law_clocked", qual := "_law_clocked", st := top 29, N := ["pool", "state", "kind", "clock", "now", "deep", "turn", "bools", "name", "one"], ps := ["pool", "state", "kind", "clock", "now", "deep", "turn"] },
  { name := "_law_plain_word", qual := "_law_plain_word", st := top 30, N := ["pool", "state", "kind", "clock", "now", "deep", "turn", "other"], ps := ["pool", "state", "kind", "clock", "now", "deep"] },
  { name := "_law_modes", qual := "_law_modes", st := top 31, N := ["pool", "state", "kind", "clock", "now", "names", "inner", "found", "name", "turns", "k"], ps := ["pool", "state", "kind", "clock", "now"] },
  { name := "_law_node", qual := "_law_node", st := top 32, N := ["pool", "name", "nodes", "kinds", "inputs", "locals_here", "outputs", "k", "state", "equations", "one", "rest", "every", "order", "now", "kind", "i", "right", "clock", "bools", "other"], ps := ["pool", "name", "nodes"] },
  { name := "_law_main", qual := "_law_main", st := top 33, N := ["program", "node"], ps := ["program"] },
  { name := "_law_inputs", qual := "_law_inputs", st := top 34, N := ["pool", "program", "most", "node", "k", "name", "kind"], ps := ["pool", "program", "most"] },
  { name := "_law_small_program", qual := "_law_small_program", st := top 35, N := ["pool", "nodes", "name"], ps := ["pool"] },
  { name := "_law_told", qual := "_law_told", st := top 36, N := ["text"], ps := ["text"] },
  { name := "law", qual := "law", st := top 37, N := ["script", "pool", "tried", "k", "text", "j"], ps := ["script"] }]
def S : Stc := { fns := [("write_value", 0), ("read_value", 7), ("_law_same", 8), ("_law_pool", 9), ("_law_spread", 10), ("_law_draw", 11), ("_law_pick", 12), ("_law_garbled", 13), ("_law_shuffled", 14), ("_law_word_sign", 15), ("_law_whole_text", 16), ("_law_taken", 17), ("_law_value_of", 18), ("_law_some_value", 19), ("_law_many", 20), ("_law_value", 21), ("_law_named", 22), ("_law_word", 23), ("_law_clocked", 24), ("_law_plain_word", 25), ("_law_modes", 26), ("_law_node", 27), ("_law_main", 28), ("_law_inputs", 29), ("_law_small_program", 30), ("_law_told", 31), ("law", 32)], mks := [("ValueReader", 0, 1)], mts := [("next_sign", [(0, 2)]), ("run_of", [(0, 3)]), ("number", [(0, 4)]), ("parts", [(0, 5)]), ("value", [(0, 6)])], gcs := [("DIGITS", .str [48, 49, 50, 51, 52, 53, 54, 55, 56, 57]), ("WORD", .str [97, 98, 99, 100, 101, 102, 103, 104, 105, 106, 107, 108, 109, 110, 111, 112, 113, 114, 115, 116, 117, 118, 119, 120, 121, 122, 48, 49, 50, 51, 52, 53, 54, 55, 56, 57]), ("DEEPEST", .int 310), ("MOST_SIGNS", .int 200000), ("MOST_DIGITS", .int 6)], flds := [("text", [0]), ("at", [0])], bx := [(87, 11), (124, 11), (125, 12), (236, 25), (236, 29), (236, 33), (250, 16), (249, 70), (264, 12), (41, 16)], kys := [(182, 19), (209, 19), (244, 27)], frz := [], frzv := [(251, "order")], exs := [("BadText", 1)], exm := [("BadText", [(1, true)])] }
end K13
namespace K13
open Pv PySem L2
/-- 0123456789 -/
def cs0 : List Nat := [48, 49, 50, 51, 52, 53, 54, 55, 56, 57]
/-- abcdefghijklmnopqrstuvwxyz0123456789 -/
def cs1 : List Nat := [97, 98, 99, 100, 101, 102, 103, 104, 105, 106, 107, 108, 109, 110, 111, 112, 113, 114, 115, 116, 117, 118, 119, 120, 121, 122, 48, 49, 50, 51, 52, 53, 54, 55, 56, 57]
/-- abcdefghij -/
def cs2 : List Nat := [97, 98, 99, 100, 101, 102, 103, 104, 105, 106]
/-- abcdefghijklmnopqrstuvwxyz -/
def cs3 : List Nat := [97, 98, 99, 100, 101, 102, 103, 104, 105, 106, 107, 108, 109, 110, 111, 112, 113, 114, 115, 116, 117, 118, 119, 120, 121, 122]
/-- []0 1-a_9 -/
def cs4 : List Nat := [91, 93, 48, 32, 49, 45, 97, 95, 57]
def mt (tf : Nat → FF) (m : Str) (c : Nat) : Option FF := (S.mt m c).map tf
def b0 (tf tfm : Nat → FF) : FS := (fsSeq (fsIf (fTru (fIsi .tuple (fVar 0))) (fsSeq (fsRet (fBin addP (fBin addP (fC (.str [91])) (fBM isStr joinM (fC (.str [32])) (faCons (fComp false [1] (fiVal (fVar 0)) (gtName 1) ftYes (fCall (tf 0) (faCons (fVar 1) faNil))) faNil))) (fC (.str [93])))) fsNil) fsNil) (fsSeq (fsRet (fcB strB (faCons (fVar 0) faNil))) fsNil))
theorem e0 (tf tfm : Nat → FF) : evb S D tf tfm 0 = fnF 1 2 (b0 tf tfm) := by kernel_rfl
def b1 (tf tfm : Nat → FF) : FS := (fsSeq (fsFld (S.fldOk "text") [116, 101, 120, 116] (fVar 1) (fVar 0)) (fsSeq (fsFld (S.fldOk "at") [97, 116] (fC (.int 0)) (fVar 0)) fsNil))
theorem e1 (tf tfm : Nat → FF) : evb S D tf tfm 1 = fnF 2 2 (b1 tf tfm) := by kernel_rfl
def b2 (tf tfm : Nat → FF) : FS := (fsSeq (fsRet (fSlc (fFld [116, 101, 120, 116] (fVar 0)) (foSome (fFld [97, 116] (fVar 0))) (foSome (fBin addP (fFld [97, 116] (fVar 0)) (fC (.int 1)))))) fsNil)
theorem e2 (tf tfm : Nat → FF) : evb S D tf tfm 2 = fnF 1 1 (b2 tf tfm) := by kernel_rfl
def b3 (tf tfm : Nat → FF) : FS := (fsSeq (fsAsg (fFld [97, 116] (fVar 0)) (gtName 2)) (fsSeq (fsWhile (tfAnd (fBl (fBin neC (fMeth (mt tf "next_sign") [110, 101, 120, 116, 95, 115, 105, 103, 110] (fVar 0) faNil) (fC (.str [])))) (fBl (fBin inC (fMeth (mt tf "next_sign") [110, 101, 120, 116, 95, 115, 105, 103, 110] (fVar 0) faNil) (fVar 1)))) (fsSeq (fsFldAug (S.fldOk "at") [97, 116] .Add (fC (.int 1)) (fVar 0)) fsNil)) (fsSeq (fsRet (fSlc (fFld [116, 101, 120, 116] (fVar 0)) (foSome (fVar 2)) (foSome (fFld [97, 116] (fVar 0))))) fsNil)))
theorem e3 (tf tfm : Nat → FF) : evb S D tf tfm 3 = fnF 2 3 (b3 tf tfm) := by kernel_rfl
def b4 (tf tfm : Nat → FF) : FS := (fsSeq (fsAsg (fMeth (mt tf "next_sign") [110, 101, 120, 116, 95, 115, 105, 103, 110] (fVar 0) faNil) (gtName 1)) (fsSeq (fsIf (fBl (fBin eqC (fVar 1) (fC (.str [45])))) (fsSeq (fsFldAug (S.fldOk "at") [97, 116] .Add (fC (.int 1)) (fVar 0)) fsNil) fsNil) (fsSeq (fsAsg (fMeth (mt tf "run_of") [114, 117, 110, 95, 111, 102] (fVar 0) (faCons (fC (.str cs0)) faNil)) (gtName 2)) (fsSeq (fsIf (tfOr (tfNot (fBl (fChain leC leC (fC (.int 1)) (fcB lenB (faCons (fVar 2) faNil)) (fC (.int 6))))) (tfAnd (fBl (fBin eqC (fBin idxP (fVar 2) (fC (.int 0))) (fC (.str [48])))) (tfOr (fBl (fBin gtC (fcB lenB (faCons (fVar 2) faNil)) (fC (.int 1)))) (fBl (fBin eqC (fVar 1) (fC (.str [45]))))))) (fsSeq (fsRaise 1 (fFld [116, 101, 120, 116] (fVar 0))) fsNil) fsNil) (fsSeq (fsRet (fIte (fBl (fBin eqC (fVar 1) (fC (.str [45])))) (fUn negP (fcB intB (faCons (fVar 2) faNil))) (fcB intB (faCons (fVar 2) faNil)))) fsNil)))))
theorem e4 (tf tfm : Nat → FF) : evb S D tf tfm 4 = fnF 1 3 (b4 tf tfm) := by kernel_rfl
def b5 (tf tfm : Nat → FF) : FS := (fsSeq (fsAsg (fLst true faNil) (gtName 2)) (fsSeq (fsIf (fBl (fBin neC (fMeth (mt tf "next_sign") [110, 101, 120, 116, 95, 115, 105, 103, 110] (fVar 0) faNil) (fC (.str [93])))) (fsSeq (fsDrop (fBM isLst appM (fVar 2) (faCons (fMeth (mt tf "value") [118, 97, 108, 117, 101] (fVar 0) (faCons (fBin subP (fVar 1) (fC (.int 1))) faNil)) faNil))) (fsSeq (fsWhile (fBl (fBin eqC (fMeth (mt tf "next_sign") [110, 101, 120, 116, 95, 115, 105, 103, 110] (fVar 0) faNil) (fC (.str [32])))) (fsSeq (fsFldAug (S.fldOk "at") [97, 116] .Add (fC (.int 1)) (fVar 0)) (fsSeq (fsDrop (fBM isLst appM (fVar 2) (faCons (fMeth (mt tf "value") [118, 97, 108, 117, 101] (fVar 0) (faCons (fBin subP (fVar 1) (fC (.int 1))) faNil)) faNil))) fsNil))) fsNil)) fsNil) (fsSeq (fsIf (fBl (fBin neC (fMeth (mt tf "next_sign") [110, 101, 120, 116, 95, 115, 105, 103, 110] (fVar 0) faNil) (fC (.str [93])))) (fsSeq (fsRaise 1 (fFld [116, 101, 120, 116] (fVar 0))) fsNil) fsNil) (fsSeq (fsFldAug (S.fldOk "at") [97, 116] .Add (fC (.int 1)) (fVar 0)) (fsSeq (fsRet (fcB tupB (faCons (fVar 2) faNil))) fsNil)))))
theorem e5 (tf tfm : Nat → FF) : evb S D tf tfm 5 = fnF 2 3 (b5 tf tfm) := by kernel_rfl
def b6 (tf tfm : Nat → FF) : FS := (fsSeq (fsAsg (fMeth (mt tf "next_sign") [110, 101, 120, 116, 95, 115, 105, 103, 110] (fVar 0) faNil) (gtName 2)) (fsSeq (fsIf (tfAnd (fBl (fBin neC (fVar 2) (fC (.str [])))) (tfAnd (fBl (fBin inC (fVar 2) (fC (.str cs1)))) (fBl (fBin ninC (fVar 2) (fC (.str cs0)))))) (fsSeq (fsRet (fMeth (mt tf "run_of") [114, 117, 110, 95, 111, 102] (fVar 0) (faCons (fC (.str cs1)) faNil))) fsNil) fsNil) (fsSeq (fsIf (fBl (fBin neC (fVar 2) (fC (.str [91])))) (fsSeq (fsRet (fMeth (mt tf "number") [110, 117, 109, 98, 101, 114] (fVar 0) faNil)) fsNil) fsNil) (fsSeq (fsIf (fBl (fBin eqC (fVar 1) (fC (.int 0)))) (fsSeq (fsRaise 1 (fFld [116, 101, 120, 116] (fVar 0))) fsNil) fsNil) (fsSeq (fsFldAug (S.fldOk "at") [97, 116] .Add (fC (.int 1)) (fVar 0)) (fsSeq (fsRet (fMeth (mt tf "parts") [112, 97, 114, 116, 115] (fVar 0) (faCons (fVar 1) faNil))) fsNil))))))
theorem e6 (tf tfm : Nat → FF) : evb S D tf tfm 6 = fnF 2 3 (b6 tf tfm) := by kernel_rfl
def b7 (tf tfm : Nat → FF) : FS := (fsSeq (fsIf (fBl (fBin gtC (fcB lenB (faCons (fVar 0) faNil)) (fC (.int 200000)))) (fsSeq (fsRaise 1 (fVar 0)) fsNil) fsNil) (fsSeq (fsAsg (fMake 0 (tfm 1) (faCons (fVar 0) faNil)) (gtName 1)) (fsSeq (fsAsg (fMeth (mt tf "value") [118, 97, 108, 117, 101] (fVar 1) (faCons (fC (.int 310)) faNil)) (gtName 2)) (fsSeq (fsIf (fBl (fBin ltC (fFld [97, 116] (fVar 1)) (fcB lenB (faCons (fVar 0) faNil)))) (fsSeq (fsRaise 1 (fVar 0)) fsNil) fsNil) (fsSeq (fsRet (fVar 2)) fsNil)))))
theorem e7 (tf tfm : Nat → FF) : evb S D tf tfm 7 = fnF 1 3 (b7 tf tfm) := by kernel_rfl
def b8 (tf tfm : Nat → FF) : FS := (fsSeq (fsIf (tfOr (fTru (fIsi .tuple (fVar 1))) (fTru (fIsi .list (fVar 1)))) (fsSeq (fsIf (tfOr (fBl (fBin neC (fIsi .tuple (fVar 1)) (fIsi .tuple (fVar 0)))) (tfOr (fBl (fBin neC (fIsi .list (fVar 1)) (fIsi .list (fVar 0)))) (fBl (fBin neC (fcB lenB (faCons (fVar 0) faNil)) (fcB lenB (faCons (fVar 1) faNil)))))) (fsSeq (fsRet (fC (.bl false))) fsNil) fsNil) (fsSeq (fsRet (fBin eqC (fcB lenB (faCons (fComp false [2] (fiRng1 (fcB lenB (faCons (fVar 1) faNil))) (gtName 2) (tfNot (fTru (fCall (tf 8) (faCons (fBin idxP (fVar 0) (fVar 2)) (faCons (fBin idxP (fVar 1) (fVar 2)) faNil))))) (fVar 2)) faNil)) (fC (.int 0)))) fsNil)) fsNil) (fsSeq (fsIf (fBl (fBin isC (fVar 1) (fC .non))) (fsSeq (fsRet (fBin isC (fVar 0) (fC .non))) fsNil) fsNil) (fsSeq (fsIf (tfOr (fTru (fIsi .bool (fVar 1))) (fTru (fIsi .bool (fVar 0)))) (fsSeq (fsRet (fAnd (fIsi .bool (fVar 1)) (fAnd (fIsi .bool (fVar 0)) (fBin eqC (fVar 0) (fVar 1))))) fsNil) fsNil) (fsSeq (fsIf (fTru (fIsi .int (fVar 1))) (fsSeq (fsRet (fAnd (fIsi .int (fVar 0)) (fBin eqC (fVar 0) (fVar 1)))) fsNil) fsNil) (fsSeq (fsRet (fAnd (fIsi .str (fVar 0)) (fAnd (fIsi .str (fVar 1)) (fBin eqC (fVar 0) (fVar 1))))) fsNil)))))
theorem e8 (tf tfm : Nat → FF) : evb S D tf tfm 8 = fnF 2 3 (b8 tf tfm) := by kernel_rfl
def b9 (tf tfm : Nat → FF) : FS := (fsSeq (fsAsg (fC (.int 7)) (gtName 1)) (fsSeq (fsFor (fiVal (fSlc (fVar 0) foNone (foSome (fC (.int 63))))) (gtName 2) (fsSeq (fsAsg (fBin modP (fcB intB (faCons (fBin addP (fBin mulP (fVar 1) (fC (.int 31))) (fVar 2)) faNil)) (fC (.int 1000003))) (gtName 1)) fsNil)) (fsSeq (fsRet (fLst true (faCons (fcB (lstB false) (faCons (fVar 0) faNil)) (faCons (fC (.int 0)) (faCons (fC (.int 0)) (faCons (fC (.int 0)) (faCons (fVar 1) faNil))))))) fsNil)))
theorem e9 (tf tfm : Nat → FF) : evb S D tf tfm 9 = fnF 1 3 (b9 tf tfm) := by kernel_rfl
def b10 (tf tfm : Nat → FF) : FS := (fsSeq (fsAsg (fBin modP (fcB intB (faCons (fVar 0) faNil)) (fC (.int 2147483647))) (gtName 1)) (fsSeq (fsAsg (fC (.int 1)) (gtName 2)) (fsSeq (fsFor (fiRng1 (fC (.int 4))) (gtName 3) (fsSeq (fsAsg (fBin modP (fcB intB (faCons (fBin addP (fBin addP (fBin mulP (fVar 1) (fC (.int 48271))) (fC (.int 12345))) (fVar 3)) faNil)) (fC (.int 2147483647))) (gtName 1)) (fsSeq (fsAsg (fBin addP (fBin mulP (fVar 2) (fC (.int 2147483647))) (fVar 1)) (gtName 2)) fsNil))) (fsSeq (fsRet (fVar 2)) fsNil))))
theorem e10 (tf tfm : Nat → FF) : evb S D tf tfm 10 = fnF 1 4 (b10 tf tfm) := by kernel_rfl
def b11 (tf tfm : Nat → FF) : FS := (fsSeq (fsIf (tfAnd (fBl (fBin leC (fBin idxP (fVar 0) (fC (.int 2))) (fC (.int 0)))) (fBl (fBin ltC (fBin idxP (fVar 0) (fC (.int 1))) (fcB lenB (faCons (fBin idxP (fVar 0) (fC (.int 0))) faNil))))) (fsSeq (fsAsg (fBin idxP (fBin idxP (fVar 0) (fC (.int 0))) (fBin idxP (fVar 0) (fC (.int 1)))) (gtName 3)) (fsSeq (fsAsg (fBin addP (fBin idxP (fVar 0) (fC (.int 1))) (fC (.int 1))) (gtSub (fVar 0) (fC (.int 1)))) (fsSeq (fsAsg (fVar 3) (gtSub (fVar 0) (fC (.int 2)))) (fsSeq (fsIf (fBl (fBin ltC (fVar 3) (fC (.int 1000000000000000000)))) (fsSeq (fsAsg (fCall (tf 10) (faCons (fVar 3) faNil)) (gtSub (fVar 0) (fC (.int 2)))) fsNil) fsNil) fsNil)))) fsNil) (fsSeq (fsAsg (fBin addP (fBin idxP (fVar 0) (fC (.int 3))) (fC (.int 1))) (gtSub (fVar 0) (fC (.int 3)))) (fsSeq (fsIf (fBl (fBin leC (fBin idxP (fVar 0) (fC (.int 2))) (fC (.int 0)))) (fsSeq (fsAsg (fBin modP (fcB intB (faCons (fBin addP (fBin addP (fBin mulP (fBin idxP (fVar 0) (fC (.int 4))) (fC (.int 48271))) (fBin mulP (fBin idxP (fVar 0) (fC (.int 3))) (fC (.int 69621)))) (fC (.int 1))) faNil)) (fC (.int 2147483647))) (gtName 4)) (fsSeq (fsAsg (fBin modP (fcB intB (faCons (fBin addP (fBin mulP (fVar 4) (fC (.int 16807))) (fBin idxP (fVar 0) (fC (.int 3)))) faNil)) (fC (.int 2147483629))) (gtName 4)) (fsSeq (fsRet (fBin modP (fBin divP (fVar 4) (fC (.int 5))) (fVar 1))) fsNil))) fsNil) (fsSeq (fsAsg (fBin modP (fcB intB (faCons (fBin idxP (fVar 0) (fC (.int 2))) faNil)) (fVar 1)) (gtName 2)) (fsSeq (fsAsg (fBin divP (fBin idxP (fVar 0) (fC (.int 2))) (fVar 1)) (gtSub (fVar 0) (fC (.int 2)))) (fsSeq (fsRet (fVar 2)) fsNil))))))
theorem e11 (tf tfm : Nat → FF) : evb S D tf tfm 11 = fnF 2 5 (b11 tf tfm) := by kernel_rfl
def b12 (tf tfm : Nat → FF) : FS := (fsSeq (fsRet (fBin idxP (fVar 1) (fCall (tf 11) (faCons (fVar 0) (faCons (fcB lenB (faCons (fVar 1) faNil)) faNil))))) fsNil)
theorem e12 (tf tfm : Nat → FF) : evb S D tf tfm 12 = fnF 2 2 (b12 tf tfm) := by kernel_rfl
def b13 (tf tfm : Nat → FF) : FS := (fsSeq (fsAsg (fCall (tf 11) (faCons (fVar 0) (faCons (fBin addP (fcB lenB (faCons (fVar 1) faNil)) (fC (.int 1))) faNil))) (gtName 3)) (fsSeq (fsAsg (fCall (tf 11) (faCons (fVar 0) (faCons (fC (.int 4)) faNil))) (gtName 4)) (fsSeq (fsAsg (fCall (tf 12) (faCons (fVar 0) (faCons (fVar 2) faNil))) (gtName 5)) (fsSeq (fsIf (fBl (fBin eqC (fVar 4) (fC (.int 0)))) (fsSeq (fsRet (fBin addP (fBin addP (fSlc (fVar 1) foNone (foSome (fVar 3))) (fVar 5)) (fSlc (fVar 1) (foSome (fVar 3)) foNone))) fsNil) fsNil) (fsSeq (fsIf (fBl (fBin eqC (fVar 4) (fC (.int 1)))) (fsSeq (fsRet (fBin addP (fSlc (fVar 1) foNone (foSome (fVar 3))) (fSlc (fVar 1) (foSome (fBin addP (fVar 3) (fC (.int 1)))) foNone))) fsNil) fsNil) (fsSeq (fsIf (fBl (fBin eqC (fVar 4) (fC (.int 2)))) (fsSeq (fsRet (fBin addP (fBin addP (fSlc (fVar 1) foNone (foSome (fVar 3))) (fVar 5)) (fSlc (fVar 1) (foSome (fBin addP (fVar 3) (fC (.int 1)))) foNone))) fsNil) fsNil) (fsSeq (fsRet (fBin addP (fBin addP (fSlc (fVar 1) foNone (foSome (fVar 3))) (fSlc (fVar 1) (foSome (fVar 3)) (foSome (fBin addP (fVar 3) (fC (.int 1)))))) (fSlc (fVar 1) (foSome (fVar 3)) foNone))) fsNil)))))))
theorem e13 (tf tfm : Nat → FF) : evb S D tf tfm 13 = fnF 3 6 (b13 tf tfm) := by kernel_rfl
def b14 (tf tfm : Nat → FF) : FS := (fsSeq (fsAsg (fcB (lstB true) (faCons (fVar 1) faNil)) (gtName 2)) (fsSeq (fsAsg (fLst true faNil) (gtName 3)) (fsSeq (fsWhile (fBl (fBin neC (fVar 2) (fLst false faNil))) (fsSeq (fsDrop (fBM isLst appM (fVar 3) (faCons (fBM isLst popM (fVar 2) (faCons (fCall (tf 11) (faCons (fVar 0) (faCons (fcB lenB (faCons (fVar 2) faNil)) faNil))) faNil)) faNil))) fsNil)) (fsSeq (fsRet (fVar 3)) fsNil))))
theorem e14 (tf tfm : Nat → FF) : evb S D tf tfm 14 = fnF 2 4 (b14 tf tfm) := by kernel_rfl
def b15 (tf tfm : Nat → FF) : FS := (fsSeq (fsRet (fAnd (fBin neC (fVar 0) (fC (.str []))) (fBin inC (fVar 0) (fC (.str cs1))))) fsNil)
theorem e15 (tf tfm : Nat → FF) : evb S D tf tfm 15 = fnF 1 1 (b15 tf tfm) := by kernel_rfl
def b16 (tf tfm : Nat → FF) : FS := (fsSeq (fsAsg (fIte (fBl (fBin eqC (fSlc (fVar 0) foNone (foSome (fC (.int 1)))) (fC (.str [45])))) (fSlc (fVar 0) (foSome (fC (.int 1))) foNone) (fVar 0)) (gtName 1)) (fsSeq (fsIf (tfOr (fBl (fBin eqC (fVar 1) (fC (.str [])))) (tfOr (fBl (fBin gtC (fcB lenB (faCons (fVar 1) faNil)) (fC (.int 6)))) (fBl (fBin gtC (fcB lenB (faCons (fComp false [2] (fiVal (fVar 1)) (gtName 2) (fBl (fBin ninC (fVar 2) (fC (.str cs0)))) (fVar 2)) faNil)) (fC (.int 0)))))) (fsSeq (fsRet (fC (.bl false))) fsNil) fsNil) (fsSeq (fsRet (fOr (fBin neC (fBin idxP (fVar 1) (fC (.int 0))) (fC (.str [48]))) (fBin eqC (fVar 0) (fC (.str [48]))))) fsNil)))
theorem e16 (tf tfm : Nat → FF) : evb S D tf tfm 16 = fnF 1 3 (b16 tf tfm) := by kernel_rfl
def b17 (tf tfm : Nat → FF) : FS := (fsSeq (fsAsg (fSlc (fVar 0) (foSome (fVar 1)) (foSome (fBin addP (fVar 1) (fC (.int 1))))) (gtName 3)) (fsSeq (fsIf (tfAnd (fTru (fCall (tf 15) (faCons (fVar 3) faNil))) (fBl (fBin ninC (fVar 3) (fC (.str cs0))))) (fsSeq (fsAsg (fVar 1) (gtName 6)) (fsSeq (fsWhile (tfAnd (fBl (fBin ltC (fVar 6) (fcB lenB (faCons (fVar 0) faNil)))) (fTru (fCall (tf 15) (faCons (fBin idxP (fVar 0) (fVar 6)) faNil)))) (fsSeq (fsAsg (fBin addP (fVar 6) (fC (.int 1))) (gtName 6)) fsNil)) (fsSeq (fsRet (fTup (faCons (fSlc (fVar 0) (foSome (fVar 1)) (foSome (fVar 6))) (faCons (fVar 6) faNil)))) fsNil))) fsNil) (fsSeq (fsIf (fBl (fBin neC (fVar 3) (fC (.str [91])))) (fsSeq (fsAsg (fBin addP (fVar 1) (fC (.int 1))) (gtName 6)) (fsSeq (fsWhile (tfAnd (fBl (fBin ltC (fVar 6) (fcB lenB (faCons (fVar 0) faNil)))) (fBl (fBin inC (fBin idxP (fVar 0) (fVar 6)) (fC (.str cs0))))) (fsSeq (fsAsg (fBin addP (fVar 6) (fC (.int 1))) (gtName 6)) fsNil)) (fsSeq (fsRet (fIte (fTru (fCall (tf 16) (faCons (fSlc (fVar 0) (foSome (fVar 1)) (foSome (fVar 6))) faNil))) (fTup (faCons (fcB intB (faCons (fSlc (fVar 0) (foSome (fVar 1)) (foSome (fVar 6))) faNil)) (faCons (fVar 6) faNil))) (fC .non))) fsNil))) fsNil) (fsSeq (fsIf (fBl (fBin eqC (fVar 2) (fC (.int 0)))) (fsSeq (fsRet (fC .non)) fsNil) fsNil) (fsSeq (fsIf (fBl (fBin eqC (fSlc (fVar 0) (foSome (fBin addP (fVar 1) (fC (.int 1)))) (foSome (fBin addP (fVar 1) (fC (.int 2))))) (fC (.str [93])))) (fsSeq (fsRet (fTup (faCons (fTup faNil) (faCons (fBin addP (fVar 1) (fC (.int 2))) faNil)))) fsNil) fsNil) (fsSeq (fsAsg (fTup faNil) (gtName 4)) (fsSeq (fsAsg (fBin addP (fVar 1) (fC (.int 1))) (gtName 5)) (fsSeq (fsWhile (fTru (fC (.bl true))) (fsSeq (fsAsg (fCall (tf 17) (faCons (fVar 0) (faCons (fVar 5) (faCons (fBin subP (fVar 2) (fC (.int 1))) faNil)))) (gtName 7)) (fsSeq (fsIf (fBl (fBin isC (fVar 7) (fC .non))) (fsSeq (fsRet (fC .non)) fsNil) fsNil) (fsSeq (fsAsg (fBin addP (fVar 4) (fTup (faCons (fBin idxP (fVar 7) (fC (.int 0))) faNil))) (gtName 4)) (fsSeq (fsAsg (fBin idxP (fVar 7) (fC (.int 1))) (gtName 5)) (fsSeq (fsIf (fBl (fBin eqC (fSlc (fVar 0) (foSome (fVar 5)) (foSome (fBin addP (fVar 5) (fC (.int 1))))) (fC (.str [93])))) (fsSeq (fsRet (fTup (faCons (fVar 4) (faCons (fBin addP (fVar 5) (fC (.int 1))) faNil)))) fsNil) fsNil) (fsSeq (fsIf (fBl (fBin neC (fSlc (fVar 0) (foSome (fVar 5)) (foSome (fBin addP (fVar 5) (fC (.int 1))))) (fC (.str [32])))) (fsSeq (fsRet (fC .non)) fsNil) fsNil) (fsSeq (fsAsg (fBin addP (fVar 5) (fC (.int 1))) (gtName 5)) fsNil)))))))) fsNil))))))))
theorem e17 (tf tfm : Nat → FF) : evb S D tf tfm 17 = fnF 3 8 (b17 tf tfm) := by kernel_rfl
def b18 (tf tfm : Nat → FF) : FS := (fsSeq (fsAsg (fCall (tf 17) (faCons (fVar 0) (faCons (fC (.int 0)) (faCons (fC (.int 310)) faNil)))) (gtName 1)) (fsSeq (fsRet (fIte (tfAnd (fBl (fBin isntC (fVar 1) (fC .non))) (fBl (fBin eqC (fBin idxP (fVar 1) (fC (.int 1))) (fcB lenB (faCons (fVar 0) faNil))))) (fLst false (faCons (fBin idxP (fVar 1) (fC (.int 0))) faNil)) (fC .non))) fsNil))
theorem e18 (tf tfm : Nat → FF) : evb S D tf tfm 18 = fnF 1 2 (b18 tf tfm) := by kernel_rfl
def b19 (tf tfm : Nat → FF) : FS := (fsSeq (fsAsg (fCall (tf 11) (faCons (fVar 0) (faCons (fC (.int 5)) faNil))) (gtName 2)) (fsSeq (fsIf (tfOr (fBl (fBin ltC (fVar 2) (fC (.int 2)))) (fBl (fBin eqC (fVar 1) (fC (.int 0))))) (fsSeq (fsRet (fBin idxP (fTup (faCons (fBin subP (fCall (tf 11) (faCons (fVar 0) (faCons (fC (.int 21)) faNil))) (fC (.int 10))) (faCons (fC (.int 999999)) (faCons (fUn negP (fC (.int 999999))) (faCons (fC (.int 0)) faNil))))) (fCall (tf 11) (faCons (fVar 0) (faCons (fC (.int 4)) faNil))))) fsNil) fsNil) (fsSeq (fsIf (fBl (fBin eqC (fVar 2) (fC (.int 2)))) (fsSeq (fsRet (fCall (tf 12) (faCons (fVar 0) (faCons (fTup (faCons (fC (.str [114, 111, 119])) (faCons (fC (.str [108, 101, 116, 116, 101, 114])) (faCons (fC (.str [120])) (faCons (fC (.str [122, 57, 122])) faNil))))) faNil)))) fsNil) fsNil) (fsSeq (fsRet (fcB tupB (faCons (fComp false [3] (fiRng1 (fCall (tf 11) (faCons (fVar 0) (faCons (fC (.int 4)) faNil)))) (gtName 3) ftYes (fCall (tf 19) (faCons (fVar 0) (faCons (fBin subP (fVar 1) (fC (.int 1))) faNil)))) faNil))) fsNil))))
theorem e19 (tf tfm : Nat → FF) : evb S D tf tfm 19 = fnF 2 4 (b19 tf tfm) := by kernel_rfl
def b20 (tf tfm : Nat → FF) : FS := (fsSeq (fsRet (fIte (fBl (fBin eqC (fVar 0) (fTup (faCons (fC (.str [98, 111, 111, 108])) faNil)))) (fC (.int 2)) (fBin idxP (fVar 0) (fC (.int 1))))) fsNil)
theorem e20 (tf tfm : Nat → FF) : evb S D tf tfm 20 = fnF 1 1 (b20 tf tfm) := by kernel_rfl
def b21 (tf tfm : Nat → FF) : FS := (fsSeq (fsRet (fTup (faCons (fC (.str [118, 97, 108, 117, 101])) (faCons (fVar 1) (faCons (fCall (tf 11) (faCons (fVar 0) (faCons (fCall (tf 20) (faCons (fVar 1) faNil)) faNil))) faNil))))) fsNil)
theorem e21 (tf tfm : Nat → FF) : evb S D tf tfm 21 = fnF 2 2 (b21 tf tfm) := by kernel_rfl
def b22 (tf tfm : Nat → FF) : FS := (fsSeq (fsRet (fBin addP (fBin idxP (fC (.str cs2)) (fcB intB (faCons (fBin divP (fVar 0) (fC (.int 26))) faNil))) (fBin idxP (fC (.str cs3)) (fBin modP (fcB intB (faCons (fVar 0) faNil)) (fC (.int 26)))))) fsNil)
theorem e22 (tf tfm : Nat → FF) : evb S D tf tfm 22 = fnF 1 1 (b22 tf tfm) := by kernel_rfl
def b23 (tf tfm : Nat → FF) : FS := (fsSeq (fsAsg (fcB (srtT false) (faCons (fLock 4 (fComp false [14] (fiKeys (fVar 4)) (gtName 14) (fBl (fBin eqC (fBin idxP (fVar 4) (fVar 14)) (fTup (faCons (fVar 2) (faCons (fVar 3) faNil))))) (fVar 14))) faNil)) (gtName 6)) (fsSeq (fsIf (tfOr (fBl (fBin eqC (fVar 5) (fC (.int 0)))) (tfAnd (fBl (fBin neC (fVar 6) (fLst false faNil))) (fBl (fBin ltC (fCall (tf 11) (faCons (fVar 0) (faCons (fC (.int 14)) faNil))) (fC (.int 3)))))) (fsSeq (fsRet (fIte (tfAnd (fBl (fBin neC (fVar 6) (fLst false faNil))) (fBl (fBin gtC (fCall (tf 11) (faCons (fVar 0) (faCons (fC (.int 5)) faNil))) (fC (.int 0))))) (fTup (faCons (fC (.str [110, 97, 109, 101])) (faCons (fCall (tf 12) (faCons (fVar 0) (faCons (fVar 6) faNil))) faNil))) (fCall (tf 21) (faCons (fVar 0) (faCons (fVar 2) faNil))))) fsNil) fsNil) (fsSeq (fsAsg (fCall (tf 11) (faCons (fVar 0) (faCons (fC (.int 14)) faNil))) (gtName 7)) (fsSeq (fsAsg (fBin idxP (fVar 1) (fC (.str [101, 118, 101, 114, 121]))) (gtName 8)) (fsSeq (fsIf (fBl (fBin ltC (fVar 7) (fC (.int 2)))) (fsSeq (fsRet (fTup (faCons (fC (.str [102, 98, 121])) (faCons (fCall (tf 11) (faCons (fVar 0) (faCons (fCall (tf 20) (faCons (fVar 2) faNil)) faNil))) (faCons (fCall (tf 23) (faCons (fVar 0) (faCons (fVar 1) (faCons (fVar 2) (faCons (fVar 3) (faCons (fVar 8) (faCons (fBin subP (fVar 5) (fC (.int 1))) faNil))))))) faNil))))) fsNil) fsNil) (fsSeq (fsIf (fBl (fBin eqC (fVar 7) (fC (.int 2)))) (fsSeq (fsRet (fTup (faCons (fC (.str [97, 114, 114, 111, 119])) (faCons (fCall (tf 23) (faCons (fVar 0) (faCons (fVar 1) (faCons (fVar 2) (faCons (fVar 3) (faCons (fVar 4) (faCons (fBin subP (fVar 5) (fC (.int 1))) faNil))))))) (faCons (fTup (faCons (fC (.str [112, 114, 101])) (faCons (fCall (tf 23) (faCons (fVar 0) (faCons (fVar 1) (faCons (fVar 2) (faCons (fVar 3) (faCons (fVar 8) (faCons (fBin subP (fVar 5) (fC (.int 1))) faNil))))))) faNil))) faNil))))) fsNil) fsNil) (fsSeq (fsIf (fBl (fBin eqC (fVar 7) (fC (.int 3)))) (fsSeq (fsPar [10, 11] (faCons (fCall (tf 23) (faCons (fVar 0) (faCons (fVar 1) (faCons (fTup (faCons (fC (.str [98, 111, 111, 108])) faNil)) (faCons (fVar 3) (faCons (fVar 4) (faCons (fBin subP (fVar 5) (fC (.int 1))) faNil))))))) (faCons (fCall (tf 23) (faCons (fVar 0) (faCons (fVar 1) (faCons (fVar 2) (faCons (fVar 3) (faCons (fVar 4) (faCons (fBin subP (fVar 5) (fC (.int 1))) faNil))))))) faNil))) (fsSeq (fsRet (fTup (faCons (fC (.str [99, 104, 111, 111, 115, 101])) (faCons (fVar 10) (faCons (fVar 11) (faCons (fCall (tf 23) (faCons (fVar 0) (faCons (fVar 1) (faCons (fVar 2) (faCons (fVar 3) (faCons (fVar 4) (faCons (fBin subP (fVar 5) (fC (.int 1))) faNil))))))) faNil)))))) fsNil)) fsNil) (fsSeq (fsIf (tfAnd (fBl (fBin ltC (fVar 7) (fC (.int 7)))) (tfNot (fTru (fBin idxP (fVar 1) (fC (.str [109, 111, 100, 101, 115])))))) (fsSeq (fsAsg (fCall (tf 24) (faCons (fVar 0) (faCons (fVar 1) (faCons (fVar 2) (faCons (fVar 3) (faCons (fVar 4) (faCons (fVar 5) (faCons (fVar 7) faNil)))))))) (gtName 6)) (fsSeq (fsIf (fBl (fBin isntC (fVar 6) (fC .non))) (fsSeq (fsRet (fVar 6)) fsNil) fsNil) fsNil)) fsNil) (fsSeq (fsIf (fBl (fBin inC (fVar 7) (fTup (faCons (fC (.int 7)) (faCons (fC (.int 8)) faNil))))) (fsSeq (fsAsg (fComp false [12] (fiVal (fBin idxP (fVar 1) (fC (.str [110, 111, 100, 101, 115])))) (gtName 12) (tfAnd (fBl (fBin eqC (fcB lenB (faCons (fBin idxP (fVar 12) (fC (.int 2))) faNil)) (fC (.int 1)))) (fBl (fBin eqC (fBin idxP (fBin idxP (fBin idxP (fVar 12) (fC (.int 2))) (fC (.int 0))) (fC (.int 1))) (fVar 2)))) (fVar 12)) (gtName 9)) (fsSeq (fsIf (tfAnd (fBl (fBin neC (fVar 9) (fLst false faNil))) (fBl (fBin ltC (fcB lenB (faCons (fBin idxP (fVar 1) (fC (.str [99, 97, 108, 108, 115]))) faNil)) (fC (.int 3))))) (fsSeq (fsDrop (fBM isLst appM (fBin idxP (fVar 1) (fC (.str [99, 97, 108, 108, 115]))) (faCons (fVar 2) faNil))) (fsSeq (fsAsg (fCall (tf 12) (faCons (fVar 0) (faCons (fVar 9) faNil))) (gtName 12)) (fsSeq (fsAsg (fcB tupB (faCons (fComp false [14, 11] (fiVal (fBin idxP (fVar 12) (fC (.int 1)))) (gtTup 2 (gsCons (gtName 14) (gsCons (gtName 11) gsNil))) ftYes (fCall (tf 23) (faCons (fVar 0) (faCons (fVar 1) (faCons (fVar 11) (faCons (fVar 3) (faCons (fVar 4) (faCons (fBin subP (fVar 5) (fC (.int 1))) faNil)))))))) faNil)) (gtName 13)) (fsSeq (fsRet (fTup (faCons (fC (.str [99, 97, 108, 108])) (faCons (fBin idxP (fVar 12) (fC (.int 0))) (faCons (fVar 13) (faCons (fIte (fBl (fBin eqC (fCall (tf 11) (faCons (fVar 0) (faCons (fC (.int 2)) faNil))) (fC (.int 0)))) (fCall (tf 23) (faCons (fVar 0) (faCons (fVar 1) (faCons (fTup (faCons (fC (.str [98, 111, 111, 108])) faNil)) (faCons (fVar 3) (faCons (fVar 4) (faCons (fBin subP (fVar 5) (fC (.int 1))) faNil))))))) (fC .non)) faNil)))))) fsNil)))) fsNil) fsNil)) fsNil) (fsSeq (fsRet (fCall (tf 25) (faCons (fVar 0) (faCons (fVar 1) (faCons (fVar 2) (faCons (fVar 3) (faCons (fVar 4) (faCons (fVar 5) faNil)))))))) fsNil))))))))))
theorem e23 (tf tfm : Nat → FF) : evb S D tf tfm 23 = fnF 6 15 (b23 tf tfm) := by kernel_rfl
def b24 (tf tfm : Nat → FF) : FS := (fsSeq (fsIf (tfAnd (fBl (fBin eqC (fVar 6) (fC (.int 4)))) (fBl (fBin neC (fVar 3) (fTup faNil)))) (fsSeq (fsRet (fTup (faCons (fC (.str [119, 104, 101, 110])) (faCons (fCall (tf 23) (faCons (fVar 0) (faCons (fVar 1) (faCons (fVar 2) (faCons (fSlc (fVar 3) foNone (foSome (fUn negP (fC (.int 1))))) (faCons (fVar 4) (faCons (fBin subP (fVar 5) (fC (.int 1))) faNil))))))) (faCons (fBin idxP (fBin idxP (fVar 3) (fUn negP (fC (.int 1)))) (fC (.int 0))) (faCons (fBin idxP (fBin idxP (fVar 3) (fUn negP (fC (.int 1)))) (fC (.int 1))) faNil)))))) fsNil) fsNil) (fsSeq (fsAsg (fcB (srtT false) (faCons (fLock 4 (fComp false [8] (fiKeys (fVar 4)) (gtName 8) (fBl (fBin eqC (fBin idxP (fVar 4) (fVar 8)) (fTup (faCons (fTup (faCons (fC (.str [98, 111, 111, 108])) faNil)) (faCons (fVar 3) faNil))))) (fVar 8))) faNil)) (gtName 7)) (fsSeq (fsIf (tfOr (fBl (fBin eqC (fVar 7) (fLst false faNil))) (fBl (fBin gtC (fcB lenB (faCons (fVar 3) faNil)) (fC (.int 1))))) (fsSeq (fsRet (fC .non)) fsNil) fsNil) (fsSeq (fsAsg (fCall (tf 12) (faCons (fVar 0) (faCons (fVar 7) faNil))) (gtName 8)) (fsSeq (fsAsg (fCall (tf 23) (faCons (fVar 0) (faCons (fVar 1) (faCons (fVar 2) (faCons (fBin addP (fVar 3) (fTup (faCons (fTup (faCons (fVar 8) (faCons (fC (.int 1)) faNil))) faNil))) (faCons (fVar 4) (faCons (fBin subP (fVar 5) (fC (.int 1))) faNil))))))) (gtName 9)) (fsSeq (fsRet (fTup (faCons (fC (.str [109, 101, 114, 103, 101])) (faCons (fVar 8) (faCons (fVar 9) (faCons (fCall (tf 23) (faCons (fVar 0) (faCons (fVar 1) (faCons (fVar 2) (faCons (fBin addP (fVar 3) (fTup (faCons (fTup (faCons (fVar 8) (faCons (fC (.int 0)) faNil))) faNil))) (faCons (fVar 4) (faCons (fBin subP (fVar 5) (fC (.int 1))) faNil))))))) faNil)))))) fsNil))))))
theorem e24 (tf tfm : Nat → FF) : evb S D tf tfm 24 = fnF 7 10 (b24 tf tfm) := by kernel_rfl
def b25 (tf tfm : Nat → FF) : FS := (fsSeq (fsIf (fBl (fBin neC (fVar 2) (fTup (faCons (fC (.str [98, 111, 111, 108])) faNil)))) (fsSeq (fsRet (fTup (faCons (fC (.str [109, 97, 116, 104])) (faCons (fCall (tf 12) (faCons (fVar 0) (faCons (fLst false (faCons (fC (.str [112, 108, 117, 115])) (faCons (fC (.str [109, 105, 110, 117, 115])) (faCons (fC (.str [116, 105, 109, 101, 115])) faNil)))) faNil))) (faCons (fCall (tf 23) (faCons (fVar 0) (faCons (fVar 1) (faCons (fVar 2) (faCons (fVar 3) (faCons (fVar 4) (faCons (fBin subP (fVar 5) (fC (.int 1))) faNil))))))) (faCons (fCall (tf 23) (faCons (fVar 0) (faCons (fVar 1) (faCons (fVar 2) (faCons (fVar 3) (faCons (fVar 4) (faCons (fBin subP (fVar 5) (fC (.int 1))) faNil))))))) faNil)))))) fsNil) fsNil) (fsSeq (fsAsg (fCall (tf 11) (faCons (fVar 0) (faCons (fC (.int 4)) faNil))) (gtName 6)) (fsSeq (fsIf (fBl (fBin eqC (fVar 6) (fC (.int 0)))) (fsSeq (fsRet (fTup (faCons (fC (.str [110, 111, 116])) (faCons (fCall (tf 23) (faCons (fVar 0) (faCons (fVar 1) (faCons (fVar 2) (faCons (fVar 3) (faCons (fVar 4) (faCons (fBin subP (fVar 5) (fC (.int 1))) faNil))))))) faNil)))) fsNil) fsNil) (fsSeq (fsIf (fBl (fBin eqC (fVar 6) (fC (.int 1)))) (fsSeq (fsRet (fTup (faCons (fCall (tf 12) (faCons (fVar 0) (faCons (fLst false (faCons (fC (.str [97, 110, 100])) (faCons (fC (.str [111, 114])) faNil))) faNil))) (faCons (fCall (tf 23) (faCons (fVar 0) (faCons (fVar 1) (faCons (fVar 2) (faCons (fVar 3) (faCons (fVar 4) (faCons (fBin subP (fVar 5) (fC (.int 1))) faNil))))))) (faCons (fCall (tf 23) (faCons (fVar 0) (faCons (fVar 1) (faCons (fVar 2) (faCons (fVar 3) (faCons (fVar 4) (faCons (fBin subP (fVar 5) (fC (.int 1))) faNil))))))) faNil))))) fsNil) fsNil) (fsSeq (fsAsg (fCall (tf 12) (faCons (fVar 0) (faCons (fLst false (faCons (fTup (faCons (fC (.str [110, 117, 109])) (faCons (fC (.int 3)) faNil))) (faCons (fTup (faCons (fC (.str [110, 117, 109])) (faCons (fC (.int 5)) faNil))) faNil))) faNil))) (gtName 7)) (fsSeq (fsRet (fTup (faCons (fC (.str [109, 97, 116, 104])) (faCons (fCall (tf 12) (faCons (fVar 0) (faCons (fLst false (faCons (fC (.str [108, 101, 115, 115])) (faCons (fC (.str [115, 97, 109, 101])) faNil))) faNil))) (faCons (fCall (tf 23) (faCons (fVar 0) (faCons (fVar 1) (faCons (fVar 7) (faCons (fVar 3) (faCons (fVar 4) (faCons (fBin subP (fVar 5) (fC (.int 1))) faNil))))))) (faCons (fCall (tf 23) (faCons (fVar 0) (faCons (fVar 1) (faCons (fVar 7) (faCons (fVar 3) (faCons (fVar 4) (faCons (fBin subP (fVar 5) (fC (.int 1))) faNil))))))) faNil)))))) fsNil))))))
theorem e25 (tf tfm : Nat → FF) : evb S D tf tfm 25 = fnF 6 8 (b25 tf tfm) := by kernel_rfl
def b26 (tf tfm : Nat → FF) : FS := (fsSeq (fsAsg (fSlc (fLst false (faCons (fC (.str [109, 97])) (faCons (fC (.str [109, 98])) (faCons (fC (.str [109, 99])) faNil)))) foNone (foSome (fBin addP (fC (.int 1)) (fCall (tf 11) (faCons (fVar 0) (faCons (fC (.int 3)) faNil)))))) (gtName 5)) (fsSeq (fsAsg (fDisp false [((fC (.str [109, 111, 100, 101, 115])), (fC (.bl true))), ((fC (.str [101, 118, 101, 114, 121])), (fBin idxP (fVar 1) (fC (.str [101, 118, 101, 114, 121])))), ((fC (.str [110, 111, 100, 101, 115])), (fBin idxP (fVar 1) (fC (.str [110, 111, 100, 101, 115])))), ((fC (.str [99, 97, 108, 108, 115])), (fBin idxP (fVar 1) (fC (.str [99, 97, 108, 108, 115]))))]) (gtName 6)) (fsSeq (fsAsg (fTup faNil) (gtName 7)) (fsSeq (fsFor (fiVal (fVar 5)) (gtName 8) (fsSeq (fsAsg (fcB tupB (faCons (fComp false [10] (fiRng1 (fCall (tf 11) (faCons (fVar 0) (faCons (fC (.int 3)) faNil)))) (gtName 10) ftYes (fTup (faCons (fCall (tf 23) (faCons (fVar 0) (faCons (fVar 6) (faCons (fTup (faCons (fC (.str [98, 111, 111, 108])) faNil)) (faCons (fVar 3) (faCons (fVar 4) (faCons (fC (.int 1)) faNil))))))) (faCons (fCall (tf 12) (faCons (fVar 0) (faCons (fVar 5) faNil))) faNil)))) faNil)) (gtName 9)) (fsSeq (fsAsg (fBin addP (fVar 7) (fTup (faCons (fTup (faCons (fVar 8) (faCons (fTup (faCons (fCall (tf 23) (faCons (fVar 0) (faCons (fVar 6) (faCons (fVar 2) (faCons (fVar 3) (faCons (fVar 4) (faCons (fC (.int 2)) faNil))))))) faNil)) (faCons (fVar 9) faNil)))) faNil))) (gtName 7)) fsNil))) (fsSeq (fsRet (fTup (faCons (fC (.str [109, 111, 100, 101, 115])) (faCons (fVar 7) faNil)))) fsNil)))))
theorem e26 (tf tfm : Nat → FF) : evb S D tf tfm 26 = fnF 5 11 (b26 tf tfm) := by kernel_rfl
def b27 (tf tfm : Nat → FF) : FS := (fsSeq (fsAsg (fLst false (faCons (fTup (faCons (fC (.str [98, 111, 111, 108])) faNil)) (faCons (fTup (faCons (fC (.str [110, 117, 109])) (faCons (fC (.int 3)) faNil))) (faCons (fTup (faCons (fC (.str [110, 117, 109])) (faCons (fC (.int 5)) faNil))) faNil)))) (gtName 3)) (fsSeq (fsAsg (fcB tupB (faCons (fComp false [7] (fiRng1 (fBin addP (fC (.int 1)) (fCall (tf 11) (faCons (fVar 0) (faCons (fC (.int 2)) faNil))))) (gtName 7) ftYes (fTup (faCons (fCall (tf 22) (faCons (fVar 7) faNil)) (faCons (fCall (tf 12) (faCons (fVar 0) (faCons (fVar 3) faNil))) faNil)))) faNil)) (gtName 4)) (fsSeq (fsAsg (fTup (faCons (fDNew true) (faCons (fLst true faNil) (faCons (fDNew true) faNil)))) (gtTup 3 (gsCons (gtName 12) (gsCons (gtName 13) (gsCons (gtName 14) gsNil))))) (fsSeq (fsFor (fiVal (fVar 4)) (gtTup 2 (gsCons (gtName 10) (gsCons (gtName 15) gsNil))) (fsSeq (fsAsg (fTup (faCons (fTup (faCons (fVar 15) (faCons (fTup faNil) faNil))) (faCons (fTup (faCons (fVar 15) (faCons (fTup faNil) faNil))) faNil))) (gtTup 2 (gsCons (gtSub (fVar 12) (fVar 10)) (gsCons (gtSub (fVar 14) (fVar 10)) gsNil)))) fsNil)) (fsSeq (fsAsg (fBin addP (fC (.int 1)) (fCall (tf 11) (faCons (fVar 0) (faCons (fC (.int 3)) faNil)))) (gtName 5)) (fsSeq (fsAsg (fTup faNil) (gtName 6)) (fsSeq (fsFor (fiRng1 (fBin addP (fBin addP (fVar 5) (fC (.int 1))) (fCall (tf 11) (faCons (fVar 0) (faCons (fC (.int 2)) faNil))))) (gtName 7) (fsSeq (fsAsg (fTup (faCons (fCall (tf 22) (faCons (fBin addP (fC (.int 10)) (fVar 7)) faNil)) (faCons (fTup faNil) faNil))) (gtTup 2 (gsCons (gtName 10) (gsCons (gtName 18) gsNil)))) (fsSeq (fsFor (fiRng1 (fIte (fBl (fBin ltC (fVar 7) (fVar 5))) (fC (.int 2)) (fC (.int 0)))) (gtName 16) (fsSeq (fsAsg (fcB (srtT false) (faCons (fLock 12 (fComp false [20] (fiKeys (fVar 12)) (gtName 20) (fBl (fBin eqC (fBin idxP (fVar 12) (fVar 20)) (fTup (faCons (fTup (faCons (fC (.str [98, 111, 111, 108])) faNil)) (faCons (fVar 18) faNil))))) (fVar 20))) faNil)) (gtName 19)) (fsSeq (fsAsg (fIte (tfAnd (fBl (fBin neC (fVar 19) (fLst false faNil))) (fBl (fBin eqC (fCall (tf 11) (faCons (fVar 0) (faCons (fC (.int 3)) faNil))) (fC (.int 0))))) (fBin addP (fVar 18) (fTup (faCons (fTup (faCons (fCall (tf 12) (faCons (fVar 0) (faCons (fVar 19) faNil))) (faCons (fCall (tf 11) (faCons (fVar 0) (faCons (fC (.int 2)) faNil))) faNil))) faNil))) (fVar 18)) (gtName 18)) fsNil))) (fsSeq (fsAsg (fTup (faCons (fCall (tf 12) (faCons (fVar 0) (faCons (fVar 3) faNil))) (faCons (fVar 18) faNil))) (gtSub (fVar 12) (fVar 10))) (fsSeq (fsDrop (fBM isLst appM (fVar 13) (faCons (fVar 10) faNil))) (fsSeq (fsAsg (fIte (fBl (fBin geC (fVar 7) (fVar 5))) (fBin addP (fVar 6) (fTup (faCons (fTup (faCons (fVar 10) (faCons (fBin idxP (fBin idxP (fVar 12) (fVar 10)) (fC (.int 0))) faNil))) faNil))) (fVar 6)) (gtName 6)) fsNil)))))) (fsSeq (fsAsg (fDisp false [((fC (.str [109, 111, 100, 101, 115])), (fC (.bl false))), ((fC (.str [101, 118, 101, 114, 121])), (fVar 12)), ((fC (.str [110, 111, 100, 101, 115])), (fVar 2)), ((fC (.str [99, 97, 108, 108, 115])), (fLst true faNil))]) (gtName 8)) (fsSeq (fsAsg (fLst true faNil) (gtName 9)) (fsSeq (fsFrzV 13 (fsFor (fiVal (fVar 13)) (gtName 10) (fsSeq (fsAsg (fBin idxP (fVar 12) (fVar 10)) (gtTup 2 (gsCons (gtName 15) (gsCons (gtName 18) gsNil)))) (fsSeq (fsAsg (fIte (fBl (fBin eqC (fCall (tf 11) (faCons (fVar 0) (faCons (fC (.int 5)) faNil))) (fC (.int 0)))) (fCall (tf 26) (faCons (fVar 0) (faCons (fVar 8) (faCons (fVar 15) (faCons (fVar 18) (faCons (fVar 14) faNil)))))) (fCall (tf 23) (faCons (fVar 0) (faCons (fVar 8) (faCons (fVar 15) (faCons (fVar 18) (faCons (fVar 14) (faCons (fBin addP (fC (.int 1)) (fCall (tf 11) (faCons (fVar 0) (faCons (fC (.int 3)) faNil)))) faNil)))))))) (gtName 17)) (fsSeq (fsDrop (fBM isLst appM (fVar 9) (faCons (fTup (faCons (fTup (faCons (fVar 10) faNil)) (faCons (fVar 17) faNil))) faNil))) (fsSeq (fsAsg (fBin idxP (fVar 12) (fVar 10)) (gtSub (fVar 14) (fVar 10))) fsNil)))))) (fsSeq (fsAsg (fcB tupB (faCons (fComp false [10] (fiVal (fVar 13)) (gtName 10) (fBl (fBin ninC (fVar 10) (fComp false [1, 15] (fiVal (fVar 6)) (gtTup 2 (gsCons (gtName 1) (gsCons (gtName 15) gsNil))) ftYes (fVar 1)))) (fBin addP (fTup (faCons (fVar 10) faNil)) (fBin idxP (fVar 12) (fVar 10)))) faNil)) (gtName 11)) (fsSeq (fsRet (fTup (faCons (fVar 1) (faCons (fVar 4) (faCons (fVar 6) (faCons (fVar 11) (faCons (fcB tupB (faCons (fCall (tf 14) (faCons (fVar 0) (faCons (fVar 9) faNil))) faNil)) faNil))))))) fsNil))))))))))))
theorem e27 (tf tfm : Nat → FF) : evb S D tf tfm 27 = fnF 3 21 (b27 tf tfm) := by kernel_rfl
def b28 (tf tfm : Nat → FF) : FS := (fsSeq (fsRet (fBin idxP (fComp false [1] (fiVal (fBin idxP (fVar 0) (fC (.int 0)))) (gtName 1) (fBl (fBin eqC (fBin idxP (fVar 1) (fC (.int 0))) (fBin idxP (fVar 0) (fC (.int 1))))) (fVar 1)) (fC (.int 0)))) fsNil)
theorem e28 (tf tfm : Nat → FF) : evb S D tf tfm 28 = fnF 1 2 (b28 tf tfm) := by kernel_rfl
def b29 (tf tfm : Nat → FF) : FS := (fsSeq (fsAsg (fCall (tf 28) (faCons (fVar 1) faNil)) (gtName 3)) (fsSeq (fsRet (fcB tupB (faCons (fComp false [4] (fiRng1 (fBin addP (fC (.int 1)) (fCall (tf 11) (faCons (fVar 0) (faCons (fVar 2) faNil))))) (gtName 4) ftYes (fcB tupB (faCons (fComp false [5, 6] (fiVal (fBin idxP (fVar 3) (fC (.int 1)))) (gtTup 2 (gsCons (gtName 5) (gsCons (gtName 6) gsNil))) ftYes (fCall (tf 11) (faCons (fVar 0) (faCons (fCall (tf 20) (faCons (fVar 6) faNil)) faNil)))) faNil))) faNil))) fsNil))
theorem e29 (tf tfm : Nat → FF) : evb S D tf tfm 29 = fnF 3 7 (b29 tf tfm) := by kernel_rfl
def b30 (tf tfm : Nat → FF) : FS := (fsSeq (fsAsg (fLst true faNil) (gtName 1)) (fsSeq (fsFor (fiVal (fSlc (fLst false (faCons (fC (.str [97, 97])) (faCons (fC (.str [109, 97, 105, 110])) faNil))) (foSome (fCall (tf 11) (faCons (fVar 0) (faCons (fC (.int 2)) faNil)))) foNone)) (gtName 2) (fsSeq (fsDrop (fBM isLst appM (fVar 1) (faCons (fCall (tf 27) (faCons (fVar 0) (faCons (fVar 2) (faCons (fcB (lstB false) (faCons (fVar 1) faNil)) faNil)))) faNil))) fsNil)) (fsSeq (fsRet (fTup (faCons (fcB tupB (faCons (fcB (srtT false) (faCons (fVar 1) faNil)) faNil)) (faCons (fC (.str [109, 97, 105, 110])) faNil)))) fsNil)))
theorem e30 (tf tfm : Nat → FF) : evb S D tf tfm 30 = fnF 1 3 (b30 tf tfm) := by kernel_rfl
def b31 (tf tfm : Nat → FF) : FS := (fsSeq (fsTry [(1, true)] (fsSeq (fsRet (fLst false (faCons (fCall (tf 7) (faCons (fVar 0) faNil)) faNil))) fsNil) .non) fsNil)
theorem e31 (tf tfm : Nat → FF) : evb S D tf tfm 31 = fnF 1 1 (b31 tf tfm) := by kernel_rfl
def b32 (tf tfm : Nat → FF) : FS := (fsSeq (fsAsg (fCall (tf 9) (faCons (fVar 0) faNil)) (gtName 1)) (fsSeq (fsAsg (fLst false (faCons (fC (.str [])) (faCons (fC (.str [32])) (faCons (fC (.str [91])) (faCons (fC (.str [93])) (faCons (fC (.str [91, 93])) (faCons (fC (.str [91, 32, 93])) (faCons (fC (.str [91, 49, 32, 93])) (faCons (fC (.str [91, 32, 49, 93])) (faCons (fC (.str [91, 49, 32, 32, 50, 93])) (faCons (fC (.str [91, 49, 32, 50])) (faCons (fC (.str [49, 32, 50])) (faCons (fC (.str [91, 49, 93, 32])) (faCons (fC (.str [32, 91, 49, 93])) (faCons (fC (.str [91, 49, 93, 91, 50, 93])) (faCons (fC (.str [91, 91, 93])) (faCons (fC (.str [91, 93, 93])) (faCons (fC (.str [45])) (faCons (fC (.str [45, 48])) (faCons (fC (.str [48, 48])) (faCons (fC (.str [48, 49])) (faCons (fC (.str [45, 48, 49])) (faCons (fC (.str [49, 48, 48, 48, 48, 48, 48])) (faCons (fC (.str [45, 57, 57, 57, 57, 57, 57])) faNil)))))))))))))))))))))))) (gtName 2)) (fsSeq (fsAsg (fBin addP (fVar 2) (fLst false (faCons (fC (.str [97])) (faCons (fC (.str [65])) (faCons (fC (.str [97, 49])) (faCons (fC (.str [49, 97])) (faCons (fC (.str [91, 97, 32, 98, 93])) (faCons (fC (.str [91, 97, 45, 49, 93])) (faCons (fC (.str [91, 49, 44, 50, 93])) (faCons (fC (.str [45, 45, 49])) (faCons (fC (.str [43, 49])) (faCons (fC (.str [91, 49, 91, 50, 93, 93])) (faCons (fC (.str [91, 91, 49, 93, 50, 93])) (faCons (fC (.str [91, 91, 49, 93, 97, 93])) (faCons (fC (.str [97, 95])) (faCons (fC (.str [91, 97, 49, 97, 32, 49, 93])) faNil)))))))))))))))) (gtName 2)) (fsSeq (fsAsg (fBin addP (fVar 2) (fLst false (faCons (fBin addP (fBin mulP (fC (.str [91])) (fC (.int 310))) (fBin mulP (fC (.str [93])) (fC (.int 310)))) (faCons (fBin addP (fBin mulP (fC (.str [91])) (fC (.int 311))) (fBin mulP (fC (.str [93])) (fC (.int 311)))) (faCons (fBin mulP (fC (.str [91])) (fC (.int 500))) (faCons (fBin addP (fBin addP (fBin mulP (fC (.str [91])) (fC (.int 309))) (fC (.str [49]))) (fBin mulP (fC (.str [93])) (fC (.int 309)))) faNil)))))) (gtName 2)) (fsSeq (fsFor (fiRng1 (fC (.int 6))) (gtName 3) (fsSeq (fsAsg (fCall (tf 0) (faCons (fCall (tf 12) (faCons (fVar 1) (faCons (fLst false (faCons (fCall (tf 29) (faCons (fVar 1) (faCons (fCall (tf 30) (faCons (fVar 1) faNil)) (faCons (fC (.int 4)) faNil)))) (faCons (fCall (tf 19) (faCons (fVar 1) (faCons (fC (.int 4)) faNil))) (faCons (fTup (faCons (fTup (faCons (fC (.int 3)) (faCons (fC (.int 4)) faNil))) (faCons (fTup (faCons (fC (.str [103, 105, 118, 101])) (faCons (fC (.int 7)) faNil))) faNil))) faNil)))) faNil))) faNil)) (gtName 4)) (fsSeq (fsAsg (fBin addP (fBin addP (fVar 2) (fComp false [5] (fiRng1 (fC (.int 4))) (gtName 5) ftYes (fCall (tf 13) (faCons (fVar 1) (faCons (fVar 4) (faCons (fC (.str cs4)) faNil)))))) (fLst false (faCons (fVar 4) (faCons (fBin addP (fVar 4) (fC (.str [93]))) (faCons (fBin addP (fBin addP (fC (.str [91])) (fVar 4)) (fC (.str [93]))) (faCons (fBin addP (fVar 4) (fC (.str [32, 49]))) (faCons (fBin addP (fBin addP (fC (.str [91])) (fVar 4)) (fC (.str [32, 120, 93]))) faNil))))))) (gtName 2)) fsNil))) (fsSeq (fsFor (fiVal (fVar 2)) (gtName 4) (fsSeq (fsIf (tfNot (fTru (fCall (tf 8) (faCons (fCall (tf 31) (faCons (fVar 4) faNil)) (faCons (fCall (tf 18) (faCons (fVar 4) faNil)) faNil))))) (fsSeq (fsRet (fC (.bl false))) fsNil) fsNil) fsNil)) (fsSeq (fsRet (fC (.bl true))) fsNil)))))))
theorem e32 (tf tfm : Nat → FF) : evb S D tf tfm 32 = fnF 1 6 (b32 tf tfm) := by kernel_rfl
end K13
set_option maxHeartbeats 4000000
namespace K13
open Pv PySem L2
abbrev E (i : Nat) : Nat → FF := evd S D i
theorem E_succ (i j : Nat) : E (i + 1) j = evb S D (E i) (ev2 S D 3).1 j := rfl
theorem spec_spread {i : Nat} {c : Int} {st : Store} {Q : PV → Store → Prop} (h : ∀ r, Q (.int r) st) : Sat (E (i + 1) 10 [.int c] st) Q := by
  rw [E_succ, e10]
  refine Sat_fnF rfl ?_
  unfold b10
  have e3 : rngL 0 4 = [.int 0, .int 1, .int 2, .int 3] := rfl
  simp -dsimp -implicitDefEqProofs [e3]
  refine SatS_for (fun l sg st' => st' = st ∧ (∃ m t o, sg = [some (.int c), some (.int m), some (.int t), o]) ∧ ∀ x ∈ l, ∃ k, x = PV.int k) ?_ ?_ _ _ _ ⟨rfl, ⟨_, _, _, rfl⟩, by simp⟩
  · rintro sg st' ⟨rfl, ⟨m, t, o, rfl⟩, _⟩
    simp -dsimp -implicitDefEqProofs
    exact h _
  · rintro p ps sg st' ⟨rfl, ⟨m, t, o, rfl⟩, hl⟩
    obtain ⟨k, rfl⟩ := hl p List.mem_cons_self
    simp -dsimp -implicitDefEqProofs
    exact fun x hx => hl x (List.mem_cons_of_mem _ hx)
/-- the pool of draws in cell n -/
def PoolAt (n : Nat) (st : Store) : Prop := ∃ (xs : List Int) (a b c d : Int), st[n]? = some (.lst [.lst (xs.map .int), .int a, .int b, .int c, .int d]) ∧ 0 ≤ a
theorem spec_draw {i n : Nat} {m : Int} {st : Store} {Q : PV → Store → Prop} (hp : PoolAt n st) (h0 : 0 < m) (h1 : m < 1073741824)
    (h : ∀ r c, 0 ≤ r → r < m → PoolAt n (st.set n c) → Q (.int r) (st.set n c)) : Sat (E (i + 2) 11 [.ref n, .int m] st) Q := by
  obtain ⟨xs, a, b, c, d, hn, ha⟩ := hp
  rw [E_succ, e11]
  refine Sat_fnF rfl ?_
  unfold b11
  have hz : n < st.length := (List.getElem?_eq_some_iff.mp hn).1
  have fin : ∀ (r : Int) (a b c d : Int), 0 ≤ a → 0 ≤ r → r < m → Q (.int r) (st.set n (.lst [.lst (xs.map .int), .int a, .int b, .int c, .int d])) := fun r a b c d ha h2 h3 =>
    h r _ h2 h3 ⟨xs, a, b, c, d, set_get hn, ha⟩
  have md : ∀ x : Int, 0 ≤ x % m ∧ x % m < m := fun x => ⟨Int.emod_nonneg _ (by omega), Int.emod_lt_of_pos _ h0⟩
  by_cases hb : b ≤ 0
  · by_cases hl : a < xs.length
    · simp -dsimp -implicitDefEqProofs [L2.atI, idxP_ref hn, lenB_ref hn, hb, hl, ha, setP_ref hn, idxP_set hz, setP_set hz]
      generalize xs[a.toNat] = x
      by_cases hs : x < 1000000000000000000
      · simp -dsimp -implicitDefEqProofs [hs]
        refine spec_spread fun r => ?_
        simp -dsimp -implicitDefEqProofs [idxP_set hz, setP_set hz]
        by_cases hr : r ≤ 0
        · simp -dsimp -implicitDefEqProofs [hr, idxP_set hz, setP_set hz, h0, h1]
          exact fin _ _ _ _ _ (by omega) (md _).1 (md _).2
        · simp -dsimp -implicitDefEqProofs [hr, idxP_set hz, setP_set hz, h0, h1]
          exact fin _ _ _ _ _ (by omega) (md _).1 (md _).2
      · have hr : ¬ x ≤ 0 := by omega
        simp -dsimp -implicitDefEqProofs [hs, hr, idxP_set hz, setP_set hz, h0, h1]
        exact fin _ _ _ _ _ (by omega) (md _).1 (md _).2
    · simp -dsimp -implicitDefEqProofs [idxP_ref hn, lenB_ref hn, hb, hl, setP_ref hn, idxP_set hz, setP_set hz, h0, h1]
      exact fin _ _ _ _ _ (by omega) (md _).1 (md _).2
  · simp -dsimp -implicitDefEqProofs [idxP_ref hn, lenB_ref hn, hb, setP_ref hn, idxP_set hz, setP_set hz, h0, h1]
    exact fin _ _ _ _ _ (by omega) (md _).1 (md _).2
/-- all cells but the pool's stay; more may come -/
def Fr (st st' : Store) : Prop := st.length ≤ st'.length ∧ ∀ k, k ≠ 0 → k < st.length → st'[k]? = st[k]?
theorem Fr.refl (st : Store) : Fr st st := ⟨Nat.le_refl _, fun _ _ _ => rfl⟩
theorem Fr.trans {a b c : Store} (h : Fr a b) (k : Fr b c) : Fr a c := ⟨Nat.le_trans h.1 k.1, fun j h0 h1 => (k.2 j h0 (Nat.lt_of_lt_of_le h1 h.1)).trans (h.2 j h0 h1)⟩
theorem Fr.set (st : Store) (c : Cell) : Fr st (st.set 0 c) := ⟨by simp, fun k h0 _ => by rw [List.getElem?_set_ne (Ne.symm h0)]⟩
theorem Fr.app (st : Store) (c : Cell) : Fr st (st ++ [c]) := ⟨by simp, fun k _ h => List.getElem?_append_left h⟩
theorem Fr.get {st st' : Store} (h : Fr st st') {k : Nat} {c : Cell} (h0 : k ≠ 0) (e : st[k]? = some c) : st'[k]? = some c := (h.2 k h0 (List.getElem?_eq_some_iff.mp e).1).trans e
abbrev Pool (st : Store) : Prop := PoolAt 0 st
theorem draw {i : Nat} {m : Int} {st : Store} {Q : PV → Store → Prop} (hp : Pool st) (h0 : 0 < m) (h1 : m < 1073741824)
    (h : ∀ r st', 0 ≤ r → r < m → Pool st' → Fr st st' → st'.length = st.length → Q (.int r) st') : Sat (E (i + 2) 11 [.ref 0, .int m] st) Q :=
  spec_draw hp h0 h1 fun r c h2 h3 h4 => h r _ h2 h3 h4 (.set _ _) (by simp)
theorem at_some {α : Type} {xs : List α} {r : Int} (h0 : 0 ≤ r) (h1 : r < xs.length) : ∃ x, x ∈ xs ∧ L2.atI xs r = some x := by
  have hl : r.toNat < xs.length := by omega
  refine ⟨xs[r.toNat], List.getElem_mem hl, ?_⟩
  simp -dsimp -implicitDefEqProofs [L2.atI, h0, h1, hl]
theorem pick_lst {i : Nat} {xs : List PV} {st : Store} {Q : PV → Store → Prop} (hp : Pool st) (h0 : xs ≠ []) (h1 : xs.length < 1073741824)
    (h : ∀ x st', x ∈ xs → Pool st' → Fr st st' → st'.length = st.length → Q x st') : Sat (E (i + 3) 12 [.ref 0, .lst xs] st) Q := by
  have hl : 0 < xs.length := List.length_pos_iff.mpr h0
  rw [E_succ, e12]
  refine Sat_fnF rfl ?_
  unfold b12
  simp -dsimp -implicitDefEqProofs
  refine draw hp (by omega) (by omega) fun r st' h2 h3 h4 h5 h6 => ?_
  obtain ⟨x, hx, e⟩ := at_some h2 h3
  simp -dsimp -implicitDefEqProofs [e]
  exact h x st' hx h4 h5 h6
theorem pick_tup {i : Nat} {xs : List PV} {st : Store} {Q : PV → Store → Prop} (hp : Pool st) (h0 : xs ≠ []) (h1 : xs.length < 1073741824)
    (h : ∀ x st', x ∈ xs → Pool st' → Fr st st' → st'.length = st.length → Q x st') : Sat (E (i + 3) 12 [.ref 0, .tup xs] st) Q := by
  have hl : 0 < xs.length := List.length_pos_iff.mpr h0
  rw [E_succ, e12]
  refine Sat_fnF rfl ?_
  unfold b12
  simp -dsimp -implicitDefEqProofs
  refine draw hp (by omega) (by omega) fun r st' h2 h3 h4 h5 h6 => ?_
  obtain ⟨x, hx, e⟩ := at_some h2 h3
  simp -dsimp -implicitDefEqProofs [e]
  exact h x st' hx h4 h5 h6
/-- _law_pool -/
theorem spec_pool {i : Nat} {ns : List Int} {Q : PV → Store → Prop} (h : ∀ st, Pool st → st.length = 1 → Q (.ref 0) st) : Sat (E (i + 1) 9 [.scr (ns.map .int)] []) Q := by
  rw [E_succ, e9]
  refine Sat_fnF rfl ?_
  unfold b9
  have hc : ∀ x ∈ cutP (ns.map PV.int) none (some 63), ∃ k, x = PV.int k := fun x hx => by
    have : x ∈ ns.map PV.int := List.mem_of_mem_drop (List.mem_of_mem_take hx)
    obtain ⟨k, _, e⟩ := List.mem_map.mp this
    exact ⟨k, e.symm⟩
  simp -dsimp -implicitDefEqProofs [slcP, frzP, iterV]
  generalize cutP (ns.map PV.int) none (some 63) = l at hc ⊢
  refine SatS_for (fun l sg st => (∀ x ∈ l, ∃ k, x = PV.int k) ∧ st = [] ∧ ∃ k o, sg = [some (.scr (ns.map .int)), some (.int k), o]) ?_ ?_ l _ _ ⟨hc, rfl, _, _, rfl⟩
  · rintro sg st ⟨_, rfl, k, o, rfl⟩
    have h5 : 5 ≤ sizeLine := by rw [sizeLine_eq]; decide
    simp -dsimp -implicitDefEqProofs [lstB, asQ, asR, newL, h5]
    exact h _ ⟨ns, 0, 0, 0, k, rfl, Int.le_refl 0⟩ rfl
  · rintro p ps sg st ⟨hl, rfl, k, o, rfl⟩
    obtain ⟨q, rfl⟩ := hl p List.mem_cons_self
    simp -dsimp -implicitDefEqProofs
    exact fun x hx => hl x (List.mem_cons_of_mem _ hx)
end K13
/-! k13: the texts of values. -/
namespace K13
open Pv PySem L2
mutual
def textOf : PV → List Nat
  | .tup xs => 91 :: (joinL [32] (textsOf xs) ++ [93])
  | .int i => strI i
  | .str s => s
  | _ => []
def textsOf : List PV → List (List Nat)
  | [] => []
  | p :: ps => textOf p :: textsOf ps
end
theorem textsOf_map : ∀ ps : List PV, textsOf ps = ps.map textOf
  | [] => rfl
  | p :: ps => by rw [textsOf, List.map_cons, textsOf_map ps]
/-- a word: letters and figures, a letter first -/
def Word (s : List Nat) : Prop := ∃ c r, s = c :: r ∧ (97 ≤ c ∧ c ≤ 122) ∧ ∀ x ∈ r, (97 ≤ x ∧ x ≤ 122) ∨ (48 ≤ x ∧ x ≤ 57)
/-- values that have texts, d deep, tuples of at most m -/
def Tx (m : Nat) : Nat → PV → Prop
  | _, .int i => i.natAbs < 1000000
  | _, .str s => Word s ∧ s.length ≤ 7
  | d + 1, .tup xs => xs.length ≤ m ∧ ∀ x ∈ xs, Tx m d x
  | _, _ => False
def bodyT (g : FF) : FS := (fsSeq (fsIf (fTru (fIsi .tuple (fVar 0))) (fsSeq (fsRet (fBin addP (fBin addP (fC (.str [91])) (fBM isStr joinM (fC (.str [32])) (faCons (fComp false [1] (fiVal (fVar 0)) (gtName 1) ftYes (fCall g (faCons (fVar 1) faNil))) faNil))) (fC (.str [93])))) fsNil) fsNil) (fsSeq (fsRet (fcB strB (faCons (fVar 0) faNil))) fsNil))
theorem strL_map : ∀ ps : List PV, (∀ p ∈ ps, True) → strL (ps.map fun p => PV.str (textOf p)) = some (ps.map textOf)
  | [], _ => rfl
  | p :: ps, h => by
    have ih := strL_map ps fun _ _ => trivial
    simp -dsimp -implicitDefEqProofs [strL, ih]
theorem join_len (ss : List (List Nat)) : (joinL [32] ss).length + 1 ≥ (ss.map (·.length)).sum + ss.length := by
  induction ss with
  | nil => simp [joinL]
  | cons a r ih =>
    cases r with
    | nil => simp [joinL]
    | cons b t =>
      simp only [joinL, List.length_append, List.map_cons, List.sum_cons, List.length_cons, List.length_nil] at ih ⊢
      omega
theorem mem_len : ∀ {xs : List PV} {p : PV}, p ∈ xs → (textOf p).length ≤ ((xs.map textOf).map (·.length)).sum
  | [], _, h => absurd h (by simp)
  | x :: r, p, h => by
    simp only [List.map_cons, List.sum_cons]
    rcases List.mem_cons.mp h with rfl | h
    · omega
    · have := mem_len h
      omega
theorem spec_text {F : Nat → FF} (hF : ∀ i, F (i + 1) = fnF 1 2 (bodyT (F i))) {m : Nat} (hm : m ≤ 1000) : ∀ (d : Nat) (p : PV), Tx m d p → (textOf p).length ≤ 200000 → ∀ {i : Nat} {st : Store} {Q : PV → Store → Prop}, Q (.str (textOf p)) st → Sat (F (i + d + 1) [p] st) Q
  | d, .int k, ht, hl, i, st, Q, q => by
    rw [hF]
    refine Sat_fnF rfl ?_
    unfold bodyT
    have hk : k.natAbs < 1000000000000 := by have : k.natAbs < 1000000 := by cases d <;> exact ht
                                             omega
    simp -dsimp -implicitDefEqProofs [strB, hk]
    exact q
  | d, .str s, ht, hl, i, st, Q, q => by
    rw [hF]
    refine Sat_fnF rfl ?_
    unfold bodyT
    simp -dsimp -implicitDefEqProofs [strB]
    exact q
  | d + 1, .tup xs, ht, hl, i, st, Q, q => by
    obtain ⟨h1, h2⟩ := ht
    rw [show i + (d + 1) + 1 = (i + d + 1) + 1 by omega, hF]
    refine Sat_fnF rfl ?_
    unfold bodyT
    have hz : xs.length ≤ sizeLine := by rw [sizeLine_eq]; omega
    have hj : (textOf (.tup xs)).length = (joinL [32] (xs.map textOf)).length + 2 := by rw [textOf, textsOf_map]; simp
    have hjl := join_len (xs.map textOf)
    simp -dsimp -implicitDefEqProofs [fBM, isStr]
    refine Sat_fComp ?_
    simp -dsimp -implicitDefEqProofs [frzP, iterV, hz]
    refine Sat_map (φ := fun p => .str (textOf p)) xs (fun p hp => ?_) ?_
    · simp -dsimp -implicitDefEqProofs [turnC, wipeS, ftYes]
      refine spec_text hF hm d p (h2 p hp) ?_ ?_
      · have := mem_len hp
        omega
      · simp -dsimp -implicitDefEqProofs
    · have e : strL (xs.map fun p => PV.str (textOf p)) = some (xs.map textOf) := strL_map xs fun _ _ => trivial
      have b0 : ((xs.map textOf).map (·.length)).sum + (xs.map textOf).length * 1 ≤ 16777216 := by
        have : (xs.map textOf).length = xs.length := by simp
        omega
      have b1 : (joinL [32] (xs.map textOf)).length ≤ 200000 := by omega
      have b2 : 1 + (joinL [32] (xs.map textOf)).length ≤ sizeLine := by rw [sizeLine_eq]; omega
      have b3 : 1 + (joinL [32] (xs.map textOf)).length + 1 ≤ sizeLine := by rw [sizeLine_eq]; omega
      have q : Q (.str (91 :: (joinL [32] (xs.map textOf) ++ [93]))) st := by rw [textOf, textsOf_map] at q; exact q
      have b4 : (joinL [32] (xs.map textOf)).length + 1 ≤ sizeLine := by omega
      have b5 : (joinL [32] (xs.map textOf)).length + 1 + 1 ≤ sizeLine := by omega
      have b0 : ((xs.map textOf).map (·.length)).sum + (xs.map textOf).length ≤ 16777216 := by omega
      simp [joinM, e, addP] at b0 ⊢
      simp -dsimp -implicitDefEqProofs [b0]
      simp -dsimp -implicitDefEqProofs [b4, b5, b2, b3, Nat.add_comm 1]
      exact q
  | 0, .tup _, ht, _, _, _, _, _ => ht.elim
  | 0, .non, ht, _, _, _, _, _ => ht.elim
  | 0, .bl _, ht, _, _, _, _, _ => ht.elim
  | 0, .lst _, ht, _, _, _, _, _ => ht.elim
  | 0, .scr _, ht, _, _, _, _, _ => ht.elim
  | 0, .dic _ _, ht, _, _, _, _, _ => ht.elim
  | 0, .ref _, ht, _, _, _, _, _ => ht.elim
  | _ + 1, .non, ht, _, _, _, _, _ => ht.elim
  | _ + 1, .bl _, ht, _, _, _, _, _ => ht.elim
  | _ + 1, .lst _, ht, _, _, _, _, _ => ht.elim
  | _ + 1, .scr _, ht, _, _, _, _, _ => ht.elim
  | _ + 1, .dic _ _, ht, _, _, _, _, _ => ht.elim
  | _ + 1, .ref _, ht, _, _, _, _, _ => ht.elim
end K13
/-! k13: signs; the same values are told the same. -/
namespace K13
open Pv PySem L2
theorem cs1_iff {c : Nat} : c ∈ cs1 ↔ c ∈ cs3 ∨ c ∈ cs0 := by
  simp only [cs1, cs3, cs0, List.mem_cons, List.not_mem_nil, or_false]
  omega
theorem cs30 {c : Nat} (h : c ∈ cs3) : c ∉ cs0 := by
  simp only [cs3, cs0, List.mem_cons, List.not_mem_nil, or_false] at h ⊢
  omega
/-- values that are told the same as themselves -/
def Sm : Nat → PV → Prop
  | d + 1, .tup xs => xs.length ≤ 200000 ∧ ∀ x ∈ xs, Sm d x
  | d + 1, .lst xs => xs.length ≤ 200000 ∧ ∀ x ∈ xs, Sm d x
  | _, .int _ => True
  | _, .str _ => True
  | _, .bl _ => True
  | _, .non => True
  | _, _ => False
theorem rng_mem {n : Nat} {p : PV} (h : p ∈ rngL 0 n) : ∃ k : Nat, k < n ∧ p = .int k := by
  unfold rngL at h
  obtain ⟨k, hk, e⟩ := List.mem_map.mp h
  exact ⟨k, List.mem_range.mp hk, by rw [← e]; simp⟩
theorem rng_len {n : Nat} : (rngL 0 n).length = n := by simp [rngL]
theorem atI_nat {α : Type} {xs : List α} {k : Nat} (h : k < xs.length) : L2.atI xs (k : Int) = some xs[k] := by
  simp -dsimp -implicitDefEqProofs [L2.atI, h]
theorem comp_same {xs : List PV} {st : Store} {g : FF} {a : PV} (ha : ∀ i, idxP a (.int i) st = L2.atI xs i) (hl : lenB [a] st = some (.int xs.length, st)) (hz : xs.length ≤ 200000) (hg : ∀ x ∈ xs, ∀ Q : PV → Store → Prop, Q (.bl true) st → Sat (g [x, x] st) Q) :
    Sat (fComp false [2] (fiRng1 (fcB lenB (faCons (fVar 1) faNil))) (gtName 2) (tfNot (fTru (fCall g (faCons (fBin idxP (fVar 0) (fVar 2)) (faCons (fBin idxP (fVar 1) (fVar 2)) faNil))))) (fVar 2) [some a, some a, none] st) fun p st' => p = .lst [] ∧ st' = st := by
  refine Sat_fComp ?_
  have h1 : (xs.length : Int) < 2 ^ 62 := by omega
  have h2 : -(2 ^ 62) ≤ (xs.length : Int) := by omega
  simp -dsimp -implicitDefEqProofs [hl]
  refine ⟨by omega, by rw [rng_len, sizeLine_eq]; omega, ?_⟩
  refine Sat_filter (c := fun _ => false) (φ := id) _ (fun p hp => ?_) ?_
  · obtain ⟨k, hk, rfl⟩ := rng_mem hp
    simp -dsimp -implicitDefEqProofs [turnC, wipeS, ha, atI_nat hk]
    refine hg _ (List.getElem_mem hk) _ ?_
    simp -dsimp -implicitDefEqProofs
  · simp -dsimp -implicitDefEqProofs
theorem same_int {i : Nat} {k : Int} {st : Store} {Q : PV → Store → Prop} (q : Q (.bl true) st) : Sat (E (i + 1) 8 [.int k, .int k] st) Q := by
  rw [E_succ, e8]
  refine Sat_fnF rfl ?_
  unfold b8
  simp -dsimp -implicitDefEqProofs [isC, isNon]
  exact q
theorem same_str {i : Nat} {k : List Nat} {st : Store} {Q : PV → Store → Prop} (q : Q (.bl true) st) : Sat (E (i + 1) 8 [.str k, .str k] st) Q := by
  rw [E_succ, e8]
  refine Sat_fnF rfl ?_
  unfold b8
  simp -dsimp -implicitDefEqProofs [isC, isNon]
  exact q
theorem same_bl {i : Nat} {k : Bool} {st : Store} {Q : PV → Store → Prop} (q : Q (.bl true) st) : Sat (E (i + 1) 8 [.bl k, .bl k] st) Q := by
  rw [E_succ, e8]
  refine Sat_fnF rfl ?_
  unfold b8
  simp -dsimp -implicitDefEqProofs [isC, isNon]
  exact q
theorem same_non {i : Nat} {st : Store} {Q : PV → Store → Prop} (q : Q (.bl true) st) : Sat (E (i + 1) 8 [.non, .non] st) Q := by
  rw [E_succ, e8]
  refine Sat_fnF rfl ?_
  unfold b8
  simp -dsimp -implicitDefEqProofs [isC, isNon]
  exact q
abbrev cmpT (g : FF) : FE := fComp false [2] (fiRng1 (fcB lenB (faCons (fVar 1) faNil))) (gtName 2) (tfNot (fTru (fCall g (faCons (fBin idxP (fVar 0) (fVar 2)) (faCons (fBin idxP (fVar 1) (fVar 2)) faNil))))) (fVar 2)
theorem same_tup {i : Nat} {xs : List PV} {st : Store} {Q : PV → Store → Prop} (hz : xs.length ≤ 200000) (hg : ∀ x ∈ xs, ∀ Q : PV → Store → Prop, Q (.bl true) st → Sat (E i 8 [x, x] st) Q) (q : Q (.bl true) st) : Sat (E (i + 1) 8 [.tup xs, .tup xs] st) Q := by
  have hi : ∀ i, idxP (.tup xs) (.int i) st = L2.atI xs i := fun i => by rw [idxP_tup]
  have fin := comp_same (g := E i 8) (a := .tup xs) hi (lenB_tup xs) hz hg
  rw [E_succ, e8]
  refine Sat_fnF rfl ?_
  unfold b8
  refine SatS_ret ?_
  generalize E i 8 = g at fin ⊢
  simp -dsimp -implicitDefEqProofs
  refine fin.mono fun p st' h => ?_
  obtain ⟨e0, e1⟩ := h
  rw [e0, e1]
  simp -dsimp -implicitDefEqProofs
  exact q
theorem same_lst {i : Nat} {xs : List PV} {st : Store} {Q : PV → Store → Prop} (hz : xs.length ≤ 200000) (hg : ∀ x ∈ xs, ∀ Q : PV → Store → Prop, Q (.bl true) st → Sat (E i 8 [x, x] st) Q) (q : Q (.bl true) st) : Sat (E (i + 1) 8 [.lst xs, .lst xs] st) Q := by
  have hi : ∀ i, idxP (.lst xs) (.int i) st = L2.atI xs i := fun i => by rw [idxP_lst]
  have fin := comp_same (g := E i 8) (a := .lst xs) hi (lenB_lst xs) hz hg
  rw [E_succ, e8]
  refine Sat_fnF rfl ?_
  unfold b8
  refine SatS_ret ?_
  generalize E i 8 = g at fin ⊢
  simp -dsimp -implicitDefEqProofs
  refine fin.mono fun p st' h => ?_
  obtain ⟨e0, e1⟩ := h
  rw [e0, e1]
  simp -dsimp -implicitDefEqProofs
  exact q
theorem spec_same {st : Store} : ∀ (d : Nat) (p : PV), Sm d p → ∀ {i : Nat} {Q : PV → Store → Prop}, Q (.bl true) st → Sat (E (i + d + 1) 8 [p, p] st) Q
  | d, .int k, _, i, Q, q => same_int q
  | d, .str k, _, i, Q, q => same_str q
  | d, .bl k, _, i, Q, q => same_bl q
  | d, .non, _, i, Q, q => same_non q
  | d + 1, .tup xs, ht, i, Q, q => same_tup ht.1 (fun x hx Q q => spec_same d x (ht.2 x hx) q) q
  | d + 1, .lst xs, ht, i, Q, q => same_lst ht.1 (fun x hx Q q => spec_same d x (ht.2 x hx) q) q
  | 0, .tup _, ht, _, _, _ => ht.elim
  | 0, .lst _, ht, _, _, _ => ht.elim
  | 0, .scr _, ht, _, _, _ => ht.elim
  | 0, .dic _ _, ht, _, _, _ => ht.elim
  | 0, .ref _, ht, _, _, _ => ht.elim
  | _ + 1, .scr _, ht, _, _, _ => ht.elim
  | _ + 1, .dic _ _, ht, _, _, _ => ht.elim
  | _ + 1, .ref _, ht, _, _, _ => ht.elim
theorem Tx.sm {m : Nat} (hm : m ≤ 200000) : ∀ {d : Nat} {p : PV}, Tx m d p → Sm d p
  | d, .int k, h => by cases d <;> exact True.intro
  | d, .str k, h => by cases d <;> exact True.intro
  | d + 1, .tup xs, h => ⟨by have := h.1; omega, fun x hx => (h.2 x hx).sm hm⟩
  | 0, .tup _, ht => ht.elim
  | 0, .non, ht => ht.elim
  | 0, .bl _, ht => ht.elim
  | 0, .lst _, ht => ht.elim
  | 0, .scr _, ht => ht.elim
  | 0, .dic _ _, ht => ht.elim
  | 0, .ref _, ht => ht.elim
  | _ + 1, .non, ht => ht.elim
  | _ + 1, .bl _, ht => ht.elim
  | _ + 1, .lst _, ht => ht.elim
  | _ + 1, .scr _, ht => ht.elim
  | _ + 1, .dic _ _, ht => ht.elim
  | _ + 1, .ref _, ht => ht.elim
theorem Pool.keep {n : Nat} {st st' : Store} (h : Pool st) (f : Frn n st st') (hn : n ≠ 0) : Pool st' := by
  obtain ⟨xs, a, b, c, d, e, ha⟩ := h
  exact ⟨xs, a, b, c, d, f.get (Ne.symm hn) e, ha⟩
theorem Pool.len {st : Store} (h : Pool st) : 0 < st.length := by
  obtain ⟨xs, a, b, c, d, e, ha⟩ := h
  exact (List.getElem?_eq_some_iff.mp e).1
end K13
/-! k13: the reader of values. -/
namespace K13
open Pv PySem L2
abbrev rdC (a b : List Nat) : Cell := .ins 0 [([116, 101, 120, 116], .str (a ++ b)), ([97, 116], .int a.length)]
def Rd (n : Nat) (a b : List Nat) (st : Store) : Prop := st[n]? = some (rdC a b)
theorem cut_one (a b : List Nat) : cutP (a ++ b) (some (a.length : Int)) (some ((a.length : Int) + 1)) = b.take 1 := by
  unfold cutP
  rw [HT.sIx_nat, show ((a.length : Int) + 1) = ((a.length + 1 : Nat) : Int) by omega, HT.sIx_nat]
  cases b with
  | nil => simp
  | cons x r =>
    have h1 : min a.length (a ++ x :: r).length = a.length := by simp
    have h2 : min (a.length + 1) (a ++ x :: r).length = a.length + 1 := by simp
    rw [h1, h2, List.drop_left, show a.length + 1 - a.length = 1 by omega]
theorem cut_mid (a m b : List Nat) : cutP (a ++ m ++ b) (some (a.length : Int)) (some ((a ++ m).length : Int)) = m := by
  unfold cutP
  rw [HT.sIx_nat, HT.sIx_nat]
  have h1 : min a.length (a ++ m ++ b).length = a.length := by simp
  have h2 : min (a ++ m).length (a ++ m ++ b).length = (a ++ m).length := by simp
  rw [h1, h2, List.append_assoc, List.drop_left, List.length_append, show a.length + m.length - a.length = m.length by omega, List.take_left]
section
variable {tf : Nat → FF}
theorem mt_next : mt tf "next_sign" 0 = some (tf 2) := by kernel_rfl
theorem mt_run : mt tf "run_of" 0 = some (tf 3) := by kernel_rfl
theorem mt_number : mt tf "number" 0 = some (tf 4) := by kernel_rfl
theorem mt_parts : mt tf "parts" 0 = some (tf 5) := by kernel_rfl
theorem mt_value : mt tf "value" 0 = some (tf 6) := by kernel_rfl
theorem ok_text : S.fldOk "text" 0 = true := by kernel_rfl
theorem ok_at : S.fldOk "at" 0 = true := by kernel_rfl
end
theorem Rd.ins {n : Nat} {a b : List Nat} {st : Store} (h : Rd n a b st) : insAt (.ref n) st = some (0, [([116, 101, 120, 116], .str (a ++ b)), ([97, 116], .int a.length)]) := by
  unfold insAt
  simp only [show st[n]? = some (rdC a b) from h]
theorem Rd.set {n : Nat} {a b a' b' : List Nat} {st : Store} (h : Rd n a b st) : Rd n a' b' (st.set n (rdC a' b')) := set_get h
theorem Rd.put {n : Nat} {a b : List Nat} {st : Store} {k : Int} (h : Rd n a b st) : setF (S.fldOk "at") [97, 116] (.ref n) (.int k) st = some (st.set n (.ins 0 [([116, 101, 120, 116], .str (a ++ b)), ([97, 116], .int k)])) := by
  unfold setF
  simp only [show st[n]? = some (rdC a b) from h, ok_at]
  rfl
theorem spec_next {n i : Nat} {a b : List Nat} {st : Store} {Q : PV → Store → Prop} (h : Rd n a b st) (q : Q (.str (b.take 1)) st) : Sat (E (i + 1) 2 [.ref n] st) Q := by
  rw [E_succ, e2]
  refine Sat_fnF rfl ?_
  unfold b2
  simp -dsimp -implicitDefEqProofs [h.ins, mtO, fldAug, lookF, slcP, cut_one]
  exact q
theorem Rd.go {n : Nat} {a b : List Nat} {x : Nat} : (Cell.ins 0 [([116, 101, 120, 116], PV.str (a ++ x :: b)), ([97, 116], PV.int ((a.length : Int) + 1))]) = rdC (a ++ [x]) b := by
  unfold rdC
  simp -dsimp -implicitDefEqProofs
theorem spec_run {n i : Nat} {a m b cs : List Nat} {st : Store} {Q : PV → Store → Prop} (h : Rd n a (m ++ b) st) (hm : ∀ x ∈ m, x ∈ cs) (hb : ∀ c r, b = c :: r → c ∉ cs) (hl : m.length < 900000000)
    (q : Q (.str m) (st.set n (rdC (a ++ m) b))) : Sat (E (i + 2) 3 [.ref n, .str cs] st) Q := by
  rw [E_succ, e3]
  refine Sat_fnF rfl ?_
  unfold b3
  simp -dsimp -implicitDefEqProofs [h.ins, mtO, fldAug, lookF]
  refine SatS_whileF (fun k sg st' => sg = [some (.ref n), some (.str cs), some (.int a.length)] ∧ ∃ m1 m2, m = m1 ++ m2 ∧ k = m2.length ∧ st' = st.set n (rdC (a ++ m1) (m2 ++ b))) m.length (by omega) ⟨rfl, [], m, rfl, rfl, ?_⟩ ?_
  · rw [List.append_nil, set_self h]
  · rintro k sg st' ⟨rfl, m1, m2, rfl, rfl, hs⟩
    have h' : Rd n (a ++ m1) (m2 ++ b) st' := by rw [hs]; exact h.set
    simp -dsimp -implicitDefEqProofs [h'.ins, mtO, fldAug, lookF, mt_next]
    refine spec_next h' ?_
    cases m2 with
    | nil =>
      have hm1 := cut_mid a m1 b
      simp only [List.append_nil, List.nil_append] at hs h' q
      rw [← hs] at q
      cases b with
      | nil =>
        simp at hm1
        simp -dsimp -implicitDefEqProofs [h'.ins, mtO, fldAug, lookF, slcP, hm1]
        exact q
      | cons c r =>
        have hc := hb c r rfl
        simp -dsimp -implicitDefEqProofs [h'.ins, mtO, fldAug, lookF, mt_next]
        refine spec_next h' ?_
        simp at hm1
        simp -dsimp -implicitDefEqProofs [hc, h'.ins, mtO, fldAug, lookF, slcP, hm1]
        exact q
    | cons x m3 =>
      have hx := hm x (by simp)
      simp only [List.cons_append] at h' hs
      simp -dsimp -implicitDefEqProofs [h'.ins, mtO, fldAug, lookF, mt_next]
      refine spec_next h' ?_
      simp -dsimp -implicitDefEqProofs [h'.ins, mtO, fldAug, lookF, hx, augP, h'.put]
      refine ⟨m3.length, by omega, m1 ++ [x], m3, by simp, rfl, ?_⟩
      rw [hs, List.set_set]
      congr 1
      simp -dsimp -implicitDefEqProofs [Int.add_assoc]
theorem numL_lead (n : Nat) : TL.numL n = [48] ∧ n = 0 ∨ ∃ c r, TL.numL n = c :: r ∧ c ≠ 48 := by
  induction n using Nat.strongRecOn with
  | ind n ih =>
    by_cases h : n < 10
    · rw [TL.numL_lt h]
      by_cases h0 : n = 0
      · exact .inl ⟨by rw [h0], h0⟩
      · exact .inr ⟨_, _, rfl, by omega⟩
    · rw [TL.numL_step (by omega)]
      rcases ih (n / 10) (by omega) with ⟨_, h0⟩ | ⟨c, r, e, hc⟩
      · omega
      · exact .inr ⟨c, r ++ [48 + n % 10], by rw [e]; rfl, hc⟩
theorem strI_pos {k : Int} (h : 0 ≤ k) : strI k = TL.numL k.natAbs := by unfold strI; rw [if_pos h]; rfl
theorem strI_neg {k : Int} (h : k < 0) : strI k = 45 :: TL.numL k.natAbs := by unfold strI; rw [if_neg (by omega)]; rfl
theorem cs0_iff {c : Nat} : c ∈ cs0 ↔ 48 ≤ c ∧ c ≤ 57 := by
  simp only [cs0, List.mem_cons, List.not_mem_nil, or_false]
  omega
theorem num_cs (n : Nat) : ∀ x ∈ TL.numL n, x ∈ cs0 := fun x hx => cs0_iff.mpr (TL.numL_digits n x hx)
theorem intB_num {n : Nat} (h : (TL.numL n).length ≤ 6) {st : Store} : intB [.str (TL.numL n)] st = some (.int n, st) := by
  have e := SX.int_S (a := TL.numL n) (List.all_eq_true.mpr fun c hc => by have := TL.numL_digits n c hc; simp [this]) (TL.numL_ne n) (by omega)
  rw [TL.numL_val] at e
  show (if (TL.numL n).length ≤ 640 then (intText? ⟨(TL.numL n).toArray⟩).map fun n => (PV.int n, st) else none) = _
  rw [if_pos (by omega)]
  show ((intText? (SX.S (TL.numL n))).map fun n => (PV.int n, st)) = _
  rw [e]
  rfl
end K13
/-! k13: the values that the law draws. -/
namespace K13
open Pv PySem L2
theorem Tx.int {m d : Nat} {k : Int} (h : k.natAbs < 1000000) : Tx m d (.int k) := by cases d <;> exact h
theorem Tx.str {m d : Nat} {s : List Nat} (h : Word s) (h1 : s.length ≤ 7) : Tx m d (.str s) := by cases d <;> exact ⟨h, h1⟩
def wordQ (s : List Nat) : Bool := match s with
  | [] => false
  | c :: r => (decide (97 ≤ c) && decide (c ≤ 122)) && r.all fun x => (decide (97 ≤ x) && decide (x ≤ 122)) || (decide (48 ≤ x) && decide (x ≤ 57))
theorem wordQ_iff {s : List Nat} (h : wordQ s = true) : Word s := by
  cases s with
  | nil => cases h
  | cons c r =>
    simp [wordQ] at h
    exact ⟨c, r, rfl, h.1, h.2⟩
theorem spec_some : ∀ (d : Nat) {i : Nat} {st : Store} {Q : PV → Store → Prop}, Pool st → (∀ p st', Tx 3 d p → Pool st' → Q p st') → Sat (E (i + d + 4) 19 [.ref 0, .int d] st) Q
  | d, i, st, Q, hp, q => by
    rw [E_succ, e19]
    refine Sat_fnF rfl ?_
    unfold b19
    simp -dsimp -implicitDefEqProofs
    refine draw hp (by omega) (by omega) fun r st1 h1 h2 hp1 _ _ => ?_
    by_cases hc : r < 2 ∨ d = 0
    · rcases (by omega : r < 2 ∨ ((¬ r < 2) ∧ d = 0)) with hr | ⟨hr, rfl⟩
      all_goals
        simp -dsimp -implicitDefEqProofs [hr]
        refine draw hp1 (by omega) (by omega) fun r st2 h1 h2 hp2 _ _ => ?_
        simp -dsimp -implicitDefEqProofs [negP, sizeLine_eq]
        refine draw hp2 (by omega) (by omega) fun r' st3 h3 h4 hp3 _ _ => ?_
        obtain ⟨x, hx, e⟩ := at_some (xs := [PV.int (r - 10), .int 999999, .int (-999999), .int 0]) h3 (by simpa using h4)
        simp -dsimp -implicitDefEqProofs [e]
        refine q x st3 ?_ hp3
        simp at hx
        rcases hx with rfl | rfl | rfl | rfl <;> exact Tx.int (by omega)
    · have hr : ¬ r < 2 := fun z => hc (.inl z)
      have hd : d ≠ 0 := fun z => hc (.inr z)
      obtain ⟨d, rfl⟩ : ∃ e, d = e + 1 := ⟨d - 1, by omega⟩
      have hd' : ¬ ((d : Int) + 1 = 0) := by omega
      by_cases h2 : r = 2
      · simp -dsimp -implicitDefEqProofs [hr, hd', h2, sizeLine_eq]
        refine pick_tup hp1 (by simp) (by simp) fun x st2 hx hp2 _ _ => ?_
        refine q x st2 ?_ hp2
        simp at hx
        rcases hx with rfl | rfl | rfl | rfl <;> exact Tx.str (wordQ_iff (by decide)) (by decide)
      · simp -dsimp -implicitDefEqProofs [hr, hd', h2]
        refine Sat_fComp ?_
        simp -dsimp -implicitDefEqProofs
        refine draw hp1 (by omega) (by omega) fun r' st2 h3 h4 hp2 _ _ => ?_
        have hl : (rngL 0 r'.toNat).length ≤ 3 := by rw [rng_len]; omega
        have hz : (rngL 0 r'.toNat).length ≤ sizeLine := by rw [sizeLine_eq]; omega
        simp -dsimp -implicitDefEqProofs
        refine ⟨by omega, hz, ?_⟩
        refine (Sat_comp (fun acc todo st => Pool st ∧ acc.length + todo.length ≤ 3 ∧ ∀ x ∈ acc, Tx 3 d x) (Q := fun ys st => Pool st ∧ ys.length ≤ 3 ∧ ∀ x ∈ ys, Tx 3 d x) (fun acc st h => ⟨h.1, by simpa using h.2.1, h.2.2⟩) (fun acc p ps st h => ?_) _ [] _ ⟨hp2, by simpa using hl, by simp⟩).mono fun ys st3 h => ?_
        · simp -dsimp -implicitDefEqProofs
          refine spec_some d h.1 fun p st k1 k2 => ?_
          simp -dsimp -implicitDefEqProofs
          refine ⟨k2, by have := h.2.1; simp at this; omega, fun x hx => ?_⟩
          rcases hx with hx | rfl
          · exact h.2.2 x hx
          · exact k1
        · simp -dsimp -implicitDefEqProofs [tupB]
          exact q _ st3 ⟨by simpa using h.2.1, by simpa using h.2.2⟩ h.1
end K13
namespace Pv
open PySem L2
section
variable {st : Store}
@[simp] theorem addP_tup (xs ys : List PV) : addP (.tup xs) (.tup ys) st = if xs.length + ys.length ≤ sizeLine then some (.tup (xs ++ ys)) else none := rfl
@[simp] theorem addP_str (xs ys : List Nat) : addP (.str xs) (.str ys) st = if xs.length + ys.length ≤ sizeLine then some (.str (xs ++ ys)) else none := rfl
@[simp] theorem addP_lst (xs ys : List PV) : addP (.lst xs) (.lst ys) st = if xs.length + ys.length ≤ sizeLine then some (.lst (xs ++ ys)) else none := rfl
@[simp] theorem slcP_tup (xs : List PV) (lo hi : Option Int) : slcP (.tup xs) lo hi st = some (.tup (cutP xs lo hi)) := rfl
@[simp] theorem slcP_str (xs : List Nat) (lo hi : Option Int) : slcP (.str xs) lo hi st = some (.str (cutP xs lo hi)) := rfl
@[simp] theorem slcP_lst (xs : List PV) (lo hi : Option Int) : slcP (.lst xs) lo hi st = some (.lst (cutP xs lo hi)) := rfl
@[simp] theorem negP_int (i : Int) : negP (.int i) st = some (.int (-i)) := rfl
@[simp] theorem tupB_lst (xs : List PV) : tupB [.lst xs] st = some (.tup xs, st) := rfl
@[simp] theorem tupB_tup (xs : List PV) : tupB [.tup xs] st = some (.tup xs, st) := rfl
theorem tupB_ref {n : Nat} {xs : List PV} (h : st[n]? = some (.lst xs)) : tupB [.ref n] st = some (.tup xs, st) := by simp [tupB, asR_ref h]
@[simp] theorem lstB_tup (bx : Bool) (xs : List PV) : lstB bx [.tup xs] st = some (newL bx xs st) := rfl
@[simp] theorem lstB_lst (bx : Bool) (xs : List PV) : lstB bx [.lst xs] st = some (newL bx xs st) := rfl
end
theorem cut_mem {xs : List PV} {lo hi : Option Int} {x : PV} (h : x ∈ cutP xs lo hi) : x ∈ xs := List.mem_of_mem_drop (List.mem_of_mem_take h)
end Pv
namespace K13
open Pv PySem L2
/-- _law_many -/
abbrev kB : PV := .tup [.str [98, 111, 111, 108]]
abbrev kN (n : Int) : PV := .tup [.str [110, 117, 109], .int n]
def Kd (p : PV) : Prop := p = kB ∨ p = kN 3 ∨ p = kN 5
theorem kB_eq {st : Store} : eqC kB kB st = some (.bl true) := by kernel_rfl
theorem kN3_eq {st : Store} : eqC (kN 3) kB st = some (.bl false) := by kernel_rfl
theorem kN5_eq {st : Store} : eqC (kN 5) kB st = some (.bl false) := by kernel_rfl
theorem spec_many {i : Nat} {p : PV} {st : Store} {Q : PV → Store → Prop} (h : Kd p) (q : ∀ r : Int, 2 ≤ r → r ≤ 5 → Q (.int r) st) : Sat (E (i + 1) 20 [p] st) Q := by
  rw [E_succ, e20]
  refine Sat_fnF rfl ?_
  unfold b20
  rcases h with rfl | rfl | rfl
  · simp -dsimp -implicitDefEqProofs [sizeLine_eq, kB_eq]
    exact q 2 (by omega) (by omega)
  · simp -dsimp -implicitDefEqProofs [sizeLine_eq, kN3_eq]
    exact q 3 (by omega) (by omega)
  · simp -dsimp -implicitDefEqProofs [sizeLine_eq, kN5_eq]
    exact q 5 (by omega) (by omega)
theorem kN_eq {st : Store} : neC kB kB st = some (.bl false) ∧ neC (kN 3) kB st = some (.bl true) ∧ neC (kN 5) kB st = some (.bl true) := ⟨by kernel_rfl, by kernel_rfl, by kernel_rfl⟩
/-- _law_value -/
theorem spec_val {i : Nat} {k : PV} {st : Store} {Q : PV → Store → Prop} (hk : Kd k) (hp : Pool st) (q : ∀ p st', Pool st' → Fr st st' → st'.length = st.length → Q p st') : Sat (E (i + 3) 21 [.ref 0, k] st) Q := by
  rw [E_succ, e21]
  refine Sat_fnF rfl ?_
  unfold b21
  simp -dsimp -implicitDefEqProofs
  refine spec_many hk fun r h1 h2 => ?_
  simp -dsimp -implicitDefEqProofs
  refine draw hp (by omega) (by omega) fun r st1 h1 h2 hp1 f1 l1 => ?_
  simp -dsimp -implicitDefEqProofs [sizeLine_eq]
  exact q _ st1 hp1 f1 l1
theorem cs2_at {k : Int} (h0 : 0 ≤ k) (h1 : k < 10) : L2.atI cs2 k = some (97 + k.toNat) := by
  obtain ⟨n, rfl⟩ := Int.eq_ofNat_of_zero_le h0
  have : n < 10 := by omega
  match n, this with
  | 0, _ => rfl | 1, _ => rfl | 2, _ => rfl | 3, _ => rfl | 4, _ => rfl | 5, _ => rfl | 6, _ => rfl | 7, _ => rfl | 8, _ => rfl | 9, _ => rfl
  | n + 10, h => omega
theorem cs3_at {k : Int} (h0 : 0 ≤ k) (h1 : k < 26) : ∃ c, L2.atI cs3 k = some c ∧ 97 ≤ c ∧ c ≤ 122 := by
  obtain ⟨c, hc, e⟩ := at_some (xs := cs3) h0 (by simpa [cs3] using h1)
  refine ⟨c, e, ?_⟩
  simp only [cs3, List.mem_cons, List.not_mem_nil, or_false] at hc
  omega
/-- a name that the law gives -/
def Nm (s : List Nat) : Prop := Word s ∧ s.length ≤ 7
theorem spec_named {i : Nat} {k : Int} {st : Store} {Q : PV → Store → Prop} (h0 : 0 ≤ k) (h1 : k < 26) (q : ∀ s, Nm s → Q (.str s) st) : Sat (E (i + 1) 22 [.int k] st) Q := by
  rw [E_succ, e22]
  refine Sat_fnF rfl ?_
  unfold b22
  have hd : k / 26 = 0 := by omega
  have hm : k % 26 = k := by omega
  have c2 : L2.atI cs2 0 = some 97 := rfl
  obtain ⟨c, e, h2, h3⟩ := cs3_at h0 h1
  simp -dsimp -implicitDefEqProofs [hd, hm, c2, e, sizeLine_eq]
  exact q _ ⟨⟨97, [c], rfl, by omega, fun x hx => by simp at hx; omega⟩, by simp⟩
end K13
namespace Pv
open PySem L2
theorem Sat_fLock {i n : Nat} {f : FE} {sg : Sig} {st : Store} {ks vs : List PV} {Q : PV → Store → Prop} (h : sg[i]? = some (some (.ref n))) (hst : st[n]? = some (.dic ks vs))
    (hf : Sat (f sg (st.set n (.dlk ks vs))) fun p st' => st' = st.set n (.dlk ks vs) ∧ Q p st) : Sat (fLock i f sg st) Q := by
  unfold fLock
  simp only [h, hst]
  show SatX (fun _ _ => False) _ Q
  rw [Sat_bind, Sat_noX]
  refine hf.mono fun p st' ⟨e, q⟩ => ?_
  subst e
  simp only [set_get hst, Sat_ok, List.set_set, set_self hst]
  exact q
/-- a comprehension that takes some of the items, as they are -/
theorem Sat_sub {body : PV → Store → R (Option PV)} {Q : List PV → Store → Prop} {st : Store} (ps : List PV) (h : ∀ p ∈ ps, Sat (body p st) fun o st' => st' = st ∧ (o = none ∨ o = some p))
    (q : ∀ ys, (∀ y ∈ ys, y ∈ ps) → ys.length ≤ ps.length → Q ys st) : Sat (compL body ps st) Q := by
  refine (Sat_comp (body := body) (Q := fun ys st' => st' = st ∧ (∀ y ∈ ys, y ∈ ps) ∧ ys.length ≤ ps.length) (fun acc todo st' => st' = st ∧ (∀ y ∈ acc, y ∈ ps) ∧ acc.length + todo.length ≤ ps.length ∧ ∀ y ∈ todo, y ∈ ps)
    (fun acc st' h => ⟨h.1, h.2.1, by simpa using h.2.2.1⟩) (fun acc p qs st' ⟨e, h1, h2, h3⟩ => ?_) ps [] st ⟨rfl, by simp, by simp, fun _ h => h⟩).mono fun ys st' ⟨e, h1, h2⟩ => ?_
  · subst e
    refine (h p (h3 p List.mem_cons_self)).mono fun o st2 ⟨e1, ho⟩ => ?_
    refine ⟨e1, fun y hy => ?_, ?_, fun y hy => h3 y (List.mem_cons_of_mem _ hy)⟩
    · rcases ho with rfl | rfl
      · exact h1 y (by simpa using hy)
      · simp at hy
        rcases hy with hy | rfl
        · exact h1 y hy
        · exact h3 y List.mem_cons_self
    · rcases ho with rfl | rfl <;> simp at h2 ⊢ <;> omega
  · subst e
    exact q ys (by simpa using h1) (by simpa using h2)
/-- a comprehension that makes one of each -/
theorem Sat_each {body : PV → Store → R (Option PV)} {Q : List PV → Store → Prop} {st : Store} (I : Store → Prop) (P : PV → Prop) (ps : List PV) (hi : I st) (h : ∀ p ∈ ps, ∀ st, I st → Sat (body p st) fun o st' => I st' ∧ ∃ y, o = some y ∧ P y)
    (q : ∀ ys st', (∀ y ∈ ys, P y) → ys.length = ps.length → I st' → Q ys st') : Sat (compL body ps st) Q := by
  refine (Sat_comp (body := body) (Q := fun ys st' => I st' ∧ (∀ y ∈ ys, P y) ∧ ys.length = ps.length) (fun acc todo st' => I st' ∧ (∀ y ∈ acc, P y) ∧ acc.length + todo.length = ps.length ∧ ∀ y ∈ todo, y ∈ ps)
    (fun acc st' h => ⟨h.1, h.2.1, by simpa using h.2.2.1⟩) (fun acc p qs st' ⟨hi, h1, h2, h3⟩ => ?_) ps [] st ⟨hi, by simp, by simp, fun _ h => h⟩).mono fun ys st' ⟨hi, h1, h2⟩ => ?_
  · refine (h p (h3 p List.mem_cons_self) st' hi).mono fun o st2 ⟨hi2, y, e, hy⟩ => ?_
    subst e
    refine ⟨hi2, fun z hz => ?_, by simp at h2 ⊢; omega, fun y hy => h3 y (List.mem_cons_of_mem _ hy)⟩
    simp at hz
    rcases hz with hz | rfl
    · exact h1 z hz
    · exact hy
  · exact q ys st' (by simpa using h1) (by simpa using h2) hi
/-- values of numbers, texts and tuples -/
def Pl : Nat → PV → Prop
  | _, .int _ => True
  | _, .str _ => True
  | d + 1, .tup xs => ∀ x ∈ xs, Pl d x
  | _, _ => False
theorem eqL_some {f : PV → PV → Option Bool} : ∀ {xs ys : List PV}, (∀ x ∈ xs, ∀ y ∈ ys, ∃ c, f x y = some c) → ∃ c, eqL f xs ys = some c
  | [], [], _ => ⟨_, rfl⟩
  | [], _ :: _, _ => ⟨_, rfl⟩
  | _ :: _, [], _ => ⟨_, rfl⟩
  | x :: xs, y :: ys, h => by
    obtain ⟨a, ea⟩ := h x List.mem_cons_self y List.mem_cons_self
    obtain ⟨b, eb⟩ := eqL_some (xs := xs) (ys := ys) fun u hu v hv => h u (List.mem_cons_of_mem _ hu) v (List.mem_cons_of_mem _ hv)
    exact ⟨a && b, by rw [eqL, ea, eb]⟩
theorem eqP_pl : ∀ (d n : Nat) (a b : PV), d < n → Pl d a → Pl d b → ∃ c, eqP n a b = some c := by
  intro d
  induction d with
  | zero =>
    intro n a b hn ha hb
    obtain ⟨n, rfl⟩ : ∃ m, n = m + 1 := ⟨n - 1, by omega⟩
    cases a with
    | int i => cases b with
      | int j => exact ⟨_, by rw [eqP]⟩
      | str j => exact ⟨false, by simp [eqP]⟩
      | _ => exact hb.elim
    | str i => cases b with
      | int j => exact ⟨false, by simp [eqP]⟩
      | str j => exact ⟨_, by rw [eqP]⟩
      | _ => exact hb.elim
    | _ => exact ha.elim
  | succ d ih =>
    intro n a b hn ha hb
    obtain ⟨n, rfl⟩ : ∃ m, n = m + 1 := ⟨n - 1, by omega⟩
    cases a with
    | int i => cases b with
      | int j => exact ⟨_, by rw [eqP]⟩
      | str j => exact ⟨false, by simp [eqP]⟩
      | tup j => exact ⟨false, by simp [eqP]⟩
      | _ => exact hb.elim
    | str i => cases b with
      | int j => exact ⟨false, by simp [eqP]⟩
      | str j => exact ⟨_, by rw [eqP]⟩
      | tup j => exact ⟨false, by simp [eqP]⟩
      | _ => exact hb.elim
    | tup xs => cases b with
      | int j => exact ⟨false, by simp [eqP]⟩
      | str j => exact ⟨false, by simp [eqP]⟩
      | tup ys =>
        obtain ⟨c, e⟩ := eqL_some (f := eqP n) fun x hx y hy => ih n x y (by omega) (ha x hx) (hb y hy)
        exact ⟨c, by rw [eqP, e]⟩
      | _ => exact hb.elim
    | _ => exact ha.elim
theorem eqC_pl {d : Nat} {xs ys : List PV} {st : Store} (hd : d < 200) (ha : Pl d (.tup xs)) (hb : Pl d (.tup ys)) : ∃ c, eqC (.tup xs) (.tup ys) st = some (.bl c) := by
  obtain ⟨c, e⟩ := eqP_pl d 200 _ _ hd ha hb
  exact ⟨c, by unfold eqC eqB; rw [show eqP 200 (dreP (.tup xs) st) (dreP (.tup ys) (dreS (.tup xs) st)) = some c from e]; rfl⟩
theorem lookD_mem {k : PV} : ∀ {ks vs : List PV}, ks.length = vs.length → k ∈ ks → keyEq k k = true → ∃ v ∈ vs, lookD k ks vs = some v
  | [], _, _, h, _ => by cases h
  | _ :: _, [], h, _, _ => by cases h
  | a :: ks, v :: vs, hl, h, hk => by
    by_cases e : keyEq a k = true
    · exact ⟨v, List.mem_cons_self, by rw [lookD, if_pos e]⟩
    · have : k ∈ ks := by
        rcases List.mem_cons.mp h with rfl | h
        · exact absurd hk e
        · exact h
      obtain ⟨u, hu, eu⟩ := lookD_mem (by simpa using hl) this hk
      exact ⟨u, List.mem_cons_of_mem _ hu, by rw [lookD, if_neg e, eu]⟩
theorem strL_str : ∀ ss : List (List Nat), strL (ss.map PV.str) = some ss
  | [] => rfl
  | s :: ss => by
    have ih := strL_str ss
    simp -dsimp -implicitDefEqProofs [strL, ih]
theorem srtT_strs {ss : List (List Nat)} {st : Store} (h : ss.length < 64) : srtT false [.lst (ss.map .str)] st = some (.lst ((srtS ss).map .str), st) := by
  simp -dsimp -implicitDefEqProofs [srtT, srtB, strL_str, h]
theorem srtS_mem {ss : List (List Nat)} {x : List Nat} : x ∈ srtS ss ↔ x ∈ ss := (srtS_perm ss).mem_iff
end Pv
namespace K13
open Pv PySem L2
def Ck (p : PV) : Prop := ∃ l, p = .tup l ∧ l.length ≤ 2 ∧ ∀ x ∈ l, ∃ s b, x = .tup [.str s, .int b] ∧ Nm s ∧ 0 ≤ b ∧ b ≤ 1
def En (p : PV) : Prop := ∃ k c, p = .tup [k, c] ∧ Kd k ∧ Ck c
structure DicOk (ks vs : List PV) : Prop where
  len : ks.length = vs.length
  most : ks.length ≤ 40
  key : ∀ k ∈ ks, ∃ s, k = .str s ∧ Nm s
  val : ∀ v ∈ vs, En v
theorem Kd.pl {k : PV} (h : Kd k) : Pl 2 k := by
  rcases h with rfl | rfl | rfl <;> (intro x hx; simp at hx)
  · subst hx; exact True.intro
  · rcases hx with rfl | rfl <;> exact True.intro
  · rcases hx with rfl | rfl <;> exact True.intro
theorem Ck.pl {c : PV} (h : Ck c) : Pl 2 c := by
  obtain ⟨l, rfl, _, h⟩ := h
  intro x hx
  obtain ⟨s, b, rfl, _⟩ := h x hx
  intro y hy
  simp at hy
  rcases hy with rfl | rfl <;> exact True.intro
theorem pair_pl {k c : PV} (h : Kd k) (h' : Ck c) : Pl 3 (.tup [k, c]) := by
  intro x hx
  simp at hx
  rcases hx with rfl | rfl
  · exact h.pl
  · exact h'.pl
theorem keyEq_str (s : List Nat) : keyEq (.str s) (.str s) = true := by simp [keyEq]
theorem Sat_found {l k n : Nat} {sg : Sig} {st : Store} {X : FE} {ys ks vs : List PV} {Q : PV → Store → Prop} (hl : sg[l]? = some (some (.ref n))) (hk : k ≠ l) (hlen : k < sg.length) (hst : st[n]? = some (.dic ks vs)) (hd : DicOk ks vs)
    (hx : Pl 3 (.tup ys)) (hX : ∀ key s, X (sg.set k (some key)) s = .ok (.tup ys) s) (q : ∀ ss : List (List Nat), (∀ s ∈ ss, PV.str s ∈ ks ∧ Nm s) → ss.length ≤ 40 → Q (.lst (ss.map .str)) st) :
    Sat (fLock l (fComp false [k] (fiKeys (fVar l)) (gtName k) (fBl (fBin eqC (fBin idxP (fVar l) (fVar k)) X)) (fVar k)) sg st) Q := by
  refine Sat_fLock hl hst (Sat_fComp ?_)
  have hs : (st.set n (.dlk ks vs))[n]? = some (.dlk ks vs) := set_get hst
  have hid : ∀ s, idxP (.ref n) (.str s) (st.set n (.dlk ks vs)) = lookD (.str s) ks vs := fun s => by simp [idxP, idxQ, asQ, asR, asL, asD, hs, keyOf]
  have kv : keysV (.ref n) (st.set n (.dlk ks vs)) = .ok ks (st.set n (.dlk ks vs)) := by simp [keysV, hs]
  generalize st.set n (.dlk ks vs) = s1 at hs hid kv
  have hz : ks.length ≤ sizeLine := by rw [sizeLine_eq]; have := hd.most; omega
  simp -dsimp -implicitDefEqProofs [hl, kv, hz]
  refine Sat_sub ks (fun p hp => ?_) fun zs h1 h2 => ?_
  · obtain ⟨s, rfl, hs⟩ := hd.key p hp
    obtain ⟨v, hv, ev⟩ := lookD_mem hd.len hp (keyEq_str s)
    obtain ⟨kk, cc, rfl, h1, h2⟩ := hd.val v hv
    obtain ⟨c, ec⟩ := eqC_pl (st := s1) (by decide) (pair_pl h1 h2) hx
    have g1 : (sg.set k (some (PV.str s)))[l]? = some (some (.ref n)) := by rw [List.getElem?_set_ne hk]; exact hl
    have g2 : (sg.set k (some (PV.str s)))[k]? = some (some (.str s)) := List.getElem?_set_self hlen
    simp -dsimp -implicitDefEqProofs [g1, g2, hid, ev, hX, ec]
  · refine ⟨rfl, ?_⟩
    have : ∃ ss : List (List Nat), zs = ss.map .str ∧ ∀ s ∈ ss, PV.str s ∈ ks ∧ Nm s := by
      clear q h2
      induction zs with
      | nil => exact ⟨[], rfl, by simp⟩
      | cons z zs ih =>
        obtain ⟨ss, e, h⟩ := ih fun y hy => h1 y (List.mem_cons_of_mem _ hy)
        have hz := h1 z List.mem_cons_self
        obtain ⟨s, rfl, hs⟩ := hd.key z hz
        exact ⟨s :: ss, by rw [e]; rfl, fun t ht => (List.mem_cons.mp ht).elim (fun e => e ▸ ⟨hz, hs⟩) (h t)⟩
    obtain ⟨ss, rfl, hss⟩ := this
    exact q ss hss (by have := hd.most; simp at h2; omega)
end K13
/-! k13: the words of programs. -/
namespace K13
open Pv PySem L2
def DAt (n : Nat) (st : Store) : Prop := ∃ ks vs, st[n]? = some (.dic ks vs) ∧ DicOk ks vs
def LAt (n : Nat) (st : Store) : Prop := ∃ ys, st[n]? = some (.lst ys)
structure WInv (e w c : Nat) (st : Store) : Prop where
  pool : Pool st
  every : DAt e st
  now : DAt w st
  calls : LAt c st
structure Wf (c : Nat) (st st' : Store) : Prop where
  len : st'.length = st.length
  pool : Pool st'
  keep : ∀ k, k ≠ 0 → k ≠ c → st'[k]? = st[k]?
  calls : LAt c st'
theorem Wf.trans {c : Nat} {a b d : Store} (h : Wf c a b) (k : Wf c b d) : Wf c a d := ⟨k.len.trans h.len, k.pool, fun j h0 h1 => (k.keep j h0 h1).trans (h.keep j h0 h1), k.calls⟩
theorem Wf.inv {e w c : Nat} {st st' : Store} (h : Wf c st st') (i : WInv e w c st) (e1000 : e ≠ 0) (ec : e ≠ c) (w0 : w ≠ 0) (wc : w ≠ c) : WInv e w c st' := by
  obtain ⟨p, ⟨k1, v1, e0, d1⟩, ⟨k2, v2, e1, d2⟩, l⟩ := i
  exact ⟨h.pool, ⟨k1, v1, (h.keep e e1000 ec).trans e0, d1⟩, ⟨k2, v2, (h.keep w w0 wc).trans e1, d2⟩, h.calls⟩
theorem Wf.of {c : Nat} {st st' : Store} (hc : c ≠ 0) (p : Pool st') (f : Fr st st') (l : st'.length = st.length) (h : LAt c st) : Wf c st st' := by
  refine ⟨l, p, fun k h0 _ => ?_, ?_⟩
  · by_cases hk : k < st.length
    · exact f.2 k h0 hk
    · rw [List.getElem?_eq_none (by omega), List.getElem?_eq_none (by omega)]
  · obtain ⟨ys, e⟩ := h
    exact ⟨ys, f.get hc e⟩
theorem Wf.refl {e w c : Nat} {st : Store} (h : WInv e w c st) : Wf c st st := ⟨rfl, h.pool, fun _ _ _ => rfl, h.calls⟩
/-- the law's nodes -/
def Pair (p : PV) : Prop := ∃ s k, p = .tup [.str s, k] ∧ Nm s ∧ Kd k
def NodeOk (p : PV) : Prop := ∃ nm ins outs rest eqs, p = .tup [.str nm, .tup ins, .tup outs, rest, eqs] ∧ (∀ x ∈ ins, Pair x) ∧ ins.length ≤ 2 ∧ (∀ x ∈ outs, Pair x) ∧ outs.length ≤ 5
/-- the state -/
abbrev stD (b : Bool) (e : Nat) (nodes : List PV) (c : Nat) : PV := .dic [.str [109, 111, 100, 101, 115], .str [101, 118, 101, 114, 121], .str [110, 111, 100, 101, 115], .str [99, 97, 108, 108, 115]] [.bl b, .ref e, .lst nodes, .ref c]
section
variable {b : Bool} {e c : Nat} {nodes : List PV} {st : Store}
theorem st_modes : idxP (stD b e nodes c) (.str [109, 111, 100, 101, 115]) st = some (.bl b) := rfl
theorem st_every : idxP (stD b e nodes c) (.str [101, 118, 101, 114, 121]) st = some (.ref e) := rfl
theorem st_nodes : idxP (stD b e nodes c) (.str [110, 111, 100, 101, 115]) st = some (.lst nodes) := rfl
theorem st_calls : idxP (stD b e nodes c) (.str [99, 97, 108, 108, 115]) st = some (.ref c) := rfl
end
/-- what a word's call of the depth d gives -/
abbrev WordAt (j : Nat) (d : Int) (e c : Nat) (s : PV) : Prop := ∀ {k clock : PV} {w : Nat} {st : Store} {Q : PV → Store → Prop}, Kd k → Ck clock → w ≠ 0 → w ≠ c → WInv e w c st → (∀ p st', Wf c st st' → Q p st') → Sat (E j 23 [.ref 0, s, k, clock, .ref w, .int d] st) Q
theorem kB_kd : Kd kB := .inl rfl
theorem spec_plain {i : Nat} {d : Int} {e c : Nat} {s k clock : PV} {w : Nat} {st : Store} {Q : PV → Store → Prop} (e1000 : e ≠ 0) (ec : e ≠ c) (c0 : c ≠ 0) (hw : WordAt (i + 3) (d - 1) e c s) (hk : Kd k) (hc : Ck clock) (w0 : w ≠ 0) (wc : w ≠ c) (hi : WInv e w c st)
    (q : ∀ p st', Wf c st st' → Q p st') : Sat (E (i + 4) 25 [.ref 0, s, k, clock, .ref w, .int d] st) Q := by
  have z3 : 3 ≤ sizeLine := by rw [sizeLine_eq]; decide
  have z4 : 4 ≤ sizeLine := by rw [sizeLine_eq]; decide
  have z2 : 2 ≤ sizeLine := by rw [sizeLine_eq]; decide
  have z1 : 1 ≤ sizeLine := by rw [sizeLine_eq]; decide
  rw [E_succ, e25]
  refine Sat_fnF rfl ?_
  unfold b25
  by_cases hb : k = kB
  · subst hb
    simp -dsimp -implicitDefEqProofs [z1, kN_eq]
    refine draw hi.pool (by omega) (by omega) fun r st1 h1 h2 hp1 f1 l1 => ?_
    have F1 : Wf c st st1 := .of c0 hp1 f1 l1 hi.calls
    by_cases r0 : r = 0
    · simp -dsimp -implicitDefEqProofs [r0]
      refine hw hk hc w0 wc (F1.inv hi e1000 ec w0 wc) fun p st2 F2 => ?_
      simp -dsimp -implicitDefEqProofs [z2]
      exact q _ st2 (F1.trans F2)
    · by_cases r1 : r = 1
      · simp -dsimp -implicitDefEqProofs [r1, z2]
        refine pick_lst hp1 (by simp) (by simp) fun x st2 hx hp2 f2 l2 => ?_
        have F2 := F1.trans (.of c0 hp2 f2 l2 F1.calls)
        simp -dsimp -implicitDefEqProofs
        refine hw hk hc w0 wc (F2.inv hi e1000 ec w0 wc) fun p st3 F3 => ?_
        have F3 := F2.trans F3
        simp -dsimp -implicitDefEqProofs
        refine hw hk hc w0 wc (F3.inv hi e1000 ec w0 wc) fun p st4 F4 => ?_
        simp -dsimp -implicitDefEqProofs [z3]
        exact q _ st4 (F3.trans F4)
      · simp -dsimp -implicitDefEqProofs [r0, r1, z2]
        refine pick_lst hp1 (by simp) (by simp) fun x st2 hx hp2 f2 l2 => ?_
        have hx : Kd x := by
          simp at hx
          rcases hx with rfl | rfl
          · exact .inr (.inl rfl)
          · exact .inr (.inr rfl)
        have F2 := F1.trans (.of c0 hp2 f2 l2 F1.calls)
        simp -dsimp -implicitDefEqProofs [z2]
        refine pick_lst hp2 (by simp) (by simp) fun y st3 hy hp3 f3 l3 => ?_
        have F3 := F2.trans (.of c0 hp3 f3 l3 F2.calls)
        simp -dsimp -implicitDefEqProofs
        refine hw hx hc w0 wc (F3.inv hi e1000 ec w0 wc) fun p st4 F4 => ?_
        have F4 := F3.trans F4
        simp -dsimp -implicitDefEqProofs
        refine hw hx hc w0 wc (F4.inv hi e1000 ec w0 wc) fun p st5 F5 => ?_
        simp -dsimp -implicitDefEqProofs [z4]
        exact q _ st5 (F4.trans F5)
  · have hne : ∀ st, neC k kB st = some (.bl true) := fun st => by
      rcases hk with rfl | rfl | rfl
      · exact absurd rfl hb
      · exact kN_eq.2.1
      · exact kN_eq.2.2
    simp -dsimp -implicitDefEqProofs [z1, z3, hne]
    refine pick_lst hi.pool (by simp) (by simp) fun y st3 hy hp3 f3 l3 => ?_
    have F3 : Wf c st st3 := .of c0 hp3 f3 l3 hi.calls
    simp -dsimp -implicitDefEqProofs
    refine hw hk hc w0 wc (F3.inv hi e1000 ec w0 wc) fun p st4 F4 => ?_
    have F4 := F3.trans F4
    simp -dsimp -implicitDefEqProofs
    refine hw hk hc w0 wc (F4.inv hi e1000 ec w0 wc) fun p st5 F5 => ?_
    simp -dsimp -implicitDefEqProofs [z4]
    exact q _ st5 (F4.trans F5)
theorem neC_nil {xs : List PV} {st : Store} : neC (.tup xs) (.tup []) st = some (.bl (!xs.isEmpty)) := by cases xs <;> rfl
theorem eqC_nil {xs : List PV} {st : Store} : eqC (.lst xs) (.lst []) st = some (.bl xs.isEmpty) := by cases xs <;> rfl
theorem neC_nilL {xs : List PV} {st : Store} : neC (.lst xs) (.lst []) st = some (.bl (!xs.isEmpty)) := by cases xs <;> rfl
theorem at_last {xs : List PV} (h : xs ≠ []) : ∃ x ∈ xs, L2.atI xs (-1) = some x := by
  have hl : 0 < xs.length := List.length_pos_iff.mpr h
  have hz : (-1 + (xs.length : Int)).toNat < xs.length := by omega
  refine ⟨xs[(-1 + (xs.length : Int)).toNat], List.getElem_mem hz, ?_⟩
  have h1 : (1 : Int) ≤ (xs.length : Int) := by omega
  simp -dsimp -implicitDefEqProofs [L2.atI, h1, hz]
theorem Ck.cut {l : List PV} {lo hi : Option Int} (h : Ck (.tup l)) : Ck (.tup (cutP l lo hi)) := by
  obtain ⟨l', e, h1, h2⟩ := h
  cases e
  exact ⟨_, rfl, by have := cutP_length l lo hi; omega, fun x hx => h2 x (cut_mem hx)⟩
theorem Ck.add {l : List PV} {s : List Nat} {b : Int} (h : Ck (.tup l)) (hl : l.length ≤ 1) (hs : Nm s) (h0 : 0 ≤ b) (h1 : b ≤ 1) : Ck (.tup (l ++ [.tup [.str s, .int b]])) := by
  obtain ⟨l', e, _, h2⟩ := h
  cases e
  refine ⟨_, rfl, by simp; omega, fun x hx => ?_⟩
  rcases List.mem_append.mp hx with hx | hx
  · exact h2 x hx
  · simp at hx
    subst hx
    exact ⟨s, b, rfl, hs, h0, h1⟩
theorem spec_clocked {i : Nat} {d t : Int} {e c : Nat} {s k clock : PV} {w : Nat} {st : Store} {Q : PV → Store → Prop} (e1000 : e ≠ 0) (ec : e ≠ c) (c0 : c ≠ 0) (hw : WordAt (i + 3) (d - 1) e c s) (hk : Kd k) (hc : Ck clock) (w0 : w ≠ 0) (wc : w ≠ c) (hi : WInv e w c st)
    (q : ∀ p st', Wf c st st' → Q p st') : Sat (E (i + 4) 24 [.ref 0, s, k, clock, .ref w, .int d, .int t] st) Q := by
  have z1 : 1 ≤ sizeLine := by rw [sizeLine_eq]; decide
  have z2 : 2 ≤ sizeLine := by rw [sizeLine_eq]; decide
  have z4 : 4 ≤ sizeLine := by rw [sizeLine_eq]; decide
  obtain ⟨l, rfl, hl, hm⟩ := id hc
  rw [E_succ, e24]
  refine Sat_fnF rfl ?_
  unfold b24
  by_cases ht : t = 4 ∧ l ≠ []
  · obtain ⟨rfl, hne⟩ := ht
    have hne' : l.isEmpty = false := by simpa using hne
    simp -dsimp -implicitDefEqProofs [neC_nil, hne', hne]
    refine hw hk hc.cut w0 wc hi fun p st1 F1 => ?_
    obtain ⟨x, hx, ex⟩ := at_last hne
    obtain ⟨s, b, rfl, _⟩ := hm x hx
    simp -dsimp -implicitDefEqProofs [ex, z4]
    exact q _ st1 F1
  · have hcond : Sat (tfAnd (fBl (fBin eqC (fVar 6) (fC (.int 4)))) (fBl (fBin neC (fVar 3) (fTup faNil))) [some (.ref 0), some s, some k, some (.tup l), some (.ref w), some (.int d), some (.int t), none, none, none] st) fun b st' => b = false ∧ st' = st := by
      by_cases h4 : t = 4
      · have : l = [] := Classical.byContradiction fun z => ht ⟨h4, z⟩
        subst this
        simp -dsimp -implicitDefEqProofs [h4, neC_nil]
      · simp -dsimp -implicitDefEqProofs [h4]
    refine SatS_then (SatS_fsIf (hcond.mono fun b st' h => ?_))
    obtain ⟨rfl, rfl⟩ := h
    obtain ⟨ks, vs, hst, hd⟩ := hi.now
    simp -dsimp -implicitDefEqProofs
    refine Sat_found (ys := [kB, .tup l]) rfl (by decide) (by simp) hst hd (pair_pl kB_kd hc) (fun key s => by simp [fTup, faCons, faNil, fC, z1, z2]) fun ss hss hsl => ?_
    simp -dsimp -implicitDefEqProofs [srtT_strs (show ss.length < 64 by omega), eqC_nil]
    by_cases hn : srtS ss = []
    · simp -dsimp -implicitDefEqProofs [hn]
      exact q _ st' (.refl hi)
    · by_cases h1 : (1 : Int) < l.length
      · have h1' : 1 < l.length := by omega
        simp -dsimp -implicitDefEqProofs [hn, h1, h1']
        exact q _ st' (.refl hi)
      · have h1' : ¬ 1 < l.length := by omega
        simp -dsimp -implicitDefEqProofs [hn, h1, h1']
        have hlen : (srtS ss).length ≤ 40 := by rw [(srtS_perm ss).length_eq]; exact hsl
        refine pick_lst hi.pool (by simpa using hn) (by simp; omega) fun x st1 hx hp1 f1 l1 => ?_
        have F1 : Wf c st' st1 := .of c0 hp1 f1 l1 hi.calls
        obtain ⟨nm, hnm, rfl⟩ := List.mem_map.mp hx
        have hN := (hss nm (srtS_mem.mp hnm)).2
        have hz : l.length + 1 ≤ sizeLine := by rw [sizeLine_eq]; omega
        simp -dsimp -implicitDefEqProofs [z1, z2, hz]
        refine hw hk (hc.add (by omega) hN (by omega) (by omega)) w0 wc (F1.inv hi e1000 ec w0 wc) fun p st2 F2 => ?_
        have F2 := F1.trans F2
        simp -dsimp -implicitDefEqProofs [z1, z2, hz]
        refine hw hk (hc.add (by omega) hN (by omega) (by omega)) w0 wc (F2.inv hi e1000 ec w0 wc) fun p st3 F3 => ?_
        simp -dsimp -implicitDefEqProofs [z4]
        exact q _ st3 (F2.trans F3)
end K13
/-! k13: a word, by its depth. -/
namespace K13
open Pv PySem L2
def r24 (tf : Nat → FF) : FE := (fIte (tfAnd (fBl (fBin neC (fVar 6) (fLst false faNil))) (fBl (fBin gtC (fCall (tf 11) (faCons (fVar 0) (faCons (fC (.int 5)) faNil))) (fC (.int 0))))) (fTup (faCons (fC (.str [110, 97, 109, 101])) (faCons (fCall (tf 12) (faCons (fVar 0) (faCons (fVar 6) faNil))) faNil))) (fCall (tf 21) (faCons (fVar 0) (faCons (fVar 2) faNil))))
def t24 (tf : Nat → FF) : FS := (fsSeq (fsIf (fBl (fBin inC (fVar 7) (fTup (faCons (fC (.int 7)) (faCons (fC (.int 8)) faNil))))) (fsSeq (fsAsg (fComp false [12] (fiVal (fBin idxP (fVar 1) (fC (.str [110, 111, 100, 101, 115])))) (gtName 12) (tfAnd (fBl (fBin eqC (fcB lenB (faCons (fBin idxP (fVar 12) (fC (.int 2))) faNil)) (fC (.int 1)))) (fBl (fBin eqC (fBin idxP (fBin idxP (fBin idxP (fVar 12) (fC (.int 2))) (fC (.int 0))) (fC (.int 1))) (fVar 2)))) (fVar 12)) (gtName 9)) (fsSeq (fsIf (tfAnd (fBl (fBin neC (fVar 9) (fLst false faNil))) (fBl (fBin ltC (fcB lenB (faCons (fBin idxP (fVar 1) (fC (.str [99, 97, 108, 108, 115]))) faNil)) (fC (.int 3))))) (fsSeq (fsDrop (fBM isLst appM (fBin idxP (fVar 1) (fC (.str [99, 97, 108, 108, 115]))) (faCons (fVar 2) faNil))) (fsSeq (fsAsg (fCall (tf 12) (faCons (fVar 0) (faCons (fVar 9) faNil))) (gtName 12)) (fsSeq (fsAsg (fcB tupB (faCons (fComp false [14, 11] (fiVal (fBin idxP (fVar 12) (fC (.int 1)))) (gtTup 2 (gsCons (gtName 14) (gsCons (gtName 11) gsNil))) ftYes (fCall (tf 23) (faCons (fVar 0) (faCons (fVar 1) (faCons (fVar 11) (faCons (fVar 3) (faCons (fVar 4) (faCons (fBin subP (fVar 5) (fC (.int 1))) faNil)))))))) faNil)) (gtName 13)) (fsSeq (fsRet (fTup (faCons (fC (.str [99, 97, 108, 108])) (faCons (fBin idxP (fVar 12) (fC (.int 0))) (faCons (fVar 13) (faCons (fIte (fBl (fBin eqC (fCall (tf 11) (faCons (fVar 0) (faCons (fC (.int 2)) faNil))) (fC (.int 0)))) (fCall (tf 23) (faCons (fVar 0) (faCons (fVar 1) (faCons (fTup (faCons (fC (.str [98, 111, 111, 108])) faNil)) (faCons (fVar 3) (faCons (fVar 4) (faCons (fBin subP (fVar 5) (fC (.int 1))) faNil))))))) (fC .non)) faNil)))))) fsNil)))) fsNil) fsNil)) fsNil) (fsSeq (fsRet (fCall (tf 25) (faCons (fVar 0) (faCons (fVar 1) (faCons (fVar 2) (faCons (fVar 3) (faCons (fVar 4) (faCons (fVar 5) faNil)))))))) fsNil))
def m24 (tf : Nat → FF) : FS := (fsSeq (fsAsg (fCall (tf 11) (faCons (fVar 0) (faCons (fC (.int 14)) faNil))) (gtName 7)) (fsSeq (fsAsg (fBin idxP (fVar 1) (fC (.str [101, 118, 101, 114, 121]))) (gtName 8)) (fsSeq (fsIf (fBl (fBin ltC (fVar 7) (fC (.int 2)))) (fsSeq (fsRet (fTup (faCons (fC (.str [102, 98, 121])) (faCons (fCall (tf 11) (faCons (fVar 0) (faCons (fCall (tf 20) (faCons (fVar 2) faNil)) faNil))) (faCons (fCall (tf 23) (faCons (fVar 0) (faCons (fVar 1) (faCons (fVar 2) (faCons (fVar 3) (faCons (fVar 8) (faCons (fBin subP (fVar 5) (fC (.int 1))) faNil))))))) faNil))))) fsNil) fsNil) (fsSeq (fsIf (fBl (fBin eqC (fVar 7) (fC (.int 2)))) (fsSeq (fsRet (fTup (faCons (fC (.str [97, 114, 114, 111, 119])) (faCons (fCall (tf 23) (faCons (fVar 0) (faCons (fVar 1) (faCons (fVar 2) (faCons (fVar 3) (faCons (fVar 4) (faCons (fBin subP (fVar 5) (fC (.int 1))) faNil))))))) (faCons (fTup (faCons (fC (.str [112, 114, 101])) (faCons (fCall (tf 23) (faCons (fVar 0) (faCons (fVar 1) (faCons (fVar 2) (faCons (fVar 3) (faCons (fVar 8) (faCons (fBin subP (fVar 5) (fC (.int 1))) faNil))))))) faNil))) faNil))))) fsNil) fsNil) (fsSeq (fsIf (fBl (fBin eqC (fVar 7) (fC (.int 3)))) (fsSeq (fsPar [10, 11] (faCons (fCall (tf 23) (faCons (fVar 0) (faCons (fVar 1) (faCons (fTup (faCons (fC (.str [98, 111, 111, 108])) faNil)) (faCons (fVar 3) (faCons (fVar 4) (faCons (fBin subP (fVar 5) (fC (.int 1))) faNil))))))) (faCons (fCall (tf 23) (faCons (fVar 0) (faCons (fVar 1) (faCons (fVar 2) (faCons (fVar 3) (faCons (fVar 4) (faCons (fBin subP (fVar 5) (fC (.int 1))) faNil))))))) faNil))) (fsSeq (fsRet (fTup (faCons (fC (.str [99, 104, 111, 111, 115, 101])) (faCons (fVar 10) (faCons (fVar 11) (faCons (fCall (tf 23) (faCons (fVar 0) (faCons (fVar 1) (faCons (fVar 2) (faCons (fVar 3) (faCons (fVar 4) (faCons (fBin subP (fVar 5) (fC (.int 1))) faNil))))))) faNil)))))) fsNil)) fsNil) (fsSeq (fsIf (tfAnd (fBl (fBin ltC (fVar 7) (fC (.int 7)))) (tfNot (fTru (fBin idxP (fVar 1) (fC (.str [109, 111, 100, 101, 115])))))) (fsSeq (fsAsg (fCall (tf 24) (faCons (fVar 0) (faCons (fVar 1) (faCons (fVar 2) (faCons (fVar 3) (faCons (fVar 4) (faCons (fVar 5) (faCons (fVar 7) faNil)))))))) (gtName 6)) (fsSeq (fsIf (fBl (fBin isntC (fVar 6) (fC .non))) (fsSeq (fsRet (fVar 6)) fsNil) fsNil) fsNil)) fsNil) (t24 tf)))))))
theorem b23_eq (tf tfm : Nat → FF) : b23 tf tfm = fsSeq (fsAsg (fcB (srtT false) (faCons (fLock 4 (fComp false [14] (fiKeys (fVar 4)) (gtName 14) (fBl (fBin eqC (fBin idxP (fVar 4) (fVar 14)) (fTup (faCons (fVar 2) (faCons (fVar 3) faNil))))) (fVar 14))) faNil)) (gtName 6)) (fsSeq (fsIf (tfOr (fBl (fBin eqC (fVar 5) (fC (.int 0)))) (tfAnd (fBl (fBin neC (fVar 6) (fLst false faNil))) (fBl (fBin ltC (fCall (tf 11) (faCons (fVar 0) (faCons (fC (.int 14)) faNil))) (fC (.int 3)))))) (fsSeq (fsRet (r24 tf)) fsNil) fsNil) (m24 tf)) := rfl
section
variable {i : Nat} {d : Nat} {e c w : Nat} {bm : Bool} {nodes : List PV} {k clock : PV} {st st0 : Store} {Q : PV → Store → Prop}
theorem word_ret (c0 : c ≠ 0) (hk : Kd k) {s p3 p4 p5 : PV} {tl : List (Option PV)} {ss : List (List Nat)} (hsl : ss.length ≤ 40) (F : Wf c st0 st) (q : ∀ p st', Wf c st0 st' → Q p st') :
    Sat (r24 (E (i + 3)) (some (.ref 0) :: some s :: some k :: some p3 :: some p4 :: some p5 :: some (.lst (ss.map .str)) :: tl) st) Q := by
  have z2 : 2 ≤ sizeLine := by rw [sizeLine_eq]; decide
  unfold r24
  by_cases hn : ss = []
  · subst hn
    simp -dsimp -implicitDefEqProofs [neC_nilL]
    exact spec_val hk F.pool fun p st' hp f l => q p st' (F.trans (.of c0 hp f l F.calls))
  · simp -dsimp -implicitDefEqProofs [neC_nilL, hn]
    refine draw F.pool (by omega) (by omega) fun r st1 h1 h2 hp1 f1 l1 => ?_
    have F1 := F.trans (.of c0 hp1 f1 l1 F.calls)
    by_cases hr : 0 < r
    · simp -dsimp -implicitDefEqProofs [hr]
      refine pick_lst hp1 (by simpa using hn) (by simp; omega) fun x st2 hx hp2 f2 l2 => ?_
      simp -dsimp -implicitDefEqProofs [z2]
      exact q _ st2 (F1.trans (.of c0 hp2 f2 l2 F1.calls))
    · simp -dsimp -implicitDefEqProofs [hr]
      exact spec_val hk hp1 fun p st' hp f l => q p st' (F1.trans (.of c0 hp f l F1.calls))
theorem Pair.pl {p : PV} (h : Pair p) : ∃ s k, p = .tup [.str s, k] ∧ Kd k := by
  obtain ⟨s, k, e, _, h⟩ := h
  exact ⟨s, k, e, h⟩
theorem kd_eq {a b : PV} (ha : Kd a) (hb : Kd b) : ∃ x, eqC a b st = some (.bl x) := by
  rcases ha with rfl | rfl | rfl <;> rcases hb with rfl | rfl | rfl <;> exact eqC_pl (d := 2) (by decide) (Kd.pl (by first | exact .inl rfl | exact .inr (.inl rfl) | exact .inr (.inr rfl))) (Kd.pl (by first | exact .inl rfl | exact .inr (.inl rfl) | exact .inr (.inr rfl)))
theorem word_tail (e1000 : e ≠ 0) (ec : e ≠ c) (c0 : c ≠ 0) (w0 : w ≠ 0) (wc : w ≠ c) (hk : Kd k) (hc : Ck clock) (hN : ∀ x ∈ nodes, NodeOk x) (hnl : nodes.length ≤ 3) (hi : WInv e w c st0)
    (hw : WordAt (i + 4) d e c (stD bm e nodes c)) (hw' : WordAt (i + 3) d e c (stD bm e nodes c)) {t : Int} {p6 p8 p10 p11 p12 p13 p14 p9 : Option PV} (F : Wf c st0 st) (q : ∀ p st', Wf c st0 st' → Q p st') :
    SatS (t24 (E (i + 4)) [some (.ref 0), some (stD bm e nodes c), some k, some clock, some (.ref w), some (.int ((d : Int) + 1)), p6, some (.int t), p8, p9, p10, p11, p12, p13, p14] st) (fun _ st => Q .non st) Q := by
  have z1 : 1 ≤ sizeLine := by rw [sizeLine_eq]; decide
  have z2 : 2 ≤ sizeLine := by rw [sizeLine_eq]; decide
  have z4 : 4 ≤ sizeLine := by rw [sizeLine_eq]; decide
  have inv : ∀ {st'}, Wf c st0 st' → WInv e w c st' := fun F => F.inv hi e1000 ec w0 wc
  have plain : ∀ {st}, Wf c st0 st → Sat (E (i + 4) 25 [.ref 0, stD bm e nodes c, k, clock, .ref w, .int ((d : Int) + 1)] st) Q := fun F =>
    spec_plain e1000 ec c0 (by rw [Int.add_sub_cancel]; exact hw') hk hc w0 wc (inv F) fun p st' F' => q p st' (F.trans F')
  unfold t24
  have hin : inC (.int t) (.tup [.int 7, .int 8]) st = some (.bl (decide (t = 7 ∨ t = 8))) := by
    by_cases h7 : t = 7
    · subst h7; rfl
    · by_cases h8 : t = 8
      · subst h8; rfl
      · have : (7 == t) = false := by simp; omega
        have : (8 == t) = false := by simp; omega
        simp -dsimp -implicitDefEqProofs [inC, inB, asQ, flat, eqF, *]
  by_cases ht : t = 7 ∨ t = 8
  · simp -dsimp -implicitDefEqProofs [z2, hin, ht]
    refine Sat_fComp ?_
    have hz : nodes.length ≤ sizeLine := by rw [sizeLine_eq]; omega
    simp -dsimp -implicitDefEqProofs [st_nodes, hz]
    refine Sat_sub nodes (fun p hp => ?_) fun ys h1 h2 => ?_
    · obtain ⟨nm, ins, outs, rest, eqs, rfl, _, _, ho, _⟩ := hN p hp
      by_cases hl : outs.length = 1
      · obtain ⟨o, rfl⟩ := List.length_eq_one_iff.mp hl
        obtain ⟨s, k', rfl, hk'⟩ := (ho o List.mem_cons_self).pl
        obtain ⟨x, ex⟩ := kd_eq (st := st) hk' hk
        simp -dsimp -implicitDefEqProofs [ex]
      · have : ¬ ((outs.length : Int) = 1) := by omega
        simp -dsimp -implicitDefEqProofs [this, hl]
    · obtain ⟨cs, hcs⟩ := F.calls
      by_cases hn : ys = []
      · subst hn
        simp -dsimp -implicitDefEqProofs [neC_nilL]
        simpa using (plain F).mono fun p st k => by simpa using k
      · by_cases h3 : (cs.length : Int) < 3
        · have h3' : cs.length < 3 := by omega
          have hcz : cs.length < sizeLine := by rw [sizeLine_eq]; omega
          simp -dsimp -implicitDefEqProofs [neC_nilL, hn, st_calls, lenB_ref hcs, h3, h3', isLst_ref hcs, appM_ref hcs hcz]
          have F1 : Wf c st0 (st.set c (.lst (cs ++ [k]))) := by
            refine F.trans ⟨by simp, ?_, fun j h0 h1 => by rw [List.getElem?_set_ne (Ne.symm h1)], ⟨_, set_get hcs⟩⟩
            obtain ⟨xs, a, b, c1, d1, e0, ha⟩ := F.pool
            exact ⟨xs, a, b, c1, d1, lst_set e0 c0, ha⟩
          generalize st.set c (.lst (cs ++ [k])) = st1 at F1 ⊢
          refine pick_lst F1.pool hn (by omega) fun x st2 hx hp2 f2 l2 => ?_
          have F2 := F1.trans (.of c0 hp2 f2 l2 F1.calls)
          obtain ⟨nm, ins, outs, rest, eqs, rfl, hp, hpl, _, _⟩ := hN x (h1 x hx)
          simp -dsimp -implicitDefEqProofs
          refine Sat_fComp ?_
          have hz2 : ins.length ≤ sizeLine := by rw [sizeLine_eq]; omega
          simp -dsimp -implicitDefEqProofs [hz2]
          refine Sat_each (Wf c st0) (fun _ => True) ins F2 (fun p hpm st3 F3 => ?_) fun zs st3 _ hzl F3 => ?_
          · obtain ⟨s, k', rfl, hk'⟩ := (hp p hpm).pl
            simp -dsimp -implicitDefEqProofs
            refine hw hk' hc w0 wc (inv F3) fun p st4 F4 => ?_
            simp -dsimp -implicitDefEqProofs
            exact F3.trans F4
          · simp -dsimp -implicitDefEqProofs
            refine draw F3.pool (by omega) (by omega) fun r st4 h1 h2 hp4 f4 l4 => ?_
            have F4 := F3.trans (.of c0 hp4 f4 l4 F3.calls)
            by_cases hr : r = 0
            · simp -dsimp -implicitDefEqProofs [hr, z1]
              refine hw kB_kd hc w0 wc (inv F4) fun p st5 F5 => ?_
              simp -dsimp -implicitDefEqProofs [z4]
              exact q _ st5 (F4.trans F5)
            · simp -dsimp -implicitDefEqProofs [hr, z4]
              exact q _ st4 F4
        · have h3' : ¬ cs.length < 3 := by omega
          simp -dsimp -implicitDefEqProofs [neC_nilL, hn, st_calls, lenB_ref hcs, h3, h3']
          simpa using (plain F).mono fun p st k => by simpa using k
  · simp -dsimp -implicitDefEqProofs [z2, hin, ht]
    exact (plain F).mono fun p st k => by simpa using k
end
section
variable {i : Nat} {d : Nat} {e c w : Nat} {bm : Bool} {nodes : List PV} {k clock : PV} {st st0 : Store} {Q : PV → Store → Prop}
theorem word_mid (e1000 : e ≠ 0) (ec : e ≠ c) (c0 : c ≠ 0) (w0 : w ≠ 0) (wc : w ≠ c) (hk : Kd k) (hc : Ck clock) (hN : ∀ x ∈ nodes, NodeOk x) (hnl : nodes.length ≤ 3) (hi : WInv e w c st0)
    (hw : WordAt (i + 4) d e c (stD bm e nodes c)) (hw' : WordAt (i + 3) d e c (stD bm e nodes c)) {p6 : Option PV} (F : Wf c st0 st) (q : ∀ p st', Wf c st0 st' → Q p st') :
    SatS (m24 (E (i + 4)) [some (.ref 0), some (stD bm e nodes c), some k, some clock, some (.ref w), some (.int ((d : Int) + 1)), p6, none, none, none, none, none, none, none, none] st) (fun _ st => Q .non st) Q := by
  have z1 : 1 ≤ sizeLine := by rw [sizeLine_eq]; decide
  have z2 : 2 ≤ sizeLine := by rw [sizeLine_eq]; decide
  have z3 : 3 ≤ sizeLine := by rw [sizeLine_eq]; decide
  have z4 : 4 ≤ sizeLine := by rw [sizeLine_eq]; decide
  have inv : ∀ {st'}, Wf c st0 st' → WInv e w c st' := fun F => F.inv hi e1000 ec w0 wc
  have inv' : ∀ {st'}, Wf c st0 st' → WInv e e c st' := fun F => ⟨F.pool, (inv F).every, (inv F).every, F.calls⟩
  unfold m24
  simp -dsimp -implicitDefEqProofs
  refine draw F.pool (by omega) (by omega) fun t st1 h1 h2 hp1 f1 l1 => ?_
  have F1 := F.trans (.of c0 hp1 f1 l1 F.calls)
  simp -dsimp -implicitDefEqProofs [st_every]
  by_cases t2 : t < 2
  · simp -dsimp -implicitDefEqProofs [t2]
    refine spec_many hk fun r h1 h2 => ?_
    simp -dsimp -implicitDefEqProofs
    refine draw hp1 (by omega) (by omega) fun r st2 h1 h2 hp2 f2 l2 => ?_
    have F2 := F1.trans (.of c0 hp2 f2 l2 F1.calls)
    simp -dsimp -implicitDefEqProofs
    refine hw hk hc e1000 ec (inv' F2) fun p st3 F3 => ?_
    simp -dsimp -implicitDefEqProofs [z3]
    exact q _ st3 (F2.trans F3)
  · by_cases te : t = 2
    · simp -dsimp -implicitDefEqProofs [te]
      refine hw hk hc w0 wc (inv F1) fun p st2 F2 => ?_
      have F2 := F1.trans F2
      simp -dsimp -implicitDefEqProofs
      refine hw hk hc e1000 ec (inv' F2) fun p st3 F3 => ?_
      simp -dsimp -implicitDefEqProofs [z2, z3]
      exact q _ st3 (F2.trans F3)
    · by_cases t3 : t = 3
      · simp -dsimp -implicitDefEqProofs [t3, z1]
        refine hw kB_kd hc w0 wc (inv F1) fun p st2 F2 => ?_
        have F2 := F1.trans F2
        simp -dsimp -implicitDefEqProofs
        refine hw hk hc w0 wc (inv F2) fun p st3 F3 => ?_
        have F3 := F2.trans F3
        simp -dsimp -implicitDefEqProofs
        refine hw hk hc w0 wc (inv F3) fun p st4 F4 => ?_
        simp -dsimp -implicitDefEqProofs [z4]
        exact q _ st4 (F3.trans F4)
      · by_cases t7 : t < 7
        · cases bm with
          | true =>
            simp -dsimp -implicitDefEqProofs [t2, te, t3, t7, st_modes]
            exact word_tail e1000 ec c0 w0 wc hk hc hN hnl hi hw hw' F1 q
          | false =>
            simp -dsimp -implicitDefEqProofs [t2, te, t3, t7, st_modes]
            refine spec_clocked e1000 ec c0 (by rw [Int.add_sub_cancel]; exact hw') hk hc w0 wc (inv F1) fun p st2 F2 => ?_
            have F2 := F1.trans F2
            by_cases hp : isNon p = true
            · simp -dsimp -implicitDefEqProofs [isntC, hp]
              exact word_tail e1000 ec c0 w0 wc hk hc hN hnl hi hw hw' F2 q
            · simp -dsimp -implicitDefEqProofs [isntC, hp]
              exact q _ st2 F2
        · simp -dsimp -implicitDefEqProofs [t2, te, t3, t7]
          exact word_tail e1000 ec c0 w0 wc hk hc hN hnl hi hw hw' F1 q
end
theorem spec_word {e c : Nat} {bm : Bool} {nodes : List PV} (e1000 : e ≠ 0) (ec : e ≠ c) (c0 : c ≠ 0) (hN : ∀ x ∈ nodes, NodeOk x) (hnl : nodes.length ≤ 3) : ∀ (d i : Nat), WordAt (i + 2 * d + 5) d e c (stD bm e nodes c)
  | 0, i, k, clock, w, st, Q, hk, hc, w0, wc, hi, q => by
    have z2 : 2 ≤ sizeLine := by rw [sizeLine_eq]; decide
    obtain ⟨ks, vs, hst, hd⟩ := hi.now
    obtain ⟨l, rfl, hl, hm⟩ := id hc
    obtain ⟨kx, rfl⟩ : ∃ kx, k = .tup kx := by rcases hk with rfl | rfl | rfl <;> exact ⟨_, rfl⟩
    rw [E_succ, e23]
    refine Sat_fnF rfl ?_
    rw [b23_eq]
    simp -dsimp -implicitDefEqProofs
    refine Sat_found (ys := [.tup kx, .tup l]) rfl (by decide) (by simp) hst hd (pair_pl hk hc) (fun key s => by simp [fTup, faCons, faNil, fC, z2]) fun ss hss hsl => ?_
    simp -dsimp -implicitDefEqProofs [srtT_strs (show ss.length < 64 by omega)]
    have hlen : (srtS ss).length ≤ 40 := by rw [(srtS_perm ss).length_eq]; exact hsl
    refine word_ret (i := i + 1) c0 hk hlen (.refl hi) fun p st' F => ?_
    exact q p st' F
  | d + 1, i, k, clock, w, st, Q, hk, hc, w0, wc, hi, q => by
    have z2 : 2 ≤ sizeLine := by rw [sizeLine_eq]; decide
    have hw : WordAt (i + 2 * d + 6) d e c (stD bm e nodes c) := by
      rw [show i + 2 * d + 6 = i + 1 + 2 * d + 5 by omega]
      exact spec_word e1000 ec c0 hN hnl d (i + 1)
    have hw' : WordAt (i + 2 * d + 5) d e c (stD bm e nodes c) := spec_word e1000 ec c0 hN hnl d i
    have hd0 : ¬ ((d : Int) + 1 = 0) := by omega
    obtain ⟨ks, vs, hst, hd⟩ := hi.now
    obtain ⟨l, rfl, hl, hm⟩ := id hc
    obtain ⟨kx, rfl⟩ : ∃ kx, k = .tup kx := by rcases hk with rfl | rfl | rfl <;> exact ⟨_, rfl⟩
    rw [show i + 2 * (d + 1) + 5 = (i + 2 * d + 6) + 1 by omega, E_succ, e23]
    refine Sat_fnF rfl ?_
    rw [b23_eq]
    simp -dsimp -implicitDefEqProofs
    refine Sat_found (ys := [.tup kx, .tup l]) rfl (by decide) (by simp) hst hd (pair_pl hk hc) (fun key s => by simp [fTup, faCons, faNil, fC, z2]) fun ss hss hsl => ?_
    have hlen : (srtS ss).length ≤ 40 := by rw [(srtS_perm ss).length_eq]; exact hsl
    simp -dsimp -implicitDefEqProofs [srtT_strs (show ss.length < 64 by omega), hd0, neC_nilL]
    by_cases hn : srtS ss = []
    · simp -dsimp -implicitDefEqProofs [hn]
      exact word_mid (i := i + 2 * d + 2) e1000 ec c0 w0 wc hk hc hN hnl hi hw hw' (.refl hi) q
    · simp -dsimp -implicitDefEqProofs [hn]
      refine draw hi.pool (by omega) (by omega) fun r st1 h1 h2 hp1 f1 l1 => ?_
      have F1 : Wf c st st1 := .of c0 hp1 f1 l1 hi.calls
      by_cases hr : r < 3
      · simp -dsimp -implicitDefEqProofs [hr]
        refine word_ret (i := i + 2 * d + 3) c0 hk hlen F1 fun p st' F => ?_
        exact q p st' F
      · simp -dsimp -implicitDefEqProofs [hr]
        exact word_mid (i := i + 2 * d + 2) e1000 ec c0 w0 wc hk hc hN hnl hi hw hw' F1 q
end K13
namespace Pv
open PySem L2
section
variable {st : Store} {n : Nat} {xs : List PV}
theorem neC_refnil (h : st[n]? = some (.lst xs)) : neC (.ref n) (.lst []) st = some (.bl (!xs.isEmpty)) := by
  unfold neC eqB
  have h1 : dreP (.ref n) st = .lst xs := by simp [dreP, h]
  have h2 : ∀ s, dreP (.lst []) s = .lst [] := fun s => rfl
  rw [h1, h2]
  cases xs <;> rfl
theorem popM_ref (h : st[n]? = some (.lst xs)) {i : Int} (h0 : 0 ≤ i) (h1 : i < xs.length) (hz : xs.length < 2 ^ 62) : ∃ q, popM (.ref n) [.int i] st = some (q, st.set n (.lst (xs.eraseIdx i.toNat))) := by
  have hk : i.toNat < xs.length := by omega
  refine ⟨xs[i.toNat], ?_⟩
  have e : ixN xs.length i = some i.toNat := by unfold ixN; rw [if_pos h0, if_pos h1]
  simp only [popM, h, e, if_pos hz, List.getElem?_eq_getElem hk, Option.map_some]
end
end Pv
/-! k13: modes, shuffled rows. -/
namespace K13
open Pv PySem L2
theorem spec_modes {i e c w : Nat} {bm : Bool} {nodes : List PV} {k clock : PV} {st : Store} {Q : PV → Store → Prop} (e1000 : e ≠ 0) (ec : e ≠ c) (c0 : c ≠ 0) (w0 : w ≠ 0) (wc : w ≠ c) (hk : Kd k) (hc : Ck clock) (hN : ∀ x ∈ nodes, NodeOk x) (hnl : nodes.length ≤ 3) (hi : WInv e w c st)
    (q : ∀ p st', Wf c st st' → Q p st') : Sat (E (i + 10) 26 [.ref 0, stD bm e nodes c, k, clock, .ref w] st) Q := by
  have z1 : 1 ≤ sizeLine := by rw [sizeLine_eq]; decide
  have z2 : 2 ≤ sizeLine := by rw [sizeLine_eq]; decide
  have z3 : 3 ≤ sizeLine := by rw [sizeLine_eq]; decide
  have hw1 : WordAt (i + 9) (1 : Nat) e c (stD true e nodes c) := spec_word e1000 ec c0 hN hnl 1 (i + 2)
  have hw2 : WordAt (i + 9) (2 : Nat) e c (stD true e nodes c) := spec_word e1000 ec c0 hN hnl 2 i
  have inv : ∀ {st'}, Wf c st st' → WInv e w c st' := fun F => F.inv hi e1000 ec w0 wc
  rw [E_succ, e26]
  refine Sat_fnF rfl ?_
  unfold b26
  simp -dsimp -implicitDefEqProofs [z3]
  refine draw hi.pool (by omega) (by omega) fun r st1 h1 h2 hp1 f1 l1 => ?_
  have F1 : Wf c st st1 := .of c0 hp1 f1 l1 hi.calls
  obtain ⟨names, hnm, hne, hnl3⟩ : ∃ names : List PV, cutP [PV.str [109, 97], .str [109, 98], .str [109, 99]] none (some (1 + r)) = names ∧ names ≠ [] ∧ names.length ≤ 3 := by
    rcases (by omega : r = 0 ∨ r = 1 ∨ r = 2) with rfl | rfl | rfl
    · exact ⟨_, rfl, by decide, by decide⟩
    · exact ⟨_, rfl, by decide, by decide⟩
    · exact ⟨_, rfl, by decide, by decide⟩
  simp -dsimp -implicitDefEqProofs [hnm, st_every, st_nodes, st_calls, foldD, keyOf, putDk, putDv, hasD, keyEq]
  refine SatS_for (fun l sg st' => ∃ fs o8 o9 o10, sg = [some (.ref 0), some (stD bm e nodes c), some k, some clock, some (.ref w), some (.lst names), some (stD true e nodes c), some (.tup fs), o8, o9, o10] ∧ fs.length + l.length ≤ 3 ∧ Wf c st st') ?_ ?_ names _ _ ⟨_, _, _, _, rfl, by simpa using hnl3, F1⟩
  · rintro sg st' ⟨fs, o8, o9, o10, rfl, hl, F⟩
    simp -dsimp -implicitDefEqProofs [z2]
    exact q _ st' F
  · rintro p ps sg st' ⟨fs, o8, o9, o10, rfl, hl, F⟩
    simp -dsimp -implicitDefEqProofs
    refine Sat_fComp ?_
    simp -dsimp -implicitDefEqProofs
    refine draw F.pool (by omega) (by omega) fun r st2 h1 h2 hp2 f2 l2 => ?_
    have F2 := F.trans (.of c0 hp2 f2 l2 F.calls)
    have hl2 : (rngL 0 r.toNat).length ≤ sizeLine := by rw [rng_len, sizeLine_eq]; omega
    simp -dsimp -implicitDefEqProofs
    refine ⟨by omega, hl2, ?_⟩
    refine Sat_each (Wf c st) (fun _ => True) _ F2 (fun p hpm st3 F3 => ?_) fun zs st3 _ hzl F3 => ?_
    · simp -dsimp -implicitDefEqProofs [z1]
      refine hw1 kB_kd hc w0 wc (inv F3) fun p st4 F4 => ?_
      have F4 := F3.trans F4
      simp -dsimp -implicitDefEqProofs
      refine pick_lst F4.pool hne (by omega) fun x st5 hx hp5 f5 l5 => ?_
      simp -dsimp -implicitDefEqProofs [z2]
      exact F4.trans (.of c0 hp5 f5 l5 F4.calls)
    · simp -dsimp -implicitDefEqProofs
      refine hw2 hk hc w0 wc (inv F3) fun p st4 F4 => ?_
      have F4 := F3.trans F4
      have hz : fs.length + 1 ≤ sizeLine := by rw [sizeLine_eq]; omega
      simp -dsimp -implicitDefEqProofs [z1, z3, hz]
      exact ⟨by simp at hl; omega, F4⟩
theorem Fr.far {n : Nat} {a b : Store} {c : Cell} (h : Fr a b) (hn : a.length ≤ n) : Fr a (b.set n c) := ⟨by simpa using h.1, fun k h0 h1 => by rw [List.getElem?_set_ne (by omega)]; exact h.2 k h0 h1⟩
theorem spec_shuf {i : Nat} {p : PV} {xs : List PV} {st : Store} {Q : PV → Store → Prop} (hx : asQ p st = some xs) (hl : xs.length ≤ 100) (hp : Pool st) (q : ∀ f ys st', st'[f]? = some (.lst ys) → Pool st' → Fr st st' → Q (.ref f) st') : Sat (E (i + 3) 14 [.ref 0, p] st) Q := by
  have hn := hp.len
  have e0 : lstB true [p] st = some (.ref st.length, st ++ [.lst xs]) := by simp [lstB, hx]
  have g1 : (st ++ [Cell.lst xs])[st.length]? = some (.lst xs) := app_new _ _
  have p1 : Pool (st ++ [Cell.lst xs]) := by
    obtain ⟨ys, a, b, c, d, e, ha⟩ := hp
    exact ⟨ys, a, b, c, d, by rw [List.getElem?_append_left hn]; exact e, ha⟩
  rw [E_succ, e14]
  refine Sat_fnF rfl ?_
  unfold b14
  simp -dsimp -implicitDefEqProofs [e0]
  have hlen : (st ++ [Cell.lst xs]).length = st.length + 1 := by simp
  have g2 : (st ++ [Cell.lst xs] ++ [Cell.lst []])[st.length]? = some (.lst xs) := by rw [List.getElem?_append_left (by omega)]; exact g1
  have g3 : (st ++ [Cell.lst xs] ++ [Cell.lst []])[st.length + 1]? = some (.lst []) := by have := app_new (st ++ [Cell.lst xs]) (.lst []); rw [hlen] at this; exact this
  have p2 : Pool (st ++ [Cell.lst xs] ++ [Cell.lst []]) := by
    obtain ⟨ys, a, b, c, d, e, ha⟩ := p1
    exact ⟨ys, a, b, c, d, by rw [List.getElem?_append_left (by omega)]; exact e, ha⟩
  rw [List.append_assoc] at g2 g3 p2
  simp only [List.cons_append, List.nil_append] at g2 g3 p2
  have fr : Fr st (st ++ [Cell.lst xs, Cell.lst []]) := ⟨by simp, fun k _ h => List.getElem?_append_left h⟩
  generalize st ++ [Cell.lst xs, Cell.lst []] = st1 at g2 g3 p2 fr ⊢
  generalize hL : st.length = L at g2 g3 hn ⊢
  refine SatS_whileF (fun j sg st' => sg = [some (.ref 0), some p, some (.ref L), some (.ref (L + 1))] ∧ Pool st' ∧ Fr st st' ∧ ∃ ls fs, st'[L]? = some (.lst ls) ∧ st'[L + 1]? = some (.lst fs) ∧ j = ls.length ∧ ls.length + fs.length ≤ 100) xs.length (by omega) ⟨rfl, p2, fr, xs, [], g2, g3, rfl, by simpa using hl⟩ ?_
  rintro j sg st' ⟨rfl, hp', fr', ls, fs, g4, g5, rfl, h100⟩
  by_cases hls : ls = []
  · subst hls
    simp -dsimp -implicitDefEqProofs [neC_refnil g4]
    exact q _ fs st' g5 hp' fr'
  · have hpos : 0 < ls.length := List.length_pos_iff.mpr hls
    simp -dsimp -implicitDefEqProofs [neC_refnil g4, hls, isLst_ref g5, isLst_ref g4, lenB_ref g4]
    refine draw hp' (by omega) (by omega) fun r st2 h1 h2 hp2 f2 l2 => ?_
    have g6 : st2[L]? = some (.lst ls) := f2.get (by omega) g4
    have g7 : st2[L + 1]? = some (.lst fs) := f2.get (by omega) g5
    obtain ⟨x, ex⟩ := popM_ref g6 h1 h2 (by omega)
    have g8 : (st2.set L (.lst (ls.eraseIdx r.toNat)))[L + 1]? = some (.lst fs) := lst_set g7 (by omega)
    have g9 : (st2.set L (.lst (ls.eraseIdx r.toNat)))[L]? = some (.lst (ls.eraseIdx r.toNat)) := set_get g6
    have f3 : Fr st (st2.set L (.lst (ls.eraseIdx r.toNat))) := (fr'.trans f2).far (by omega)
    have p3 : Pool (st2.set L (.lst (ls.eraseIdx r.toNat))) := hp2.keep (Frn.set L _ _) (by omega)
    have hez : (ls.eraseIdx r.toNat).length = ls.length - 1 := List.length_eraseIdx_of_lt (by omega)
    simp -dsimp -implicitDefEqProofs [ex]
    generalize st2.set L (.lst (ls.eraseIdx r.toNat)) = st3 at g8 g9 p3 f3 ⊢
    have hfz : fs.length < sizeLine := by rw [sizeLine_eq]; omega
    simp -dsimp -implicitDefEqProofs [appM_ref g8 hfz]
    exact ⟨(ls.eraseIdx r.toNat).length, by omega, p3.keep (Frn.set (L + 1) _ _) (by omega), f3.far (by omega), _, g9, _, set_get g8, rfl, by simp; omega⟩
end K13
namespace Pv
/-- what simp does not look into -/
structure Hd (P : Prop) (u : Mk1 P := .mk) : Prop where
  get : P

end Pv
/-! k13: a node. -/
namespace K13
open Pv PySem L2
def n3 (tf : Nat → FF) : FS := (fsFor (fiVal (fVar 4)) (gtTup 2 (gsCons (gtName 10) (gsCons (gtName 15) gsNil))) (fsSeq (fsAsg (fTup (faCons (fTup (faCons (fVar 15) (faCons (fTup faNil) faNil))) (faCons (fTup (faCons (fVar 15) (faCons (fTup faNil) faNil))) faNil))) (gtTup 2 (gsCons (gtSub (fVar 12) (fVar 10)) (gsCons (gtSub (fVar 14) (fVar 10)) gsNil)))) fsNil))
def n6ib (tf : Nat → FF) : FS := (fsSeq (fsAsg (fcB (srtT false) (faCons (fLock 12 (fComp false [20] (fiKeys (fVar 12)) (gtName 20) (fBl (fBin eqC (fBin idxP (fVar 12) (fVar 20)) (fTup (faCons (fTup (faCons (fC (.str [98, 111, 111, 108])) faNil)) (faCons (fVar 18) faNil))))) (fVar 20))) faNil)) (gtName 19)) (fsSeq (fsAsg (fIte (tfAnd (fBl (fBin neC (fVar 19) (fLst false faNil))) (fBl (fBin eqC (fCall (tf 11) (faCons (fVar 0) (faCons (fC (.int 3)) faNil))) (fC (.int 0))))) (fBin addP (fVar 18) (fTup (faCons (fTup (faCons (fCall (tf 12) (faCons (fVar 0) (faCons (fVar 19) faNil))) (faCons (fCall (tf 11) (faCons (fVar 0) (faCons (fC (.int 2)) faNil))) faNil))) faNil))) (fVar 18)) (gtName 18)) fsNil))
def n6i (tf : Nat → FF) : FS := (fsFor (fiRng1 (fIte (fBl (fBin ltC (fVar 7) (fVar 5))) (fC (.int 2)) (fC (.int 0)))) (gtName 16) (n6ib tf))
def n6b (tf : Nat → FF) : FS := (fsSeq (fsAsg (fTup (faCons (fCall (tf 22) (faCons (fBin addP (fC (.int 10)) (fVar 7)) faNil)) (faCons (fTup faNil) faNil))) (gtTup 2 (gsCons (gtName 10) (gsCons (gtName 18) gsNil)))) (fsSeq (n6i tf) (fsSeq (fsAsg (fTup (faCons (fCall (tf 12) (faCons (fVar 0) (faCons (fVar 3) faNil))) (faCons (fVar 18) faNil))) (gtSub (fVar 12) (fVar 10))) (fsSeq (fsDrop (fBM isLst appM (fVar 13) (faCons (fVar 10) faNil))) (fsSeq (fsAsg (fIte (fBl (fBin geC (fVar 7) (fVar 5))) (fBin addP (fVar 6) (fTup (faCons (fTup (faCons (fVar 10) (faCons (fBin idxP (fBin idxP (fVar 12) (fVar 10)) (fC (.int 0))) faNil))) faNil))) (fVar 6)) (gtName 6)) fsNil)))))
def n6 (tf : Nat → FF) : FS := (fsFor (fiRng1 (fBin addP (fBin addP (fVar 5) (fC (.int 1))) (fCall (tf 11) (faCons (fVar 0) (faCons (fC (.int 2)) faNil))))) (gtName 7) (n6b tf))
def n9b (tf : Nat → FF) : FS := (fsSeq (fsAsg (fBin idxP (fVar 12) (fVar 10)) (gtTup 2 (gsCons (gtName 15) (gsCons (gtName 18) gsNil)))) (fsSeq (fsAsg (fIte (fBl (fBin eqC (fCall (tf 11) (faCons (fVar 0) (faCons (fC (.int 5)) faNil))) (fC (.int 0)))) (fCall (tf 26) (faCons (fVar 0) (faCons (fVar 8) (faCons (fVar 15) (faCons (fVar 18) (faCons (fVar 14) faNil)))))) (fCall (tf 23) (faCons (fVar 0) (faCons (fVar 8) (faCons (fVar 15) (faCons (fVar 18) (faCons (fVar 14) (faCons (fBin addP (fC (.int 1)) (fCall (tf 11) (faCons (fVar 0) (faCons (fC (.int 3)) faNil)))) faNil)))))))) (gtName 17)) (fsSeq (fsDrop (fBM isLst appM (fVar 9) (faCons (fTup (faCons (fTup (faCons (fVar 10) faNil)) (faCons (fVar 17) faNil))) faNil))) (fsSeq (fsAsg (fBin idxP (fVar 12) (fVar 10)) (gtSub (fVar 14) (fVar 10))) fsNil))))
def n9 (tf : Nat → FF) : FS := (fsFrzV 13 (fsFor (fiVal (fVar 13)) (gtName 10) (n9b tf)))
def n10 (tf : Nat → FF) : FS := (fsAsg (fcB tupB (faCons (fComp false [10] (fiVal (fVar 13)) (gtName 10) (fBl (fBin ninC (fVar 10) (fComp false [1, 15] (fiVal (fVar 6)) (gtTup 2 (gsCons (gtName 1) (gsCons (gtName 15) gsNil))) ftYes (fVar 1)))) (fBin addP (fTup (faCons (fVar 10) faNil)) (fBin idxP (fVar 12) (fVar 10)))) faNil)) (gtName 11))
theorem b27_eq (tf tfm : Nat → FF) : b27 tf tfm = (fsSeq (fsAsg (fLst false (faCons (fTup (faCons (fC (.str [98, 111, 111, 108])) faNil)) (faCons (fTup (faCons (fC (.str [110, 117, 109])) (faCons (fC (.int 3)) faNil))) (faCons (fTup (faCons (fC (.str [110, 117, 109])) (faCons (fC (.int 5)) faNil))) faNil)))) (gtName 3)) (fsSeq (fsAsg (fcB tupB (faCons (fComp false [7] (fiRng1 (fBin addP (fC (.int 1)) (fCall (tf 11) (faCons (fVar 0) (faCons (fC (.int 2)) faNil))))) (gtName 7) ftYes (fTup (faCons (fCall (tf 22) (faCons (fVar 7) faNil)) (faCons (fCall (tf 12) (faCons (fVar 0) (faCons (fVar 3) faNil))) faNil)))) faNil)) (gtName 4)) (fsSeq (fsAsg (fTup (faCons (fDNew true) (faCons (fLst true faNil) (faCons (fDNew true) faNil)))) (gtTup 3 (gsCons (gtName 12) (gsCons (gtName 13) (gsCons (gtName 14) gsNil))))) (fsSeq (n3 tf) (fsSeq (fsAsg (fBin addP (fC (.int 1)) (fCall (tf 11) (faCons (fVar 0) (faCons (fC (.int 3)) faNil)))) (gtName 5)) (fsSeq (fsAsg (fTup faNil) (gtName 6)) (fsSeq (n6 tf) (fsSeq (fsAsg (fDisp false [((fC (.str [109, 111, 100, 101, 115])), (fC (.bl false))), ((fC (.str [101, 118, 101, 114, 121])), (fVar 12)), ((fC (.str [110, 111, 100, 101, 115])), (fVar 2)), ((fC (.str [99, 97, 108, 108, 115])), (fLst true faNil))]) (gtName 8)) (fsSeq (fsAsg (fLst true faNil) (gtName 9)) (fsSeq (n9 tf) (fsSeq (n10 tf) (fsSeq (fsRet (fTup (faCons (fVar 1) (faCons (fVar 4) (faCons (fVar 6) (faCons (fVar 11) (faCons (fcB tupB (faCons (fCall (tf 14) (faCons (fVar 0) (faCons (fVar 9) faNil))) faNil)) faNil))))))) fsNil)))))))))))) := rfl
abbrev kinds : PV := .lst [kB, kN 3, kN 5]
theorem kinds_kd {x : PV} (h : x ∈ [kB, kN 3, kN 5]) : Kd x := by
  simp at h
  rcases h with rfl | rfl | rfl
  · exact .inl rfl
  · exact .inr (.inl rfl)
  · exact .inr (.inr rfl)
theorem keyEq_iffS {k : PV} {s : List Nat} (h : keyEq k (.str s) = true) : k = .str s := by
  cases k with
  | str t => simp [keyEq] at h; rw [h]
  | _ => simp [keyEq] at h
theorem put_len (q : PV) (ks : List PV) : (putDk q ks).length ≤ ks.length + 1 := by
  unfold putDk
  split <;> simp
theorem put_mem {q k : PV} {ks : List PV} (h : k ∈ ks) : k ∈ putDk q ks := by
  unfold putDk
  split
  · exact h
  · exact List.mem_append_left _ h
theorem put_self {s : List Nat} {ks : List PV} : .str s ∈ putDk (.str s) ks := by
  unfold putDk
  split
  · rename_i h
    obtain ⟨k, hk, e⟩ := List.any_eq_true.mp h
    exact keyEq_iffS e ▸ hk
  · exact List.mem_append_right _ (by simp)
theorem repD_len (q v : PV) : ∀ ks vs : List PV, ks.length = vs.length → (repD q v ks vs).length = ks.length
  | [], [], _ => rfl
  | _ :: ks, _ :: vs, h => by
    have := repD_len q v ks vs (by simpa using h)
    simp -dsimp -implicitDefEqProofs [repD, this]
theorem repD_mem {q v : PV} : ∀ {ks vs : List PV} {x : PV}, x ∈ repD q v ks vs → x = v ∨ x ∈ vs
  | [], _, x, h => by simp [repD] at h
  | _ :: _, [], x, h => by simp [repD] at h
  | k :: ks, u :: vs, x, h => by
    unfold repD at h
    rcases List.mem_cons.mp h with h | h
    · split at h
      · exact .inl h
      · exact .inr (h ▸ List.mem_cons_self)
    · rcases repD_mem h with h | h
      · exact .inl h
      · exact .inr (List.mem_cons_of_mem _ h)
theorem DicOk.put {ks vs : List PV} {s : List Nat} {v : PV} (h : DicOk ks vs) (hl : ks.length ≤ 39) (hs : Nm s) (hv : En v) : DicOk (putDk (.str s) ks) (putDv (.str s) v ks vs) := by
  have h1 := put_len (.str s) ks
  unfold putDk putDv at *
  cases hh : hasD (.str s) ks with
  | true =>
    rw [if_pos rfl, if_pos rfl]
    exact ⟨by rw [repD_len _ _ _ _ h.len], h.most, h.key, fun x hx => (repD_mem hx).elim (fun e => e ▸ hv) (h.val x)⟩
  | false =>
    rw [if_neg Bool.false_ne_true, if_neg Bool.false_ne_true]
    refine ⟨by simp [h.len], by simp; omega, fun k hk => ?_, fun x hx => ?_⟩
    · rcases List.mem_append.mp hk with hk | hk
      · exact h.key k hk
      · simp at hk; exact ⟨s, hk, hs⟩
    · rcases List.mem_append.mp hx with hx | hx
      · exact h.val x hx
      · simp at hx; exact hx ▸ hv
structure NI (st0 : Store) (n : Nat) (ke ve os kw vw : List PV) (st : Store) : Prop where
  pool : Pool st
  fr : Fr st0 st
  ev : st[n]? = some (.dic ke ve)
  dev : DicOk ke ve
  ord : st[n + 1]? = some (.lst os)
  hos : ∀ o ∈ os, o ∈ ke
  now : st[n + 2]? = some (.dic kw vw)
  dnow : DicOk kw vw
section
variable {st0 st st' : Store} {n : Nat} {ke ve os kw vw : List PV}
theorem NI.draw (h : NI st0 n ke ve os kw vw st) (h0 : n ≠ 0) (p : Pool st') (f : Fr st st') : NI st0 n ke ve os kw vw st' :=
  ⟨p, h.fr.trans f, f.get h0 h.ev, h.dev, f.get (by omega) h.ord, h.hos, f.get (by omega) h.now, h.dnow⟩
theorem NI.setE (h : NI st0 n ke ve os kw vw st) (h0 : n ≠ 0) (hn : n = st0.length) {s : List Nat} {v : PV} (hl : ke.length ≤ 39) (hs : Nm s) (hv : En v) :
    setP (.ref n) (.str s) v st = some (st.set n (.dic (putDk (.str s) ke) (putDv (.str s) v ke ve))) ∧ NI st0 n (putDk (.str s) ke) (putDv (.str s) v ke ve) os kw vw (st.set n (.dic (putDk (.str s) ke) (putDv (.str s) v ke ve))) := by
  refine ⟨by rw [setP_dic h.ev _ _ (by rw [sizeLine_eq]; omega)]; rfl, h.pool.keep (Frn.set n _ _) h0, h.fr.far (by omega), set_get h.ev, h.dev.put hl hs hv, lst_set h.ord (by omega), fun o ho => put_mem (h.hos o ho), lst_set h.now (by omega), h.dnow⟩
theorem NI.setW (h : NI st0 n ke ve os kw vw st) (h0 : n ≠ 0) (hn : n = st0.length) {s : List Nat} {v : PV} (hl : kw.length ≤ 39) (hs : Nm s) (hv : En v) :
    setP (.ref (n + 2)) (.str s) v st = some (st.set (n + 2) (.dic (putDk (.str s) kw) (putDv (.str s) v kw vw))) ∧ NI st0 n ke ve os (putDk (.str s) kw) (putDv (.str s) v kw vw) (st.set (n + 2) (.dic (putDk (.str s) kw) (putDv (.str s) v kw vw))) := by
  refine ⟨by rw [setP_dic h.now _ _ (by rw [sizeLine_eq]; omega)]; rfl, h.pool.keep (Frn.set (n + 2) _ _) (by omega), h.fr.far (by omega), lst_set h.ev (by omega), h.dev, lst_set h.ord (by omega), h.hos, set_get h.now, h.dnow.put hl hs hv⟩
theorem NI.setO (h : NI st0 n ke ve os kw vw st) (h0 : n ≠ 0) (hn : n = st0.length) {s : List Nat} (hs : .str s ∈ ke) : NI st0 n ke ve (os ++ [.str s]) kw vw (st.set (n + 1) (.lst (os ++ [.str s]))) := by
  refine ⟨h.pool.keep (Frn.set (n + 1) _ _) (by omega), h.fr.far (by omega), lst_set h.ev (by omega), h.dev, set_get h.ord, fun o ho => ?_, lst_set h.now (by omega), h.dnow⟩
  rcases List.mem_append.mp ho with ho | ho
  · exact h.hos o ho
  · simp at ho; exact ho ▸ hs
theorem NI.at (h : NI st0 n ke ve os kw vw st) {s : List Nat} (hs : .str s ∈ ke) : ∃ k c, idxP (.ref n) (.str s) st = some (.tup [k, c]) ∧ Kd k ∧ Ck c := by
  obtain ⟨v, hv, ev⟩ := lookD_mem h.dev.len hs (keyEq_str s)
  obtain ⟨k, c, rfl, h1, h2⟩ := h.dev.val v hv
  exact ⟨k, c, by rw [idxP_dic h.ev]; simpa [keyOf] using ev, h1, h2⟩
end
theorem Ck.nil : Ck (.tup []) := ⟨[], rfl, by simp, by simp⟩
section
variable {i n : Nat} {nm : PV} {nodes ins ke ve kw vw : List PV} {st0 st : Store} {o5 o6 o7 o8 o9 o10 o11 o15 o16 o17 o18 o19 o20 : Option PV} {nx : Sig → Store → Prop} {rt : PV → Store → Prop} {F : Nat → FF}
theorem node3 (hn : n = st0.length) (h0 : n ≠ 0) (hp : ∀ x ∈ ins, Pair x) (hl : ins.length ≤ 2) (h : NI st0 n [] [] [] [] [] st)
    (q : ∀ o10 o15 ke ve kw vw st', NI st0 n ke ve [] kw vw st' → ke.length ≤ 2 → kw.length ≤ 2 → nx [some (.ref 0), some nm, some (.lst nodes), some kinds, some (.tup ins), o5, o6, o7, o8, o9, o10, o11, some (.ref n), some (.ref (n + 1)), some (.ref (n + 2)), o15, o16, o17, o18, o19, o20] st') :
    SatS (n3 F [some (.ref 0), some nm, some (.lst nodes), some kinds, some (.tup ins), o5, o6, o7, o8, o9, o10, o11, some (.ref n), some (.ref (n + 1)), some (.ref (n + 2)), o15, o16, o17, o18, o19, o20] st) nx rt := by
  have z1 : 1 ≤ sizeLine := by rw [sizeLine_eq]; decide
  have z2 : 2 ≤ sizeLine := by rw [sizeLine_eq]; decide
  have z0 : 0 ≤ sizeLine := by omega
  unfold n3
  simp -dsimp -implicitDefEqProofs
  refine SatS_for (fun l sg st' => Hd (∃ o10 o15 ke ve kw vw, sg = [some (.ref 0), some nm, some (.lst nodes), some kinds, some (.tup ins), o5, o6, o7, o8, o9, o10, o11, some (.ref n), some (.ref (n + 1)), some (.ref (n + 2)), o15, o16, o17, o18, o19, o20] ∧ NI st0 n ke ve [] kw vw st' ∧ ke.length + l.length ≤ 2 ∧ kw.length + l.length ≤ 2 ∧ ∀ x ∈ l, Pair x)) ?_ ?_ ins _ _ ⟨⟨_, _, _, _, _, _, rfl, h, by simpa using hl, by simpa using hl, hp⟩⟩
  · rintro sg st' ⟨o10, o15, ke, ve, kw, vw, rfl, h, h1, h2, _⟩
    exact q _ _ _ _ _ _ st' h (by simpa using h1) (by simpa using h2)
  · rintro p ps sg st' ⟨o10, o15, ke, ve, kw, vw, rfl, h, h1, h2, h3⟩
    obtain ⟨s, k, rfl, hs, hk⟩ := h3 p List.mem_cons_self
    simp only [List.length_cons] at h1 h2
    have hE : En (.tup [k, .tup []]) := ⟨k, _, rfl, hk, .nil⟩
    obtain ⟨s1, N1⟩ := h.setE h0 hn (by omega) hs hE
    obtain ⟨s2, N2⟩ := N1.setW h0 hn (by omega) hs hE
    have p1 := put_len (.str s) ke
    have p2 := put_len (.str s) kw
    simp -dsimp -implicitDefEqProofs [z0, z2, s1, s2]
    exact ⟨_, _, _, _, _, _, rfl, N2, by omega, by omega, fun a ha => h3 a (List.mem_cons_of_mem _ ha)⟩
theorem node6i {os : List PV} {k lh : Int} {s : PV} (hn : n = st0.length) (h0 : n ≠ 0) (h : NI st0 n ke ve os kw vw st)
    (q : ∀ o16 o19 cl st', Ck (.tup cl) → NI st0 n ke ve os kw vw st' → nx [some (.ref 0), some nm, some (.lst nodes), some kinds, some (.tup ins), some (.int lh), o6, some (.int k), o8, o9, some s, o11, some (.ref n), some (.ref (n + 1)), some (.ref (n + 2)), o15, o16, o17, some (.tup cl), o19, o20] st') :
    SatS (n6i (E (i + 12)) [some (.ref 0), some nm, some (.lst nodes), some kinds, some (.tup ins), some (.int lh), o6, some (.int k), o8, o9, some s, o11, some (.ref n), some (.ref (n + 1)), some (.ref (n + 2)), o15, o16, o17, some (.tup []), o19, o20] st) nx rt := by
  have z1 : 1 ≤ sizeLine := by rw [sizeLine_eq]; decide
  have z2 : 2 ≤ sizeLine := by rw [sizeLine_eq]; decide
  unfold n6i
  have main : ∀ l : List PV, l.length ≤ 2 → SatS (forL (gtName 16) (n6ib (E (i + 12))) l [some (.ref 0), some nm, some (.lst nodes), some kinds, some (.tup ins), some (.int lh), o6, some (.int k), o8, o9, some s, o11, some (.ref n), some (.ref (n + 1)), some (.ref (n + 2)), o15, o16, o17, some (.tup []), o19, o20] st) nx rt := fun l hl => by
    refine SatS_for (fun l sg st' => Hd (∃ o16 o19 cl, sg = [some (.ref 0), some nm, some (.lst nodes), some kinds, some (.tup ins), some (.int lh), o6, some (.int k), o8, o9, some s, o11, some (.ref n), some (.ref (n + 1)), some (.ref (n + 2)), o15, o16, o17, some (.tup cl), o19, o20] ∧ Ck (.tup cl) ∧ cl.length + l.length ≤ 2 ∧ NI st0 n ke ve os kw vw st')) ?_ ?_ l _ _ ⟨_, _, _, rfl, .nil, by simpa using hl, h⟩
    · rintro sg st' ⟨o16, o19, cl, rfl, hc, hl, h⟩
      exact q _ _ _ st' hc h
    · rintro p ps sg st' ⟨o16, o19, cl, rfl, hc, hl, h⟩
      simp only [List.length_cons] at hl
      unfold n6ib
      simp -dsimp -implicitDefEqProofs
      refine Sat_found (ys := [kB, .tup cl]) rfl (by decide) (by simp) h.ev h.dev (pair_pl kB_kd hc) (fun key s => by simp [fTup, faCons, faNil, fC, z1, z2]) fun ss hss hsl => ?_
      have hlen : (srtS ss).length ≤ 40 := by rw [(srtS_perm ss).length_eq]; exact hsl
      simp -dsimp -implicitDefEqProofs [srtT_strs (show ss.length < 64 by omega), neC_nilL]
      by_cases hne : srtS ss = []
      · simp -dsimp -implicitDefEqProofs [hne]
        exact ⟨_, _, _, rfl, hc, by omega, h⟩
      · simp -dsimp -implicitDefEqProofs [hne]
        refine draw h.pool (by omega) (by omega) fun r st1 h1 h2 hp1 f1 l1 => ?_
        have N1 := h.draw h0 hp1 f1
        by_cases hr : r = 0
        · simp -dsimp -implicitDefEqProofs [hr]
          refine pick_lst hp1 (by simpa using hne) (by simp; omega) fun x st2 hx hp2 f2 l2 => ?_
          have N2 := N1.draw h0 hp2 f2
          obtain ⟨t, ht, rfl⟩ := List.mem_map.mp hx
          have hN := (hss t (srtS_mem.mp ht)).2
          simp -dsimp -implicitDefEqProofs
          refine draw hp2 (by omega) (by omega) fun r st3 h1 h2 hp3 f3 l3 => ?_
          have N3 := N2.draw h0 hp3 f3
          have hz : cl.length + 1 ≤ sizeLine := by rw [sizeLine_eq]; omega
          simp -dsimp -implicitDefEqProofs [z1, z2, hz]
          exact ⟨_, _, _, rfl, hc.add (by omega) hN h1 (by omega), by simp; omega, N3⟩
        · simp -dsimp -implicitDefEqProofs [hr]
          exact ⟨_, _, _, rfl, hc, by omega, N1⟩
  by_cases hk : k < lh
  · simp -dsimp -implicitDefEqProofs [hk]
    exact main _ (by rw [rng_len]; decide)
  · simp -dsimp -implicitDefEqProofs [hk]
    exact main _ (by rw [rng_len]; decide)
theorem node6 {lh : Int} (hn : n = st0.length) (h0 : n ≠ 0) (hl1 : 1 ≤ lh) (hl3 : lh ≤ 3) (h : NI st0 n ke ve [] kw vw st) (hke : ke.length ≤ 2)
    (q : ∀ o7 o10 o16 o18 o19 outs os ke ve st', (∀ x ∈ outs, Pair x) → outs.length ≤ 5 → NI st0 n ke ve os kw vw st' → os.length ≤ 5 → ke.length ≤ 7 → nx [some (.ref 0), some nm, some (.lst nodes), some kinds, some (.tup ins), some (.int lh), some (.tup outs), o7, o8, o9, o10, o11, some (.ref n), some (.ref (n + 1)), some (.ref (n + 2)), o15, o16, o17, o18, o19, o20] st') :
    SatS (n6 (E (i + 12)) [some (.ref 0), some nm, some (.lst nodes), some kinds, some (.tup ins), some (.int lh), some (.tup []), o7, o8, o9, o10, o11, some (.ref n), some (.ref (n + 1)), some (.ref (n + 2)), o15, o16, o17, o18, o19, o20] st) nx rt := by
  have z1 : 1 ≤ sizeLine := by rw [sizeLine_eq]; decide
  have z2 : 2 ≤ sizeLine := by rw [sizeLine_eq]; decide
  have z0 : 0 ≤ sizeLine := by omega
  unfold n6
  simp -dsimp -implicitDefEqProofs
  refine draw h.pool (by omega) (by omega) fun r st1 h1 h2 hp1 f1 l1 => ?_
  have N1 := h.draw h0 hp1 f1
  simp -dsimp -implicitDefEqProofs
  refine ⟨by omega, ?_⟩
  refine SatS_for (fun l sg st' => Hd (∃ o7 o10 o16 o18 o19 outs os ke ve, sg = [some (.ref 0), some nm, some (.lst nodes), some kinds, some (.tup ins), some (.int lh), some (.tup outs), o7, o8, o9, o10, o11, some (.ref n), some (.ref (n + 1)), some (.ref (n + 2)), o15, o16, o17, o18, o19, o20] ∧ (∀ x ∈ outs, Pair x) ∧ outs.length + l.length ≤ 5 ∧ os.length + l.length ≤ 5 ∧ ke.length + l.length ≤ 7 ∧ NI st0 n ke ve os kw vw st' ∧ ∀ p ∈ l, ∃ k : Nat, k < 5 ∧ p = .int k)) ?_ ?_ _ _ _
    ⟨_, _, _, _, _, _, _, _, _, rfl, by simp, by simp only [rng_len, List.length_nil]; omega, by simp only [rng_len, List.length_nil]; omega, by simp only [rng_len]; omega, N1, fun p hp => ?_⟩
  · rintro sg st' ⟨o7, o10, o16, o18, o19, outs, os, ke, ve, rfl, ho, a1, a2, a3, N, _⟩
    exact q _ _ _ _ _ _ _ _ _ st' ho (by simpa using a1) N (by simpa using a2) (by simpa using a3)
  · rintro p ps sg st' ⟨o7, o10, o16, o18, o19, outs, os, ke, ve, rfl, ho, a1, a2, a3, N, hps⟩
    obtain ⟨k, hk, rfl⟩ := hps p List.mem_cons_self
    simp only [List.length_cons] at a1 a2 a3
    unfold n6b
    simp -dsimp -implicitDefEqProofs
    refine spec_named (by omega) (by omega) fun s hs => ?_
    simp -dsimp -implicitDefEqProofs [z0, z2]
    refine node6i hn h0 N fun o16 o19 cl st2 hc N2 => ?_
    simp -dsimp -implicitDefEqProofs
    refine pick_lst N2.pool (by simp) (by simp) fun x st3 hx hp3 f3 l3 => ?_
    have N3 := N2.draw h0 hp3 f3
    have hkx := kinds_kd hx
    obtain ⟨s1, N4⟩ := N3.setE h0 hn (by omega) hs ⟨x, .tup cl, rfl, hkx, hc⟩
    have p1 := put_len (.str s) ke
    have hos : os.length < sizeLine := by rw [sizeLine_eq]; omega
    simp -dsimp -implicitDefEqProofs [z2, s1]
    generalize st3.set n _ = st4 at N4 ⊢
    have N5 := N4.setO h0 hn put_self
    simp -dsimp -implicitDefEqProofs [isLst_ref N4.ord, appM_ref N4.ord hos]
    generalize st4.set (n + 1) _ = st5 at N5 ⊢
    obtain ⟨k1, c1, e0, hk1, _⟩ := N5.at (s := s) put_self
    have hoz : outs.length + 1 ≤ sizeLine := by rw [sizeLine_eq]; omega
    by_cases hg : lh ≤ k
    · simp -dsimp -implicitDefEqProofs [hg, e0, z1, z2, hoz]
      refine ⟨_, _, _, _, _, _, _, _, _, rfl, fun y hy => ?_, by simp; omega, by simp; omega, by omega, N5, fun p hp => hps p (List.mem_cons_of_mem _ hp)⟩
      rcases List.mem_append.mp hy with hy | hy
      · exact ho y hy
      · simp at hy
        exact ⟨s, k1, hy, hs, hk1⟩
    · simp -dsimp -implicitDefEqProofs [hg]
      exact ⟨_, _, _, _, _, _, _, _, _, rfl, ho, by omega, by simp; omega, by omega, N5, fun p hp => hps p (List.mem_cons_of_mem _ hp)⟩
  · obtain ⟨k, hk, rfl⟩ := rng_mem hp
    exact ⟨k, by omega, rfl⟩
structure N9 (st0 : Store) (n c : Nat) (ke ve kw vw es : List PV) (st : Store) : Prop where
  pool : Pool st
  fr : Fr st0 st
  ev : st[n]? = some (.dic ke ve)
  dev : DicOk ke ve
  now : st[n + 2]? = some (.dic kw vw)
  dnow : DicOk kw vw
  calls : LAt c st
  eqs : st[c + 1]? = some (.lst es)
section
variable {c : Nat} {es : List PV} {st' : Store}
theorem N9.inv (h : N9 st0 n c ke ve kw vw es st) : WInv n (n + 2) c st := ⟨h.pool, ⟨_, _, h.ev, h.dev⟩, ⟨_, _, h.now, h.dnow⟩, h.calls⟩
theorem N9.wf (h : N9 st0 n c ke ve kw vw es st) (h0 : n ≠ 0) (hn : n = st0.length) (hc : n + 2 < c) (F : Wf c st st') : N9 st0 n c ke ve kw vw es st' :=
  ⟨F.pool, ⟨by rw [F.len]; exact h.fr.1, fun k hk hl => (F.keep k hk (by omega)).trans (h.fr.2 k hk hl)⟩, (F.keep n h0 (by omega)).trans h.ev, h.dev, (F.keep (n + 2) (by omega) (by omega)).trans h.now, h.dnow, F.calls, (F.keep (c + 1) (by omega) (by omega)).trans h.eqs⟩
theorem N9.at (h : N9 st0 n c ke ve kw vw es st) {s : List Nat} (hs : .str s ∈ ke) : ∃ k c, idxP (.ref n) (.str s) st = some (.tup [k, c]) ∧ Kd k ∧ Ck c := by
  obtain ⟨v, hv, ev⟩ := lookD_mem h.dev.len hs (keyEq_str s)
  obtain ⟨k, c, rfl, h1, h2⟩ := h.dev.val v hv
  exact ⟨k, c, by rw [idxP_dic h.ev]; simpa [keyOf] using ev, h1, h2⟩
theorem N9.setW (h : N9 st0 n c ke ve kw vw es st) (h0 : n ≠ 0) (hn : n = st0.length) (hc : n + 2 < c) {s : List Nat} {v : PV} (hl : kw.length ≤ 39) (hs : Nm s) (hv : En v) :
    setP (.ref (n + 2)) (.str s) v st = some (st.set (n + 2) (.dic (putDk (.str s) kw) (putDv (.str s) v kw vw))) ∧ N9 st0 n c ke ve (putDk (.str s) kw) (putDv (.str s) v kw vw) es (st.set (n + 2) (.dic (putDk (.str s) kw) (putDv (.str s) v kw vw))) := by
  obtain ⟨ys, hy⟩ := h.calls
  exact ⟨by rw [setP_dic h.now _ _ (by rw [sizeLine_eq]; omega)]; rfl, h.pool.keep (Frn.set (n + 2) _ _) (by omega), h.fr.far (by omega), lst_set h.ev (by omega), h.dev, set_get h.now, h.dnow.put hl hs hv, ⟨ys, lst_set hy (by omega)⟩, lst_set h.eqs (by omega)⟩
theorem N9.setQ (h : N9 st0 n c ke ve kw vw es st) (h0 : n ≠ 0) (hn : n = st0.length) (hc : n + 2 < c) {x : PV} : N9 st0 n c ke ve kw vw (es ++ [x]) (st.set (c + 1) (.lst (es ++ [x]))) := by
  obtain ⟨ys, hy⟩ := h.calls
  exact ⟨h.pool.keep (Frn.set (c + 1) _ _) (by omega), h.fr.far (by omega), lst_set h.ev (by omega), h.dev, lst_set h.now (by omega), h.dnow, ⟨ys, lst_set hy (by omega)⟩, set_get h.eqs⟩
theorem node9 {os : List PV} {outs : PV} (hN : ∀ x ∈ nodes, NodeOk x) (hnl : nodes.length ≤ 3) (hn : n = st0.length) (h0 : n ≠ 0) (hc : n + 2 < c) (ho : st[n + 1]? = some (.lst os)) (hos : ∀ o ∈ os, o ∈ ke) (hol : os.length ≤ 5) (hkw : kw.length ≤ 2) (h : N9 st0 n c ke ve kw vw [] st)
    (q : ∀ o10 o15 o17 o18 kw vw es st', N9 st0 n c ke ve kw vw es st' → es.length ≤ 5 → nx [some (.ref 0), some nm, some (.lst nodes), some kinds, some (.tup ins), o5, some outs, o7, some (stD false n nodes c), some (.ref (c + 1)), o10, o11, some (.ref n), some (.lst os), some (.ref (n + 2)), o15, o16, o17, o18, o19, o20] st') :
    SatS (n9 (E (i + 12)) [some (.ref 0), some nm, some (.lst nodes), some kinds, some (.tup ins), o5, some outs, o7, some (stD false n nodes c), some (.ref (c + 1)), o10, o11, some (.ref n), some (.ref (n + 1)), some (.ref (n + 2)), o15, o16, o17, o18, o19, o20] st) nx rt := by
  have z1 : 1 ≤ sizeLine := by rw [sizeLine_eq]; decide
  have z2 : 2 ≤ sizeLine := by rw [sizeLine_eq]; decide
  have ec : n ≠ c := by omega
  have c0 : c ≠ 0 := by omega
  have w0 : n + 2 ≠ 0 := by omega
  have wc : n + 2 ≠ c := by omega
  have hd : N9 st0 n c ke ve kw vw [] (st.set (n + 1) .dead) := by
    obtain ⟨ys, hy⟩ := h.calls
    exact ⟨h.pool.keep (Frn.set (n + 1) _ _) (by omega), h.fr.far (by omega), lst_set h.ev (by omega), h.dev, lst_set h.now (by omega), h.dnow, ⟨ys, lst_set hy (by omega)⟩, lst_set h.eqs (by omega)⟩
  unfold n9 fsFrzV
  simp -dsimp -implicitDefEqProofs [ho]
  generalize st.set (n + 1) .dead = st1 at hd ⊢
  refine SatS_for (fun l sg st' => Hd (∃ o10 o15 o17 o18 kw vw es, sg = [some (.ref 0), some nm, some (.lst nodes), some kinds, some (.tup ins), o5, some outs, o7, some (stD false n nodes c), some (.ref (c + 1)), o10, o11, some (.ref n), some (.lst os), some (.ref (n + 2)), o15, o16, o17, o18, o19, o20] ∧ N9 st0 n c ke ve kw vw es st' ∧ kw.length + l.length ≤ 7 ∧ es.length + l.length ≤ 5 ∧ ∀ p ∈ l, p ∈ ke)) ?_ ?_ _ _ _
    ⟨_, _, _, _, _, _, _, rfl, hd, by omega, by simp only [List.length_nil]; omega, hos⟩
  · rintro sg st' ⟨o10, o15, o17, o18, kw, vw, es, rfl, N, a1, a2, _⟩
    exact q _ _ _ _ _ _ _ st' N (by simpa using a2)
  · rintro p ps sg st' ⟨o10, o15, o17, o18, kw, vw, es, rfl, N, a1, a2, hps⟩
    have hp := hps p List.mem_cons_self
    obtain ⟨s, rfl, hs⟩ := N.dev.key p hp
    obtain ⟨k, cl, e0, hk, hcl⟩ := N.at hp
    simp only [List.length_cons] at a1 a2
    unfold n9b
    simp -dsimp -implicitDefEqProofs [e0]
    refine draw N.pool (by omega) (by omega) fun r st2 h1 h2 hp2 f2 l2 => ?_
    have F2 : Wf c st' st2 := .of c0 hp2 f2 l2 N.calls
    have N2 := N.wf h0 hn hc F2
    /- what comes behind the right side -/
    have rest : ∀ {st3 : Store} {right : PV}, N9 st0 n c ke ve kw vw es st3 → SatS (fsSeq (fsDrop (fBM isLst appM (fVar 9) (faCons (fTup (faCons (fTup (faCons (fVar 10) faNil)) (faCons (fVar 17) faNil))) faNil))) (fsSeq (fsAsg (fBin idxP (fVar 12) (fVar 10)) (gtSub (fVar 14) (fVar 10))) fsNil) [some (.ref 0), some nm, some (.lst nodes), some kinds, some (.tup ins), o5, some outs, o7, some (stD false n nodes c), some (.ref (c + 1)), some (.str s), o11, some (.ref n), some (.lst os), some (.ref (n + 2)), some k, o16, some right, some cl, o19, o20] st3)
        (fun sg st' => Hd (∃ o10 o15 o17 o18 kw vw es, sg = [some (.ref 0), some nm, some (.lst nodes), some kinds, some (.tup ins), o5, some outs, o7, some (stD false n nodes c), some (.ref (c + 1)), o10, o11, some (.ref n), some (.lst os), some (.ref (n + 2)), o15, o16, o17, o18, o19, o20] ∧ N9 st0 n c ke ve kw vw es st' ∧ kw.length + ps.length ≤ 7 ∧ es.length + ps.length ≤ 5 ∧ ∀ p ∈ ps, p ∈ ke)) rt := by
      intro st3 right N3
      have hez : es.length < sizeLine := by rw [sizeLine_eq]; omega
      simp -dsimp -implicitDefEqProofs [isLst_ref N3.eqs, z1, z2, appM_ref N3.eqs hez]
      have N4 := N3.setQ h0 hn hc (x := .tup [.tup [.str s], right])
      generalize st3.set (c + 1) _ = st4 at N4 ⊢
      obtain ⟨k', cl', e1, hk', hcl'⟩ := N4.at hp
      obtain ⟨s1, N5⟩ := N4.setW h0 hn hc (by omega) hs (v := .tup [k', cl']) ⟨k', cl', rfl, hk', hcl'⟩
      have p1 := put_len (.str s) kw
      simp -dsimp -implicitDefEqProofs [e1, s1]
      exact ⟨_, _, _, _, _, _, _, rfl, N5, by omega, by simp; omega, fun p hp => hps p (List.mem_cons_of_mem _ hp)⟩
    by_cases hr : r = 0
    · simp -dsimp -implicitDefEqProofs [hr]
      refine spec_modes h0 ec c0 w0 wc hk hcl hN hnl N2.inv fun p st3 F3 => ?_
      have := rest (right := p) (N2.wf h0 hn hc F3)
      simp at this ⊢
      exact this
    · simp -dsimp -implicitDefEqProofs [hr]
      refine draw N2.pool (by omega) (by omega) fun r st3 h1 h2 hp3 f3 l3 => ?_
      have N3 := N2.wf h0 hn hc (.of c0 hp3 f3 l3 N2.calls)
      obtain ⟨d, hd1, hd3⟩ : ∃ d : Nat, 1 + r = (d : Int) ∧ d ≤ 3 := ⟨(1 + r).toNat, by omega, by omega⟩
      have hw : WordAt (i + 12) d n c (stD false n nodes c) := by
        rw [show i + 12 = (i + 7 - 2 * d) + 2 * d + 5 by omega]
        exact spec_word h0 ec c0 hN hnl d _
      simp -dsimp -implicitDefEqProofs [hd1]
      refine hw hk hcl w0 wc N3.inv fun p st4 F4 => ?_
      have := rest (right := p) (N3.wf h0 hn hc F4)
      simp at this ⊢
      exact this
end
theorem Sat_fm {body : PV → Store → R (Option PV)} {Q : List PV → Store → Prop} {st : Store} (P : PV → Prop) (ps : List PV) (h : ∀ p ∈ ps, Sat (body p st) fun o st' => st' = st ∧ ∀ y, o = some y → P y)
    (q : ∀ ys, (∀ y ∈ ys, P y) → ys.length ≤ ps.length → Q ys st) : Sat (compL body ps st) Q := by
  refine (Sat_comp (body := body) (Q := fun ys st' => st' = st ∧ (∀ y ∈ ys, P y) ∧ ys.length ≤ ps.length) (fun acc todo st' => st' = st ∧ (∀ y ∈ acc, P y) ∧ acc.length + todo.length ≤ ps.length ∧ ∀ y ∈ todo, y ∈ ps)
    (fun acc st' h => ⟨h.1, h.2.1, by simpa using h.2.2.1⟩) (fun acc p qs st' ⟨e, h1, h2, h3⟩ => ?_) ps [] st ⟨rfl, by simp, by simp, fun _ h => h⟩).mono fun ys st' ⟨e, h1, h2⟩ => ?_
  · subst e
    refine (h p (h3 p List.mem_cons_self)).mono fun o st2 ⟨e1, ho⟩ => ?_
    simp only [List.length_cons] at h2
    cases o with
    | none => exact ⟨e1, fun y hy => h1 y (by simpa using hy), by simp; omega, fun y hy => h3 y (List.mem_cons_of_mem _ hy)⟩
    | some z => exact ⟨e1, fun y hy => by
        simp at hy
        rcases hy with hy | rfl
        · exact h1 y hy
        · exact ho _ rfl, by simp; omega, fun y hy => h3 y (List.mem_cons_of_mem _ hy)⟩
  · subst e
    exact q ys (by simpa using h1) (by simpa using h2)
theorem nin_strs {s : List Nat} {ys : List PV} (h : ∀ y ∈ ys, ∃ t, y = .str t) : ∃ b, ninC (.str s) (.lst ys) st = some (.bl b) := by
  have hf : ys.all flat = true := List.all_eq_true.mpr fun y hy => by
    obtain ⟨t, rfl⟩ := h y hy
    rfl
  exact ⟨_, by simp only [ninC, inB, asQ_lst, hf, flat, Bool.and_self, if_true]; rfl⟩
def RestOk (p : PV) : Prop := ∃ s k c, p = .tup [.str s, k, c] ∧ Nm s ∧ Kd k ∧ Ck c
theorem node10 {os outs : List PV} (hev : st[n]? = some (.dic ke ve)) (hdv : DicOk ke ve) (hos : ∀ o ∈ os, o ∈ ke) (hol : os.length ≤ 5) (hp : ∀ x ∈ outs, Pair x) (hl : outs.length ≤ 5)
    (q : ∀ ys, (∀ y ∈ ys, RestOk y) → ys.length ≤ 5 → nx [some (.ref 0), some nm, some (.lst nodes), some kinds, some (.tup ins), o5, some (.tup outs), o7, o8, o9, o10, some (.tup ys), some (.ref n), some (.lst os), some (.ref (n + 2)), o15, o16, o17, o18, o19, o20] st) : SatS (n10 F [some (.ref 0), some nm, some (.lst nodes), some kinds, some (.tup ins), o5, some (.tup outs), o7, o8, o9, o10, o11, some (.ref n), some (.lst os), some (.ref (n + 2)), o15, o16, o17, o18, o19, o20] st) nx rt := by
  have z1 : 1 ≤ sizeLine := by rw [sizeLine_eq]; decide
  have z3 : 3 ≤ sizeLine := by rw [sizeLine_eq]; decide
  have z12 : 1 + 2 ≤ sizeLine := by rw [sizeLine_eq]; decide
  have zo : os.length ≤ sizeLine := by rw [sizeLine_eq]; omega
  have zu : outs.length ≤ sizeLine := by rw [sizeLine_eq]; omega
  unfold n10
  simp -dsimp -implicitDefEqProofs
  refine Sat_fComp ?_
  simp -dsimp -implicitDefEqProofs [zo]
  refine Sat_fm RestOk os (fun p hpm => ?_) fun ys h1 h2 => ?_
  · obtain ⟨s, rfl, hs⟩ := hdv.key p (hos p hpm)
    obtain ⟨v, hv, ev⟩ := lookD_mem hdv.len (hos _ hpm) (keyEq_str s)
    obtain ⟨k, c, rfl, hk, hc⟩ := hdv.val v hv
    have e0 : idxP (.ref n) (.str s) st = some (.tup [k, c]) := by rw [idxP_dic hev]; simpa [keyOf] using ev
    simp -dsimp -implicitDefEqProofs
    refine Sat_fComp ?_
    simp -dsimp -implicitDefEqProofs [zu]
    refine Sat_fm (fun y => ∃ t, y = .str t) outs (fun p hpm => ?_) fun ys h1 h2 => ?_
    · obtain ⟨t, k', rfl, _⟩ := hp p hpm
      simp -dsimp -implicitDefEqProofs
    · obtain ⟨b, eb⟩ := nin_strs (st := st) (s := s) h1
      cases b with
      | false => simp [eb]
      | true =>
        simp -dsimp -implicitDefEqProofs [eb, e0, z1, z3]
        exact ⟨s, k, c, rfl, hs, hk, hc⟩
  · simp -dsimp -implicitDefEqProofs
    exact q ys h1 (by omega)
end
def NodeFull (nm : List Nat) (p : PV) : Prop := ∃ ins outs rest eqs, p = .tup [.str nm, .tup ins, .tup outs, .tup rest, eqs] ∧ (∀ x ∈ ins, Pair x) ∧ ins.length ≤ 2 ∧ (∀ x ∈ outs, Pair x) ∧ outs.length ≤ 5 ∧ (∀ x ∈ rest, RestOk x) ∧ rest.length ≤ 5
theorem NodeFull.ok {nm : List Nat} {p : PV} (h : NodeFull nm p) : NodeOk p := by
  obtain ⟨ins, outs, rest, eqs, e, a, b, c, d, _⟩ := h
  exact ⟨nm, ins, outs, .tup rest, eqs, e, a, b, c, d⟩
theorem spec_node {i : Nat} {nm : List Nat} {nodes : List PV} {st : Store} {Q : PV → Store → Prop} (hN : ∀ x ∈ nodes, NodeOk x) (hnl : nodes.length ≤ 3) (hp : Pool st) (q : ∀ p st', NodeFull nm p → Pool st' → Fr st st' → Q p st') :
    Sat (E (i + 13) 27 [.ref 0, .str nm, .lst nodes] st) Q := by
  have z0 : 0 ≤ sizeLine := by omega
  have z1 : 1 ≤ sizeLine := by rw [sizeLine_eq]; decide
  have z2 : 2 ≤ sizeLine := by rw [sizeLine_eq]; decide
  have z3 : 3 ≤ sizeLine := by rw [sizeLine_eq]; decide
  have z5 : 5 ≤ sizeLine := by rw [sizeLine_eq]; decide
  rw [E_succ, e27]
  refine Sat_fnF rfl ?_
  rw [b27_eq]
  simp -dsimp -implicitDefEqProofs [z1, z2, z3]
  refine Sat_fComp ?_
  simp -dsimp -implicitDefEqProofs
  refine draw hp (by omega) (by omega) fun r st1 h1 h2 hp1 f1 l1 => ?_
  have hz : (rngL 0 (1 + r).toNat).length ≤ sizeLine := by rw [rng_len, sizeLine_eq]; omega
  simp -dsimp -implicitDefEqProofs
  refine ⟨by omega, hz, ?_⟩
  refine Sat_each (fun s => Pool s ∧ Fr st s) Pair _ ⟨hp1, f1⟩ (fun p hpm st2 ⟨hp2, f2⟩ => ?_) fun ins st2 hins hil ⟨hp2, f2⟩ => ?_
  · obtain ⟨k, hk, rfl⟩ := rng_mem hpm
    simp -dsimp -implicitDefEqProofs
    refine spec_named (by omega) (by omega) fun s hs => ?_
    simp -dsimp -implicitDefEqProofs
    refine pick_lst hp2 (by simp) (by simp) fun x st3 hx hp3 f3 l3 => ?_
    simp -dsimp -implicitDefEqProofs [z2]
    exact ⟨⟨hp3, f2.trans f3⟩, s, x, rfl, hs, kinds_kd hx⟩
  rw [rng_len] at hil
  have h0 : st2.length ≠ 0 := by have := hp2.len; omega
  simp -dsimp -implicitDefEqProofs [z3]
  have N0 : NI st2 st2.length [] [] [] [] [] (st2 ++ [.dic [] [], .lst [], .dic [] []]) := by
    have dn : DicOk [] [] := ⟨rfl, by simp, by simp, by simp⟩
    refine ⟨?_, ⟨by simp, fun k _ h => List.getElem?_append_left h⟩, by simp, dn, by simp, by simp, by simp, dn⟩
    obtain ⟨xs, a, b, c, d, e, ha⟩ := hp2
    exact ⟨xs, a, b, c, d, by rw [List.getElem?_append_left (by omega)]; exact e, ha⟩
  generalize st2 ++ [Cell.dic [] [], .lst [], .dic [] []] = st3 at N0 ⊢
  refine node3 rfl h0 hins (by omega) N0 fun o10 o15 ke ve kw vw st4 N4 hke hkw => ?_
  simp -dsimp -implicitDefEqProofs
  refine draw N4.pool (by omega) (by omega) fun r st5 h1 h2 hp5 f5 l5 => ?_
  have N5 := N4.draw h0 hp5 f5
  simp -dsimp -implicitDefEqProofs [z0]
  refine node6 rfl h0 (by omega) (by omega) N5 hke fun o7 o10 o16 o18 o19 outs os ke ve st6 hou hol N6 hosl hke => ?_
  have hc : st2.length + 2 < st6.length := (List.getElem?_eq_some_iff.mp N6.now).1
  have N7 : N9 st2 st2.length st6.length ke ve kw vw [] (st6 ++ [.lst [], .lst []]) := by
    refine ⟨?_, ⟨by have := N6.fr.1; simp; omega, fun k h0 h1 => by rw [List.getElem?_append_left (by have := N6.fr.1; omega)]; exact N6.fr.2 k h0 h1⟩, by rw [List.getElem?_append_left (by omega)]; exact N6.ev, N6.dev, by rw [List.getElem?_append_left (by omega)]; exact N6.now, N6.dnow, ⟨[], by simp⟩, by simp⟩
    obtain ⟨xs, a, b, c, d, e, ha⟩ := N6.pool
    exact ⟨xs, a, b, c, d, by rw [List.getElem?_append_left (by omega)]; exact e, ha⟩
  have ho : (st6 ++ [Cell.lst [], .lst []])[st2.length + 1]? = some (.lst os) := by rw [List.getElem?_append_left (by omega)]; exact N6.ord
  simp -dsimp -implicitDefEqProofs [foldD, keyOf, putDk, putDv, hasD, keyEq, z0]
  generalize st6 ++ [Cell.lst [], .lst []] = st7 at N7 ho ⊢
  generalize st6.length = c at hc N7 ho ⊢
  refine node9 hN hnl rfl h0 hc ho N6.hos hosl hkw N7 fun o10 o15 o17 o18 kw vw es st8 N8 hes => ?_
  simp -dsimp -implicitDefEqProofs
  refine node10 N8.ev N8.dev N6.hos hosl hou hol fun rest hr hrl => ?_
  simp -dsimp -implicitDefEqProofs
  refine spec_shuf (asQ_ref N8.eqs) (by omega) N8.pool fun f ys st9 hf hp9 f9 => ?_
  simp -dsimp -implicitDefEqProofs [tupB_ref hf, z5]
  exact q _ st9 ⟨ins, outs, rest, .tup ys, rfl, hins, by omega, hou, hol, hr, hrl⟩ hp9 (f2.trans (N8.fr.trans f9))
end K13
/-! k13: a program, its inputs. -/
namespace K13
open Pv PySem L2
abbrev sMain : List Nat := [109, 97, 105, 110]
abbrev nms (r : Nat) : List (List Nat) := [[97, 97], sMain].drop r
inductive Fulls : List (List Nat) → List PV → Prop
  | nil : Fulls [] []
  | cons {nm : List Nat} {p : PV} {ns : List (List Nat)} {ps : List PV} : NodeFull nm p → Fulls ns ps → Fulls (nm :: ns) (p :: ps)
theorem Fulls.add {ns : List (List Nat)} {ps : List PV} {nm : List Nat} {p : PV} (h : Fulls ns ps) (k : NodeFull nm p) : Fulls (ns ++ [nm]) (ps ++ [p]) := by
  induction h with
  | nil => exact .cons k .nil
  | cons a _ ih => exact .cons a ih
theorem Fulls.keys {ns : List (List Nat)} {ps : List PV} (h : Fulls ns ps) : keysT ps = some ns := by
  induction h with
  | nil => rfl
  | cons a _ ih =>
    obtain ⟨ins, outs, rest, eqs, rfl, _⟩ := a
    simp -dsimp -implicitDefEqProofs [keysT, keyT, ih]
theorem Fulls.mem {ns : List (List Nat)} {ps : List PV} (h : Fulls ns ps) {p : PV} (hp : p ∈ ps) : ∃ nm ∈ ns, NodeFull nm p := by
  induction h with
  | nil => cases hp
  | cons a _ ih =>
    rcases List.mem_cons.mp hp with rfl | hp
    · exact ⟨_, List.mem_cons_self, a⟩
    · obtain ⟨nm, h1, h2⟩ := ih hp
      exact ⟨nm, List.mem_cons_of_mem _ h1, h2⟩
theorem Fulls.has {ns : List (List Nat)} {ps : List PV} (h : Fulls ns ps) {nm : List Nat} (hp : nm ∈ ns) : ∃ p ∈ ps, NodeFull nm p := by
  induction h with
  | nil => cases hp
  | cons a _ ih =>
    rcases List.mem_cons.mp hp with rfl | hp
    · exact ⟨_, List.mem_cons_self, a⟩
    · obtain ⟨p, h1, h2⟩ := ih hp
      exact ⟨p, List.mem_cons_of_mem _ h1, h2⟩
theorem Fulls.len {ns : List (List Nat)} {ps : List PV} (h : Fulls ns ps) : ps.length = ns.length := by
  induction h with
  | nil => rfl
  | cons _ _ ih => simp [ih]
structure ProgOk (ns : List PV) : Prop where
  ne : ns ≠ []
  most : ns.length ≤ 3
  all : ∀ x ∈ ns, ∃ nm, Nm nm ∧ NodeFull nm x
  main : ∃ x ∈ ns, NodeFull sMain x
theorem srtT_nodes {n : Nat} {ps : List PV} {ns : List (List Nat)} {st : Store} (h : st[n]? = some (.lst ps)) (hF : Fulls ns ps) (hne : ps ≠ []) (ha : ascN ns = true) : srtT false [.ref n] st = some (.lst ps, st) := by
  have hs : srtB false [.ref n] st = none := by
    cases hF with
    | nil => exact absurd rfl hne
    | cons a _ =>
      obtain ⟨ins, outs, rest, eqs, rfl, _⟩ := a
      simp -dsimp -implicitDefEqProofs [srtB, asR_ref h, strL, intL]
  unfold srtT
  simp only [hs, asR_ref h, Option.bind_some, hF.keys, ha, if_true]
  rfl
theorem spec_prog {i : Nat} {st : Store} {Q : PV → Store → Prop} (hp : Pool st) (q : ∀ ns st', ProgOk ns → Pool st' → Q (.tup [.tup ns, .str sMain]) st') : Sat (E (i + 14) 30 [.ref 0] st) Q := by
  have z2 : 2 ≤ sizeLine := by rw [sizeLine_eq]; decide
  have z3 : 3 ≤ sizeLine := by rw [sizeLine_eq]; decide
  have hn := hp.len
  rw [E_succ, e30]
  refine Sat_fnF rfl ?_
  unfold b30
  have p0 : Pool (st ++ [.lst []]) := by
    obtain ⟨xs, a, b, c, d, e, ha⟩ := hp
    exact ⟨xs, a, b, c, d, by rw [List.getElem?_append_left (by omega)]; exact e, ha⟩
  have g0 : (st ++ [Cell.lst []])[st.length]? = some (.lst []) := app_new _ _
  simp -dsimp -implicitDefEqProofs [z2, z3]
  generalize st ++ [Cell.lst []] = st1 at p0 g0 ⊢
  generalize hL : st.length = L at g0 hn ⊢
  refine draw p0 (by omega) (by omega) fun r st2 h1 h2 hp2 f2 l2 => ?_
  have g2 := f2.get (by omega) g0
  simp -dsimp -implicitDefEqProofs
  obtain ⟨k, hk, rfl⟩ : ∃ k : Nat, k < 2 ∧ r = k := ⟨r.toNat, by omega, by omega⟩
  have hcut : cutP [PV.str [97, 97], .str [109, 97, 105, 110]] (some (k : Int)) none = (nms k).map .str := by
    rcases (by omega : k = 0 ∨ k = 1) with rfl | rfl <;> rfl
  have hnm : ascN (nms k) = true ∧ sMain ∈ nms k ∧ (nms k).length ≤ 3 ∧ ∀ x ∈ nms k, Nm x := by
    have w : Nm [97, 97] ∧ Nm sMain := ⟨⟨wordQ_iff (by decide), by decide⟩, ⟨wordQ_iff (by decide), by decide⟩⟩
    rcases (by omega : k = 0 ∨ k = 1) with rfl | rfl
    · exact ⟨by decide, by decide, by decide, by simpa [nms] using w⟩
    · exact ⟨by decide, by decide, by decide, by simpa [nms] using w.2⟩
  obtain ⟨a1, a2, a3, a4⟩ := hnm
  rw [hcut]
  generalize nms k = names at a1 a2 a3 a4 ⊢
  refine SatS_for (fun l sg st' => Hd (∃ o2 ps done todo, sg = [some (.ref 0), some (.ref L), o2] ∧ Pool st' ∧ st'[L]? = some (.lst ps) ∧ Fulls done ps ∧ done ++ todo = names ∧ l = todo.map .str)) ?_ ?_ _ _ _ ⟨none, [], [], names, by simp [hL], hp2, g2, .nil, rfl, rfl⟩
  · rintro sg st' ⟨o2, ps, done, todo, rfl, hp', g', hF, hd, hl⟩
    have ht : todo = [] := by simpa using hl.symm
    subst ht
    rw [List.append_nil] at hd
    subst hd
    obtain ⟨x, hx, hm⟩ := hF.has a2
    have hne : ps ≠ [] := fun z => by rw [z] at hx; cases hx
    simp -dsimp -implicitDefEqProofs [srtT_nodes g' hF hne a1, z2]
    exact q ps st' ⟨hne, by rw [hF.len]; exact a3, fun x hx => by obtain ⟨nm, h1, h2⟩ := hF.mem hx; exact ⟨nm, a4 nm h1, h2⟩, x, hx, hm⟩ hp'
  · rintro p ls sg st' ⟨o2, ps, done, todo, rfl, hp', g', hF, hd, hl⟩
    cases todo with
    | nil => cases hl
    | cons nm todo =>
      obtain ⟨rfl, rfl⟩ : p = .str nm ∧ ls = todo.map .str := by simpa using hl
      have hle := hF.len
      have hle2 : done.length ≤ 3 := by have := congrArg List.length hd; simp at this; omega
      have e0 : lstB false [.ref L] st' = some (.lst ps, st') := by simp [lstB, asQ_ref g']
      simp -dsimp -implicitDefEqProofs [isLst_ref g', e0]
      refine spec_node (fun x hx => by obtain ⟨_, _, h⟩ := hF.mem hx; exact h.ok) (by omega) hp' fun x st3 hx hp3 f3 => ?_
      have g3 := f3.get (by omega) g'
      have hz : ps.length < sizeLine := by rw [sizeLine_eq]; omega
      simp -dsimp -implicitDefEqProofs [appM_ref g3 hz]
      exact ⟨_, _, done ++ [nm], todo, rfl, hp3.keep (Frn.set L _ _) (by omega), set_get g3, hF.add hx, by simpa using hd, rfl⟩
theorem spec_main {i : Nat} {ns : List PV} {st : Store} {Q : PV → Store → Prop} (hP : ProgOk ns) (hz : ns.length ≤ sizeLine) (q : ∀ nm x, NodeFull nm x → Q x st) : Sat (E (i + 1) 28 [.tup [.tup ns, .str sMain]] st) Q := by
  rw [E_succ, e28]
  refine Sat_fnF rfl ?_
  unfold b28
  simp -dsimp -implicitDefEqProofs
  refine Sat_fComp ?_
  simp -dsimp -implicitDefEqProofs [hz]
  refine Sat_filter (c := fun p => match p with | .tup (.str s :: _) => s == sMain | _ => false) (φ := id) ns (fun p hp => ?_) ?_
  · obtain ⟨nm, _, ins, outs, rest, eqs, rfl, _⟩ := hP.all p hp
    by_cases hm : nm = sMain
    · simp -dsimp -implicitDefEqProofs [hm]
    · simp -dsimp -implicitDefEqProofs [hm]
  · obtain ⟨x, hx, ins, outs, rest, eqs, rfl, _⟩ := hP.main
    generalize hf : ns.filter _ = fs
    have hm : (PV.tup [.str sMain, .tup ins, .tup outs, .tup rest, eqs]) ∈ fs := by rw [← hf]; exact List.mem_filter.mpr ⟨hx, by simp⟩
    cases fs with
    | nil => cases hm
    | cons y ys =>
      have hy : y ∈ ns := (List.mem_filter.mp (by rw [hf]; exact List.mem_cons_self)).1
      obtain ⟨nm, _, h⟩ := hP.all y hy
      simp -dsimp -implicitDefEqProofs
      exact q nm y h
theorem spec_inputs {i : Nat} {ns : List PV} {st : Store} {Q : PV → Store → Prop} (hP : ProgOk ns) (hp : Pool st) (q : ∀ p st', Tx 5 2 p → Pool st' → Q p st') : Sat (E (i + 4) 29 [.ref 0, .tup [.tup ns, .str sMain], .int 4] st) Q := by
  rw [E_succ, e29]
  refine Sat_fnF rfl ?_
  unfold b29
  simp -dsimp -implicitDefEqProofs
  refine spec_main hP (by rw [sizeLine_eq]; have := hP.most; omega) fun nm x hx => ?_
  obtain ⟨ins, outs, rest, eqs, rfl, hi, hil, _⟩ := hx
  simp -dsimp -implicitDefEqProofs
  refine Sat_fComp ?_
  simp -dsimp -implicitDefEqProofs
  refine draw hp (by omega) (by omega) fun r st1 h1 h2 hp1 f1 l1 => ?_
  have hz : (rngL 0 (1 + r).toNat).length ≤ sizeLine := by rw [rng_len, sizeLine_eq]; omega
  have hzi : ins.length ≤ sizeLine := by rw [sizeLine_eq]; omega
  simp -dsimp -implicitDefEqProofs
  refine ⟨by omega, hz, ?_⟩
  refine Sat_each Pool (Tx 5 1) _ hp1 (fun p hpm st2 hp2 => ?_) fun ys st2 hy hyl hp2 => ?_
  · simp -dsimp -implicitDefEqProofs
    refine Sat_fComp ?_
    simp -dsimp -implicitDefEqProofs [hzi]
    refine Sat_each Pool (Tx 5 0) _ hp2 (fun p hpm st3 hp3 => ?_) fun zs st3 hz hzl hp3 => ?_
    · obtain ⟨s, k, rfl, hs, hk⟩ := hi p hpm
      simp -dsimp -implicitDefEqProofs
      refine spec_many hk fun m m1 m2 => ?_
      simp -dsimp -implicitDefEqProofs
      refine draw hp3 (by omega) (by omega) fun r st4 h1 h2 hp4 f4 l4 => ?_
      simp -dsimp -implicitDefEqProofs
      exact ⟨hp4, Tx.int (by omega)⟩
    · simp -dsimp -implicitDefEqProofs
      exact ⟨hp3, by omega, hz⟩
  · simp -dsimp -implicitDefEqProofs
    rw [rng_len] at hyl
    exact q _ st2 ⟨by omega, hy⟩ hp2
theorem Tx.wide {m m' : Nat} (h : m ≤ m') : ∀ {d : Nat} {p : PV}, Tx m d p → Tx m' d p
  | d, .int k, h => by cases d <;> exact h
  | d, .str s, h => by cases d <;> exact h
  | d + 1, .tup xs, k => ⟨Nat.le_trans k.1 h, fun x hx => (k.2 x hx).wide h⟩
  | 0, .tup _, ht => ht.elim
  | 0, .non, ht => ht.elim
  | 0, .bl _, ht => ht.elim
  | 0, .lst _, ht => ht.elim
  | 0, .scr _, ht => ht.elim
  | 0, .dic _ _, ht => ht.elim
  | 0, .ref _, ht => ht.elim
  | _ + 1, .non, ht => ht.elim
  | _ + 1, .bl _, ht => ht.elim
  | _ + 1, .lst _, ht => ht.elim
  | _ + 1, .scr _, ht => ht.elim
  | _ + 1, .dic _ _, ht => ht.elim
  | _ + 1, .ref _, ht => ht.elim
theorem Kd.tx {k : PV} (h : Kd k) : Tx 5 1 k := by
  have w1 : Word [98, 111, 111, 108] := wordQ_iff (by decide)
  have w2 : Word [110, 117, 109] := wordQ_iff (by decide)
  rcases h with rfl | rfl | rfl
  · exact ⟨by simp, fun x hx => by simp at hx; subst hx; exact Tx.str w1 (by simp)⟩
  · exact ⟨by simp, fun x hx => by simp at hx; rcases hx with rfl | rfl; exact Tx.str w2 (by simp); exact Tx.int (by decide)⟩
  · exact ⟨by simp, fun x hx => by simp at hx; rcases hx with rfl | rfl; exact Tx.str w2 (by simp); exact Tx.int (by decide)⟩
theorem Ck.tx {c : PV} (h : Ck c) : Tx 5 2 c := by
  obtain ⟨l, rfl, hl, h⟩ := h
  refine ⟨by omega, fun x hx => ?_⟩
  obtain ⟨s, b, rfl, hs, h0, h1⟩ := h x hx
  exact ⟨by simp, fun y hy => by simp at hy; rcases hy with rfl | rfl; exact Tx.str hs.1 hs.2; exact Tx.int (by omega)⟩
theorem Tx.up {m : Nat} : ∀ {d : Nat} {p : PV}, Tx m d p → Tx m (d + 1) p
  | d, .int k, h => by cases d <;> exact h
  | d, .str s, h => by cases d <;> exact h
  | d + 1, .tup xs, k => ⟨k.1, fun x hx => (k.2 x hx).up⟩
  | 0, .tup _, ht => ht.elim
  | 0, .non, ht => ht.elim
  | 0, .bl _, ht => ht.elim
  | 0, .lst _, ht => ht.elim
  | 0, .scr _, ht => ht.elim
  | 0, .dic _ _, ht => ht.elim
  | 0, .ref _, ht => ht.elim
  | _ + 1, .non, ht => ht.elim
  | _ + 1, .bl _, ht => ht.elim
  | _ + 1, .lst _, ht => ht.elim
  | _ + 1, .scr _, ht => ht.elim
  | _ + 1, .dic _ _, ht => ht.elim
  | _ + 1, .ref _, ht => ht.elim
theorem Pair.tx {p : PV} (h : Pair p) : Tx 5 2 p := by
  obtain ⟨s, k, rfl, hs, hk⟩ := h
  exact ⟨by simp, fun y hy => by simp at hy; rcases hy with rfl | rfl; exact Tx.str hs.1 hs.2; exact hk.tx⟩
theorem RestOk.tx {p : PV} (h : RestOk p) : Tx 5 3 p := by
  obtain ⟨s, k, c, rfl, hs, hk, hc⟩ := h
  exact ⟨by simp, fun y hy => by simp at hy; rcases hy with rfl | rfl | rfl; exact Tx.str hs.1 hs.2; exact hk.tx.up; exact hc.tx⟩
def bnd : Nat → Nat
  | 0 => 7
  | d + 1 => 5 * (bnd d + 1) + 2
theorem bnd_7 : ∀ d, 7 ≤ bnd d
  | 0 => Nat.le_refl _
  | d + 1 => by have := bnd_7 d; unfold bnd; omega
theorem join_max {b : Nat} : ∀ ss : List (List Nat), (∀ s ∈ ss, s.length ≤ b) → (joinL [32] ss).length ≤ ss.length * (b + 1)
  | [], _ => by simp [joinL]
  | [s], h => by have := h s (by simp); simp [joinL]; omega
  | s :: t :: r, h => by
    have ih := join_max (t :: r) fun x hx => h x (List.mem_cons_of_mem _ hx)
    have hs := h s List.mem_cons_self
    simp only [joinL, List.length_append, List.length_cons, List.length_nil] at ih ⊢
    rw [Nat.add_mul, Nat.one_mul]
    omega
theorem strI_len {k : Int} (h : k.natAbs < 1000000) : (strI k).length ≤ 7 := by
  have hl : (TL.numL k.natAbs).length ≤ 6 := TL.numL_len (by omega) (by omega)
  by_cases hs : 0 ≤ k
  · rw [strI_pos hs]; omega
  · rw [strI_neg (by omega), List.length_cons]; omega
theorem Tx.len : ∀ {d : Nat} {p : PV}, Tx 5 d p → (textOf p).length ≤ bnd d
  | d, .int k, h => by
    have h : k.natAbs < 1000000 := by cases d <;> exact h
    have := strI_len h
    have := bnd_7 d
    rw [textOf]; omega
  | d, .str s, h => by
    have h : s.length ≤ 7 := by cases d <;> exact h.2
    have := bnd_7 d
    rw [textOf]; omega
  | d + 1, .tup xs, k => by
    have h1 := join_max (b := bnd d) (xs.map textOf) fun s hs => by
      obtain ⟨x, hx, rfl⟩ := List.mem_map.mp hs
      exact (k.2 x hx).len
    have h2 : xs.length * (bnd d + 1) ≤ 5 * (bnd d + 1) := Nat.mul_le_mul_right _ k.1
    rw [textOf, textsOf_map, bnd]
    simp only [List.length_cons, List.length_append, List.length_nil, List.length_map] at h1 ⊢
    omega
  | 0, .tup _, ht => ht.elim
  | 0, .non, ht => ht.elim
  | 0, .bl _, ht => ht.elim
  | 0, .lst _, ht => ht.elim
  | 0, .scr _, ht => ht.elim
  | 0, .dic _ _, ht => ht.elim
  | 0, .ref _, ht => ht.elim
  | _ + 1, .non, ht => ht.elim
  | _ + 1, .bl _, ht => ht.elim
  | _ + 1, .lst _, ht => ht.elim
  | _ + 1, .scr _, ht => ht.elim
  | _ + 1, .dic _ _, ht => ht.elim
  | _ + 1, .ref _, ht => ht.elim
end K13
/-! k13: what a text is read as. -/
namespace K13
open Pv PySem L2
def tk (cs b : List Nat) : List Nat := b.takeWhile fun c => cs.contains c
def dk (cs b : List Nat) : List Nat := b.dropWhile fun c => cs.contains c
theorem tk_dk (cs b : List Nat) : tk cs b ++ dk cs b = b := List.takeWhile_append_dropWhile
theorem tk_mem {cs : List Nat} : ∀ {b : List Nat}, ∀ x ∈ tk cs b, x ∈ cs
  | [], x, h => by cases h
  | y :: b, x, h => by
    unfold tk at h
    by_cases hy : y ∈ cs
    · rw [List.takeWhile_cons_of_pos (by simpa using hy)] at h
      rcases List.mem_cons.mp h with rfl | h
      · exact hy
      · exact tk_mem x h
    · rw [List.takeWhile_cons_of_neg (by simpa using hy)] at h
      cases h
theorem dk_head {cs b : List Nat} : ∀ c r, dk cs b = c :: r → c ∉ cs := by
  induction b with
  | nil => intro c r h; cases h
  | cons x b ih =>
    intro c r h
    unfold dk at h
    by_cases hx : x ∈ cs
    · rw [List.dropWhile_cons_of_pos (by simpa using hx)] at h
      exact ih c r h
    · rw [List.dropWhile_cons_of_neg (by simpa using hx)] at h
      cases h
      exact hx
theorem tk_cons {cs b : List Nat} {x : Nat} (h : x ∈ cs) : tk cs (x :: b) = x :: tk cs b ∧ dk cs (x :: b) = dk cs b := by
  unfold tk dk
  rw [List.takeWhile_cons_of_pos (by simpa using h), List.dropWhile_cons_of_pos (by simpa using h)]
  exact ⟨rfl, rfl⟩
theorem tk_none {cs b : List Nat} {x : Nat} (h : x ∉ cs) : tk cs (x :: b) = [] ∧ dk cs (x :: b) = x :: b := by
  unfold tk dk
  rw [List.takeWhile_cons_of_neg (by simpa using h), List.dropWhile_cons_of_neg (by simpa using h)]
  exact ⟨rfl, rfl⟩
theorem dk_len (cs b : List Nat) : (dk cs b).length ≤ b.length := by
  have := congrArg List.length (tk_dk cs b)
  simp at this
  omega
theorem tk_len (cs b : List Nat) : (tk cs b).length ≤ b.length := by
  have := congrArg List.length (tk_dk cs b)
  simp at this
  omega
def numOk (neg : Bool) : List Nat → Bool
  | [] => false
  | c :: r => decide (r.length + 1 ≤ 6) && !(c == 48 && (decide (0 < r.length) || neg))
def numI (neg : Bool) (ds : List Nat) : Int := if neg then -(NumText.digitsVal ds : Int) else NumText.digitsVal ds
def numT (neg : Bool) (b : List Nat) : Option (PV × List Nat) := if numOk neg (tk cs0 b) then some (.int (numI neg (tk cs0 b)), dk cs0 b) else none
def numV : List Nat → Option (PV × List Nat)
  | 45 :: b => numT true b
  | b => numT false b
def isW (c : Nat) : Bool := cs1.contains c && !cs0.contains c
def base (k : List Nat → Option (PV × List Nat)) : List Nat → Option (PV × List Nat)
  | [] => none
  | c :: r => if isW c then some (.str (tk cs1 (c :: r)), dk cs1 (c :: r)) else if c = 91 then k r else numV (c :: r)
theorem base_cons {k : List Nat → Option (PV × List Nat)} {c : Nat} {r : List Nat} : base k (c :: r) = if isW c then some (.str (tk cs1 (c :: r)), dk cs1 (c :: r)) else if c = 91 then k r else numV (c :: r) := rfl
def items (f : List Nat → Option (PV × List Nat)) : Nat → List PV → List Nat → Option (PV × List Nat)
  | 0, _, _ => none
  | n + 1, acc, b => match f b with
    | none => none
    | some (p, r) => match r with
      | [] => none
      | c :: r => if c = 93 then some (.tup (acc ++ [p]), r) else if c = 32 then items f n (acc ++ [p]) r else none
def parts (f : List Nat → Option (PV × List Nat)) (r : List Nat) : Option (PV × List Nat) := match r with
  | [] => none
  | c :: r' => if c = 93 then some (.tup [], r') else items f (r.length + 1) [] r
def pv : Nat → List Nat → Option (PV × List Nat)
  | 0 => base fun _ => none
  | d + 1 => base (parts (pv d))
/-- what is read is taken from the front -/
def Fro (b : List Nat) (o : Option (PV × List Nat)) : Prop := ∀ p r, o = some (p, r) → ∃ m, b = m ++ r ∧ m ≠ []
theorem numT_fro {neg : Bool} {b : List Nat} : Fro b (numT neg b) := fun p r h => by
  unfold numT at h
  split at h
  · rename_i ho
    cases h
    refine ⟨tk cs0 b, (tk_dk _ _).symm, fun z => ?_⟩
    rw [z] at ho
    cases ho
  · cases h
theorem numV_fro (b : List Nat) : Fro b (numV b) := fun p r h => by
  unfold numV at h
  split at h
  · obtain ⟨m, e, _⟩ := numT_fro p r h
    exact ⟨45 :: m, by rw [e]; rfl, by simp⟩
  · exact numT_fro p r h
theorem items_fro {f : List Nat → Option (PV × List Nat)} (hf : ∀ b, Fro b (f b)) : ∀ n acc b, Fro b (items f n acc b)
  | 0, _, _ => fun p r h => by cases h
  | n + 1, acc, b => fun p r h => by
    unfold items at h
    cases e : f b with
    | none => rw [e] at h; cases h
    | some z =>
      obtain ⟨p1, r1⟩ := z
      rw [e] at h
      obtain ⟨m, em, hm⟩ := hf b p1 r1 e
      cases r1 with
      | nil => cases h
      | cons c r1 =>
        simp only [] at h
        split at h
        · cases h
          exact ⟨m ++ [c], by rw [em]; simp, by simp⟩
        · split at h
          · obtain ⟨m2, e2, h2⟩ := items_fro hf n (acc ++ [p1]) r1 p r h
            exact ⟨m ++ c :: m2, by rw [em, e2]; simp, by simp⟩
          · cases h
theorem base_fro {k : List Nat → Option (PV × List Nat)} (hk : ∀ b p r, k b = some (p, r) → ∃ m, b = m ++ r) (b : List Nat) : Fro b (base k b) := fun p r h => by
  cases b with
  | nil => cases h
  | cons c b =>
    rw [base_cons] at h
    split at h
    · rename_i hw
      cases h
      refine ⟨tk cs1 (c :: b), (tk_dk _ _).symm, fun z => ?_⟩
      have : c ∈ cs1 := by unfold isW at hw; simp at hw; exact hw.1
      rw [(tk_cons this).1] at z
      cases z
    · split at h
      · obtain ⟨m, e⟩ := hk b p r h
        exact ⟨c :: m, by rw [e]; rfl, by simp⟩
      · exact numV_fro _ p r h
theorem parts_fro {f : List Nat → Option (PV × List Nat)} (hf : ∀ b, Fro b (f b)) : ∀ b p r, parts f b = some (p, r) → ∃ m, b = m ++ r := fun b p r h => by
  unfold parts at h
  cases b with
  | nil => cases h
  | cons c b =>
    simp only [] at h
    split at h
    · cases h; exact ⟨[c], rfl⟩
    · obtain ⟨m, e, _⟩ := items_fro hf _ _ _ p r h
      exact ⟨m, e⟩
theorem pv_fro : ∀ d b, Fro b (pv d b)
  | 0, b => base_fro (fun _ _ _ h => by cases h) b
  | d + 1, b => base_fro (parts_fro (pv_fro d)) b
/-- what is read may be looked at by _law_same -/
theorem items_sm {f : List Nat → Option (PV × List Nat)} {d N : Nat} (hf : ∀ b, Fro b (f b)) (hs : ∀ b p r, b.length ≤ N → f b = some (p, r) → Sm d p) : ∀ n acc b p r, b.length ≤ N → acc.length + b.length ≤ N → (∀ x ∈ acc, Sm d x) → items f n acc b = some (p, r) → ∃ xs, p = .tup xs ∧ xs.length ≤ N ∧ ∀ x ∈ xs, Sm d x
  | 0, _, _, _, _, _, _, _, h => by cases h
  | n + 1, acc, b, p, r, hb, hl, ha, h => by
    unfold items at h
    cases e : f b with
    | none => rw [e] at h; cases h
    | some z =>
      obtain ⟨p1, r1⟩ := z
      rw [e] at h
      obtain ⟨m, em, hm⟩ := hf b p1 r1 e
      have hm1 : 0 < m.length := List.length_pos_iff.mpr hm
      have hbl : b.length = m.length + r1.length := by rw [em]; simp
      have hp1 := hs b p1 r1 hb e
      have ha' : ∀ x ∈ acc ++ [p1], Sm d x := fun x hx => by
        rcases List.mem_append.mp hx with hx | hx
        · exact ha x hx
        · simp at hx; exact hx ▸ hp1
      cases r1 with
      | nil => cases h
      | cons c r1 =>
        simp only [List.length_cons] at h hbl
        split at h
        · cases h
          exact ⟨_, rfl, by simp; omega, ha'⟩
        · split at h
          · exact items_sm hf hs n (acc ++ [p1]) r1 p r (by omega) (by simp; omega) ha' h
          · cases h
theorem Sm.int {d : Nat} {k : Int} : Sm d (.int k) := by cases d <;> exact True.intro
theorem Sm.str {d : Nat} {k : List Nat} : Sm d (.str k) := by cases d <;> exact True.intro
theorem numV_sm {b : List Nat} {p : PV} {r : List Nat} {d : Nat} (h : numV b = some (p, r)) : Sm d p := by
  unfold numV numT at h
  split at h <;> (split at h <;> cases h; exact .int)
theorem base_sm {k : List Nat → Option (PV × List Nat)} {b : List Nat} {d : Nat} {p : PV} {r : List Nat} (hk : ∀ c b', b = c :: b' → ∀ p r, k b' = some (p, r) → Sm d p) (h : base k b = some (p, r)) : Sm d p := by
  cases b with
  | nil => cases h
  | cons c b =>
    rw [base_cons] at h
    split at h
    · cases h; exact .str
    · split at h
      · exact hk c b rfl p r h
      · exact numV_sm h
theorem pv_sm : ∀ (d : Nat) (b : List Nat) (p : PV) (r : List Nat), b.length ≤ 200000 → pv d b = some (p, r) → Sm d p
  | 0, b, p, r, _, h => base_sm (fun _ _ _ _ _ h => by cases h) h
  | d + 1, b, p, r, hl, h => by
    refine base_sm (fun c b' e p r h => ?_) h
    have hb : b'.length ≤ 200000 := by rw [e] at hl; simp at hl; omega
    unfold parts at h
    cases b' with
    | nil => cases h
    | cons c2 b2 =>
      simp only [] at h
      split at h
      · cases h; exact ⟨by simp, by simp⟩
      · obtain ⟨xs, rfl, h1, h2⟩ := items_sm (N := 200000) (pv_fro d) (fun b p r hb h => pv_sm d b p r hb h) _ [] _ p r hb (by simpa using hb) (by simp) h
        exact ⟨h1, h2⟩
end K13
/-! k13: the reader, at any text. -/
namespace K13
open Pv PySem L2
def n4 (tf : Nat → FF) : FS := (fsSeq (fsAsg (fMeth (mt tf "run_of") [114, 117, 110, 95, 111, 102] (fVar 0) (faCons (fC (.str cs0)) faNil)) (gtName 2)) (fsSeq (fsIf (tfOr (tfNot (fBl (fChain leC leC (fC (.int 1)) (fcB lenB (faCons (fVar 2) faNil)) (fC (.int 6))))) (tfAnd (fBl (fBin eqC (fBin idxP (fVar 2) (fC (.int 0))) (fC (.str [48])))) (tfOr (fBl (fBin gtC (fcB lenB (faCons (fVar 2) faNil)) (fC (.int 1)))) (fBl (fBin eqC (fVar 1) (fC (.str [45]))))))) (fsSeq (fsRaise 1 (fFld [116, 101, 120, 116] (fVar 0))) fsNil) fsNil) (fsSeq (fsRet (fIte (fBl (fBin eqC (fVar 1) (fC (.str [45])))) (fUn negP (fcB intB (faCons (fVar 2) faNil))) (fcB intB (faCons (fVar 2) faNil)))) fsNil)))
theorem b4_eq (tf tfm : Nat → FF) : b4 tf tfm = (fsSeq (fsAsg (fMeth (mt tf "next_sign") [110, 101, 120, 116, 95, 115, 105, 103, 110] (fVar 0) faNil) (gtName 1)) (fsSeq (fsIf (fBl (fBin eqC (fVar 1) (fC (.str [45])))) (fsSeq (fsFldAug (S.fldOk "at") [97, 116] .Add (fC (.int 1)) (fVar 0)) fsNil) fsNil) (n4 tf))) := rfl
def p5 (tf : Nat → FF) : FS := (fsSeq (fsIf (fBl (fBin neC (fMeth (mt tf "next_sign") [110, 101, 120, 116, 95, 115, 105, 103, 110] (fVar 0) faNil) (fC (.str [93])))) (fsSeq (fsRaise 1 (fFld [116, 101, 120, 116] (fVar 0))) fsNil) fsNil) (fsSeq (fsFldAug (S.fldOk "at") [97, 116] .Add (fC (.int 1)) (fVar 0)) (fsSeq (fsRet (fcB tupB (faCons (fVar 2) faNil))) fsNil)))
theorem b5_eq (tf tfm : Nat → FF) : b5 tf tfm = (fsSeq (fsAsg (fLst true faNil) (gtName 2)) (fsSeq (fsIf (fBl (fBin neC (fMeth (mt tf "next_sign") [110, 101, 120, 116, 95, 115, 105, 103, 110] (fVar 0) faNil) (fC (.str [93])))) (fsSeq (fsDrop (fBM isLst appM (fVar 2) (faCons (fMeth (mt tf "value") [118, 97, 108, 117, 101] (fVar 0) (faCons (fBin subP (fVar 1) (fC (.int 1))) faNil)) faNil))) (fsSeq (fsWhile (fBl (fBin eqC (fMeth (mt tf "next_sign") [110, 101, 120, 116, 95, 115, 105, 103, 110] (fVar 0) faNil) (fC (.str [32])))) (fsSeq (fsFldAug (S.fldOk "at") [97, 116] .Add (fC (.int 1)) (fVar 0)) (fsSeq (fsDrop (fBM isLst appM (fVar 2) (faCons (fMeth (mt tf "value") [118, 97, 108, 117, 101] (fVar 0) (faCons (fBin subP (fVar 1) (fC (.int 1))) faNil)) faNil))) fsNil))) fsNil)) fsNil) (p5 tf))) := rfl
theorem Rd.step {n : Nat} {a b : List Nat} {x : Nat} {st : Store} (h : Rd n a (x :: b) st) : setF (S.fldOk "at") [97, 116] (.ref n) (.int ((a.length : Int) + 1)) st = some (st.set n (rdC (a ++ [x]) b)) := by
  rw [h.put]
  congr 3
  simp
theorem intB_ds {ds : List Nat} {st : Store} (hd : ∀ x ∈ ds, x ∈ cs0) (hne : ds ≠ []) (hl : ds.length ≤ 600) : intB [.str ds] st = some (.int (NumText.digitsVal ds : Int), st) := by
  have e := SX.int_S (a := ds) (List.all_eq_true.mpr fun c hc => by have := cs0_iff.mp (hd c hc); simp [this]) hne (by omega)
  show (if ds.length ≤ 640 then (intText? ⟨ds.toArray⟩).map fun n => (PV.int n, st) else none) = _
  rw [if_pos (by omega)]
  show ((intText? (SX.S ds)).map fun n => (PV.int n, st)) = _
  rw [e]
  rfl
abbrev ZB (n : Nat) (st : Store) (Z : Exc → Store → Prop) : Prop := ∀ st', Frn n st st' → Z ⟨1, none⟩ st'
section
variable {i n : Nat} {a b : List Nat} {st : Store} {Z : Exc → Store → Prop} {Q : PV → Store → Prop}
theorem rd_num {neg : Bool} {s : List Nat} (hs : (s == [45]) = neg) (h : Rd n a b st) (hz : b.length ≤ 200000) (q1 : numOk neg (tk cs0 b) = true → Q (.int (numI neg (tk cs0 b))) (st.set n (rdC (a ++ tk cs0 b) (dk cs0 b))))
    (q2 : numOk neg (tk cs0 b) = false → ZB n st Z) : SatSX Z (n4 (E (i + 2)) [some (.ref n), some (.str s), none] st) (fun _ st => Q .non st) Q := by
  have h' : Rd n a (tk cs0 b ++ dk cs0 b) st := by rw [tk_dk]; exact h
  have i1 := h.ins
  have hl := tk_len cs0 b
  have hm : ∀ x ∈ tk cs0 b, x ∈ cs0 := tk_mem
  unfold n4
  simp -dsimp -implicitDefEqProofs [i1, mtO, lookF, mt_run]
  refine Sat.to (spec_run h' tk_mem dk_head (by omega) ?_)
  have i2 : insAt (.ref n) (st.set n (rdC (a ++ tk cs0 b) (dk cs0 b))) = some (0, [([116, 101, 120, 116], .str (a ++ tk cs0 b ++ dk cs0 b)), ([97, 116], .int (a ++ tk cs0 b).length)]) := (Rd.set h (a' := a ++ tk cs0 b) (b' := dk cs0 b)).ins
  have fr : Frn n st (st.set n (rdC (a ++ tk cs0 b) (dk cs0 b))) := .set _ _ _
  generalize st.set n (rdC (a ++ tk cs0 b) (dk cs0 b)) = st1 at q1 i2 fr ⊢
  have bad : numOk neg (tk cs0 b) = false → Z ⟨1, none⟩ st1 := fun e => q2 e st1 fr
  have iB := fun (hne : tk cs0 b ≠ []) (h6 : (tk cs0 b).length ≤ 6) (st : Store) => intB_ds (st := st) hm hne (by omega)
  cases e : tk cs0 b with
  | nil =>
    rw [e] at bad
    simp -dsimp -implicitDefEqProofs [i2, lookF]
    exact bad rfl
  | cons c r =>
    rw [e] at bad q1 iB
    by_cases h6 : r.length + 1 ≤ 6
    · have h6' : (r.length : Int) + 1 ≤ 6 := by omega
      have h1' : (1 : Int) ≤ (r.length : Int) + 1 := by omega
      have iB := iB (by simp) (by simpa using h6)
      have fin : ∀ {Z' : Exc → Store → Prop}, numOk neg (c :: r) = true → SatX Z' (fIte (fBl (fBin eqC (fVar 1) (fC (.str [45])))) (fUn negP (fcB intB (faCons (fVar 2) faNil))) (fcB intB (faCons (fVar 2) faNil)) [some (.ref n), some (.str s), some (.str (c :: r))] st1) Q := fun ok => by
        cases neg with
        | true =>
          have hs : s = [45] := by simpa using hs
          simp -dsimp -implicitDefEqProofs [hs, iB]
          simpa [numI] using q1 ok
        | false =>
          have hs : ¬ s = [45] := by simpa using hs
          simp -dsimp -implicitDefEqProofs [hs, iB]
          simpa [numI] using q1 ok
      by_cases h48 : c = 48
      · by_cases h0 : 0 < r.length
        · have h0' : (0 : Int) < (r.length : Int) := by omega
          have hr : ¬ r = [] := fun z => by rw [z] at h0; cases h0
          have h2 : (1 : Int) < (r.length : Int) + 1 := by omega
          simp -dsimp -implicitDefEqProofs [h1', h6', h48, h0, h0', h2, hr, i2, lookF]
          exact bad (by simp [numOk, h48, h0, hr])
        · have hr : r = [] := List.length_eq_zero_iff.mp (by omega)
          subst hr
          cases neg with
          | true =>
            have hs : s = [45] := by simpa using hs
            simp -dsimp -implicitDefEqProofs [h48, hs, i2, lookF]
            exact bad (by simp [numOk, h48])
          | false =>
            have hs' : ¬ s = [45] := by simpa using hs
            simp -dsimp -implicitDefEqProofs [h48, hs', -Sat_fIte]
            have := fin (Z' := Z) (by simp [numOk])
            rw [h48] at this
            exact this
      · have ok : numOk neg (c :: r) = true := by simp [numOk, h48]; omega
        simp -dsimp -implicitDefEqProofs [h1', h6', h48, -Sat_fIte]
        exact fin ok
    · have h6' : ¬ (r.length : Int) + 1 ≤ 6 := by omega
      have h1' : (1 : Int) ≤ (r.length : Int) + 1 := by omega
      simp -dsimp -implicitDefEqProofs [h1', h6', i2, lookF]
      exact bad (by simp [numOk]; intro z; omega)
theorem rd_number (h : Rd n a b st) (hz : b.length ≤ 200000) (q1 : ∀ p r m, numV b = some (p, r) → b = m ++ r → Q p (st.set n (rdC (a ++ m) r))) (q2 : numV b = none → ZB n st Z) : SatX Z (E (i + 3) 4 [.ref n] st) Q := by
  have i1 := h.ins
  rw [E_succ, e4]
  refine Sat_fnF rfl ?_
  rw [b4_eq]
  simp -dsimp -implicitDefEqProofs [i1, mtO, lookF, mt_next]
  refine Sat.to (spec_next h ?_)
  by_cases hb : ∃ b', b = 45 :: b'
  · obtain ⟨b', rfl⟩ := hb
    have s1 := h.step
    have h1 : Rd n (a ++ [45]) b' (st.set n (rdC (a ++ [45]) b')) := h.set
    have f1 : Frn n st (st.set n (rdC (a ++ [45]) b')) := .set _ _ _
    simp only [List.length_cons] at hz
    simp -dsimp -implicitDefEqProofs [fldAug, i1, lookF, augP, s1]
    refine rd_num (neg := true) (s := [45]) rfl h1 (by omega) (fun ok => ?_) fun bad st' f' => ?_
    · have := q1 (.int (numI true (tk cs0 b'))) (dk cs0 b') (45 :: tk cs0 b') (by simp [numV, numT, ok]) (by rw [List.cons_append, tk_dk])
      rw [List.set_set]
      simpa using this
    · exact q2 (by simp [numV, numT, bad]) st' (f1.trans f')
  · have hn : numV b = numT false b := by
      unfold numV
      split
      · exact absurd ⟨_, rfl⟩ hb
      · rfl
    have h45 : (List.take 1 b == [45]) = false := by
      cases b with
      | nil => rfl
      | cons x b =>
        simp
        exact fun z => hb ⟨b, by rw [z]⟩
    have h45' : ¬ List.take 1 b = [45] := by simpa using h45
    simp -dsimp -implicitDefEqProofs [h45, h45']
    refine rd_num (neg := false) h45 h hz (fun ok => ?_) fun bad => ?_
    · exact q1 _ _ (tk cs0 b) (by rw [hn]; simp [numT, ok]) (tk_dk _ _).symm
    · exact q2 (by rw [hn]; simp [numT, bad])
end
/-- behind an item -/
def after (f : List Nat → Option (PV × List Nat)) (n : Nat) (acc : List PV) : List Nat → Option (PV × List Nat)
  | [] => none
  | c :: r => if c = 93 then some (.tup acc, r) else if c = 32 then items f n acc r else none
theorem items_some {f : List Nat → Option (PV × List Nat)} {n : Nat} {acc : List PV} {b r : List Nat} {p : PV} (e : f b = some (p, r)) : items f (n + 1) acc b = after f n (acc ++ [p]) r := by
  rw [items, e]
  cases r <;> rfl
theorem items_none {f : List Nat → Option (PV × List Nat)} {n : Nat} {acc : List PV} {b : List Nat} (e : f b = none) : items f (n + 1) acc b = none := by rw [items, e]
abbrev QV (n : Nat) (a b : List Nat) (o : Option (PV × List Nat)) (st : Store) (Q : PV → Store → Prop) : Prop := ∀ p r m, o = some (p, r) → b = m ++ r → ∀ st', Rd n (a ++ m) r st' → Frn n st st' → Q p st'
theorem _root_.Pv.Frn.far {n L : Nat} {st st' : Store} {c : Cell} (h : Frn n st st') (hL : st.length ≤ L) : Frn n st (st'.set L c) := ⟨by simpa using h.1, fun k h0 h1 => by rw [List.getElem?_set_ne (by omega)]; exact h.2 k h0 h1⟩
theorem rd_parts {i n d : Nat} {a b : List Nat} {st : Store} {Z : Exc → Store → Prop} {Q : PV → Store → Prop}
    (hv : ∀ {a b : List Nat} {st : Store} {Z : Exc → Store → Prop} {Q : PV → Store → Prop}, Rd n a b st → b.length ≤ 200000 → QV n a b (pv d b) st Q → (pv d b = none → ZB n st Z) → SatX Z (E (i + 1) 6 [.ref n, .int d] st) Q)
    (h : Rd n a b st) (hz : b.length ≤ 200000) (q1 : QV n a b (parts (pv d) b) st Q) (q2 : parts (pv d) b = none → ZB n st Z) : SatX Z (E (i + 2) 5 [.ref n, .int ((d : Int) + 1)] st) Q := by
  have hn : n < st.length := (List.getElem?_eq_some_iff.mp h).1
  have h' : Rd n a b (st ++ [.lst []]) := by unfold Rd; rw [List.getElem?_append_left hn]; exact h
  have hf : (st ++ [Cell.lst []])[st.length]? = some (.lst []) := app_new _ _
  have fr : Frn n st (st ++ [.lst []]) := .app _ _ _
  have hnf : n ≠ st.length := by omega
  rw [E_succ, e5]
  refine Sat_fnF rfl ?_
  rw [b5_eq]
  simp -dsimp -implicitDefEqProofs
  generalize hst : st ++ [Cell.lst []] = st1 at h' hf fr ⊢
  generalize hL : st.length = L at hf hnf hn ⊢
  /- the end -/
  have fin : ∀ {acc : List PV} {m r : List Nat} {k : Nat} {st' : Store}, Rd n (a ++ m) r st' → b = m ++ r → (∀ x r', r = x :: r' → x ≠ 32) → after (pv d) k acc r = parts (pv d) b → st'[L]? = some (.lst acc) → Frn n st st' →
      SatSX Z (p5 (E (i + 1)) [some (.ref n), some (.int ((d : Int) + 1)), some (.ref L)] st') (fun _ st => Q .non st) Q := by
    intro acc m r k st' h1 eb h32 hT g' f'
    have i1 := h1.ins
    unfold p5
    simp -dsimp -implicitDefEqProofs [i1, mtO, lookF, mt_next]
    refine Sat.to (spec_next h1 ?_)
    cases r with
    | nil =>
      simp -dsimp -implicitDefEqProofs [i1, lookF]
      exact q2 (by rw [← hT]; rfl) st' f'
    | cons x r =>
      by_cases hx : x = 93
      · subst hx
        have s1 := h1.step
        have h2 : Rd n (a ++ m ++ [93]) r (st'.set n (rdC (a ++ m ++ [93]) r)) := h1.set
        have g2 : (st'.set n (rdC (a ++ m ++ [93]) r))[L]? = some (.lst acc) := lst_set g' hnf
        have f2 : Frn n st (st'.set n (rdC (a ++ m ++ [93]) r)) := f'.trans (.set _ _ _)
        generalize ham : a ++ m = am at i1 s1 h2 g2 f2
        generalize hst2 : st'.set n (rdC (am ++ [93]) r) = st2 at h2 g2 f2 s1
        simp -dsimp -implicitDefEqProofs [i1, fldAug, lookF, augP, s1, tupB_ref g2]
        refine q1 (.tup acc) r (m ++ [93]) (by rw [← hT]; rfl) (by rw [eb]; simp) st2 ?_ f2
        rw [← List.append_assoc, ham]
        exact h2
      · have h32 := h32 x r rfl
        simp -dsimp -implicitDefEqProofs [hx, i1, lookF]
        exact q2 (by rw [← hT]; simp [after, hx, h32]) st' f'
  /- the loop, behind an item -/
  have loop : ∀ {p : PV} {m r : List Nat} {st' : Store}, Rd n (a ++ m) r st' → b = m ++ r → r.length < b.length → after (pv d) b.length [p] r = parts (pv d) b → st'[L]? = some (.lst [p]) → Frn n st st' →
      SatSX Z (fsWhile (fBl (fBin eqC (fMeth (mt (E (i + 1)) "next_sign") [110, 101, 120, 116, 95, 115, 105, 103, 110] (fVar 0) faNil) (fC (.str [32])))) (fsSeq (fsFldAug (S.fldOk "at") [97, 116] .Add (fC (.int 1)) (fVar 0)) (fsSeq (fsDrop (fBM isLst appM (fVar 2) (faCons (fMeth (mt (E (i + 1)) "value") [118, 97, 108, 117, 101] (fVar 0) (faCons (fBin subP (fVar 1) (fC (.int 1))) faNil)) faNil))) fsNil))
        [some (.ref n), some (.int ((d : Int) + 1)), some (.ref L)] st') (fun sg st => SatSX Z (p5 (E (i + 1)) sg st) (fun _ st => Q .non st) Q) Q := by
    intro p m r st' h1 eb hrl hT g' f'
    refine SatS_whileF (fun j sg st' => Hd (sg = [some (.ref n), some (.int ((d : Int) + 1)), some (.ref L)] ∧ ∃ acc m r k, j = r.length ∧ Rd n (a ++ m) r st' ∧ b = m ++ r ∧ r.length < k ∧ acc.length + r.length ≤ 200001 ∧ after (pv d) k acc r = parts (pv d) b ∧ st'[L]? = some (.lst acc) ∧ Frn n st st')) r.length (by omega)
      ⟨rfl, [p], m, r, b.length, rfl, h1, eb, hrl, by simp; omega, hT, g', f'⟩ ?_
    rintro j sg st' ⟨rfl, acc, m, r, k, rfl, h1, eb, hk, hal, hT, g', f'⟩
    have i1 := h1.ins
    simp -dsimp -implicitDefEqProofs [i1, mtO, lookF, mt_next]
    refine Sat.to (spec_next h1 ?_)
    by_cases hr : ∃ r', r = 32 :: r'
    · obtain ⟨r', rfl⟩ := hr
      obtain ⟨k, rfl⟩ : ∃ k', k = k' + 1 := ⟨k - 1, by omega⟩
      simp only [List.length_cons] at hk hal
      have hT : items (pv d) (k + 1) acc r' = parts (pv d) b := by rw [← hT]; rfl
      have s1 := h1.step
      have h2 : Rd n (a ++ m ++ [32]) r' (st'.set n (rdC (a ++ m ++ [32]) r')) := h1.set
      have g2 : (st'.set n (rdC (a ++ m ++ [32]) r'))[L]? = some (.lst acc) := lst_set g' hnf
      have f2 : Frn n st (st'.set n (rdC (a ++ m ++ [32]) r')) := f'.trans (.set _ _ _)
      have eb2 : b = (m ++ [32]) ++ r' := by rw [eb]; simp
      have hr' : r'.length ≤ 200000 := by have := congrArg List.length eb; simp at this; omega
      generalize ham : a ++ m = am at i1 s1 h2 g2 f2
      generalize st'.set n (rdC (am ++ [32]) r') = st2 at h2 g2 f2 s1
      have i2 := h2.ins
      simp -dsimp -implicitDefEqProofs [i1, fldAug, lookF, augP, s1, isLst_ref g2, i2, mtO, mt_value]
      refine hv h2 hr' (fun p r2 m2 e2 er2 st3 h3 f3 => ?_) fun e2 st3 f3 => q2 (by rw [← hT]; exact items_none e2) st3 (f2.trans f3)
      have g3 := f3.get hnf.symm g2
      have hacc : acc.length < sizeLine := by rw [sizeLine_eq]; omega
      obtain ⟨m3, em3, hm3⟩ := pv_fro d r' p r2 e2
      have hlt : r2.length < r'.length := by
        have := congrArg List.length em3
        have := List.length_pos_iff.mpr hm3
        simp at *; omega
      simp -dsimp -implicitDefEqProofs [appM_ref g3 hacc]
      refine ⟨r2.length, by omega, ⟨rfl, acc ++ [p], m ++ [32] ++ m2, r2, k, rfl, ?_, by rw [eb2, er2]; simp, by omega, by simp; omega, by rw [← hT, items_some e2], set_get g3, (f2.trans f3).far (by omega)⟩⟩
      have : Rd n (am ++ [32] ++ m2) r2 (st3.set L (.lst (acc ++ [p]))) := lst_set h3 hnf.symm
      rw [← ham] at this
      simpa using this
    · have h32 : ∀ x r', r = x :: r' → x ≠ 32 := fun x r' e z => hr ⟨r', by rw [e, z]⟩
      have ht : ¬ List.take 1 r = [32] := by
        cases r with
        | nil => simp
        | cons x r => simpa using h32 x r rfl
      simp -dsimp -implicitDefEqProofs [ht]
      exact fin h1 eb h32 hT g' f'
  have i1 := h'.ins
  simp -dsimp -implicitDefEqProofs [i1, mtO, lookF, mt_next]
  refine Sat.to (spec_next h' ?_)
  by_cases h93 : ∃ b', b = 93 :: b'
  · obtain ⟨b', rfl⟩ := h93
    simp -dsimp -implicitDefEqProofs [hL]
    exact fin (m := []) (k := 0) (acc := []) (by rw [List.append_nil]; exact h') rfl (fun x r e => by cases e; decide) rfl hf fr
  · have ht : ¬ List.take 1 b = [93] := by
      cases b with
      | nil => simp
      | cons x b => simp; exact fun z => h93 ⟨b, by rw [z]⟩
    have hT : parts (pv d) b = items (pv d) (b.length + 1) [] b ∨ b = [] := by
      cases b with
      | nil => exact .inr rfl
      | cons x b =>
        refine .inl ?_
        have : ¬ x = 93 := fun z => h93 ⟨b, by rw [z]⟩
        simp [parts, this]
    simp -dsimp -implicitDefEqProofs [ht, hL, isLst_ref hf, i1, mtO, lookF, mt_value]
    refine hv h' hz (fun p r m e er st3 h3 f3 => ?_) fun e st3 f3 => q2 ?_ st3 (fr.trans f3)
    · have g3 := f3.get hnf.symm hf
      have hacc : ([] : List PV).length < sizeLine := by rw [sizeLine_eq]; decide
      obtain ⟨m3, em3, hm3⟩ := pv_fro d b p r e
      have hlt : r.length < b.length := by
        have := congrArg List.length em3
        have := List.length_pos_iff.mpr hm3
        simp at *; omega
      have hT := hT.resolve_right fun z => by rw [z] at hlt; cases hlt
      simp -dsimp -implicitDefEqProofs [hL, appM_ref g3 hacc]
      exact (loop (m := m) (r := r) (lst_set h3 hnf.symm) er hlt (by rw [hT, items_some e]; rfl) (set_get g3) ((fr.trans f3).far (by omega))).mono (fun sg st k => by rw [SatS_fsNil]; exact k) fun _ _ k => k
    · rcases hT with hT | rfl
      · rw [hT]; exact items_none e
      · rfl
theorem isW_iff {c : Nat} : isW c = true ↔ c ∈ cs1 ∧ c ∉ cs0 := by simp [isW]
/-- value, by what parts does -/
theorem rd_base {i n : Nat} {d : Nat} {k : List Nat → Option (PV × List Nat)} {a b : List Nat} {st : Store} {Z : Exc → Store → Prop} {Q : PV → Store → Prop}
    (hk : ∀ {a b : List Nat} {st : Store} {Z : Exc → Store → Prop} {Q : PV → Store → Prop}, d ≠ 0 → Rd n a b st → b.length ≤ 200000 → QV n a b (k b) st Q → (k b = none → ZB n st Z) → SatX Z (E (i + 3) 5 [.ref n, .int d] st) Q)
    (hd : d = 0 → ∀ b, k b = none) (h : Rd n a b st) (hz : b.length ≤ 200000) (q1 : QV n a b (base k b) st Q) (q2 : base k b = none → ZB n st Z) : SatX Z (E (i + 4) 6 [.ref n, .int d] st) Q := by
  have i1 := h.ins
  rw [E_succ, e6]
  refine Sat_fnF rfl ?_
  unfold b6
  simp -dsimp -implicitDefEqProofs [i1, mtO, lookF, mt_next]
  refine Sat.to (spec_next h ?_)
  cases b with
  | nil =>
    simp -dsimp -implicitDefEqProofs [i1, mtO, lookF, mt_number]
    exact rd_number h hz (fun p r m e _ => by cases e) fun _ => q2 rfl
  | cons c r =>
    by_cases hw : isW c = true
    · obtain ⟨w1, w0⟩ := isW_iff.mp hw
      simp -dsimp -implicitDefEqProofs [w1, w0, i1, mtO, lookF, mt_run]
      have h' : Rd n a (tk cs1 (c :: r) ++ dk cs1 (c :: r)) st := by rw [tk_dk]; exact h
      refine Sat.to (spec_run h' tk_mem dk_head (by have := tk_len cs1 (c :: r); omega) ?_)
      exact q1 _ _ (tk cs1 (c :: r)) (by rw [base_cons, if_pos hw]) (tk_dk _ _).symm _ h.set (.set _ _ _)
    · have hw' : c ∈ cs1 → c ∈ cs0 := fun w1 => Classical.byContradiction fun w0 => hw (isW_iff.mpr ⟨w1, w0⟩)
      by_cases h91 : c = 91
      · subst h91
        have w1 : 91 ∉ cs1 := by decide
        have eb : base k (91 :: r) = k r := by rw [base_cons, if_neg hw, if_pos rfl]
        by_cases d0 : d = 0
        · subst d0
          simp -dsimp -implicitDefEqProofs [w1, i1, lookF]
          exact q2 (by rw [eb]; exact hd rfl r) st (.refl _ _)
        · have d0' : ¬ ((d : Int) = 0) := by omega
          have s1 := h.step
          have h2 : Rd n (a ++ [91]) r (st.set n (rdC (a ++ [91]) r)) := h.set
          have f2 : Frn n st (st.set n (rdC (a ++ [91]) r)) := .set _ _ _
          simp only [List.length_cons] at hz
          generalize st.set n (rdC (a ++ [91]) r) = st2 at h2 f2 s1
          have i2 := h2.ins
          simp -dsimp -implicitDefEqProofs [w1, d0, d0', i1, fldAug, mtO, lookF, augP, s1, i2, mt_parts]
          refine hk d0 h2 (by omega) (fun p r2 m e er st3 h3 f3 => ?_) fun e st3 f3 => q2 (by rw [eb]; exact e) st3 (f2.trans f3)
          exact q1 p r2 (91 :: m) (by rw [eb]; exact e) (by rw [er]; rfl) st3 (by simpa using h3) (f2.trans f3)
      · have eb : base k (c :: r) = numV (c :: r) := by rw [base_cons, if_neg hw, if_neg h91]
        have num : ∀ {Z' : Exc → Store → Prop}, Z' = Z → SatX Z' (E (i + 3) 4 [.ref n] st) Q := fun e => by
          subst e
          exact rd_number h hz (fun p r m e er => q1 p r m (by rw [eb]; exact e) er _ h.set (.set _ _ _)) fun e => q2 (by rw [eb]; exact e)
        by_cases w1 : c ∈ cs1
        · have w0 := hw' w1
          simp -dsimp -implicitDefEqProofs [w1, w0, h91, i1, mtO, lookF, mt_number]
          exact num rfl
        · simp -dsimp -implicitDefEqProofs [w1, h91, i1, mtO, lookF, mt_number]
          exact num rfl
theorem rd_value {n : Nat} : ∀ (d : Nat) {i : Nat} {a b : List Nat} {st : Store} {Z : Exc → Store → Prop} {Q : PV → Store → Prop}, Rd n a b st → b.length ≤ 200000 → QV n a b (pv d b) st Q → (pv d b = none → ZB n st Z) → SatX Z (E (i + 2 * d + 4) 6 [.ref n, .int d] st) Q
  | 0, i, a, b, st, Z, Q, h, hz, q1, q2 => rd_base (k := fun _ => none) (fun z => absurd rfl z) (fun _ _ => rfl) h hz q1 q2
  | d + 1, i, a, b, st, Z, Q, h, hz, q1, q2 => by
    have e : i + 2 * (d + 1) + 4 = (i + 2 * d + 2) + 4 := by omega
    rw [e]
    refine rd_base (k := parts (pv d)) (fun {a b st Z Q} _ h hz q1 q2 => ?_) (fun z => absurd z (by omega)) h hz q1 q2
    exact rd_parts (i := i + 2 * d + 3) (fun {a b st Z Q} h hz q1 q2 => rd_value d h hz q1 q2) h hz q1 q2
theorem ev3_init : (ev2 S D 3).1 1 = fnF 2 2 (b1 (ev2 S D 2).1 (ev2 S D 2).2) := e1 _ _
theorem spec_init {n : Nat} {t : List Nat} {st : Store} {Q : PV → Store → Prop} (h : st[n]? = some (.ins 0 [])) (q : Q .non (st.set n (rdC [] t))) : Sat ((ev2 S D 3).1 1 [.ref n, .str t] st) Q := by
  have h2 : (st.set n (.ins 0 [([116, 101, 120, 116], .str t)]))[n]? = some (.ins 0 [([116, 101, 120, 116], .str t)]) := set_get h
  have x1 : setF (S.fldOk "text") [116, 101, 120, 116] (.ref n) (.str t) st = some (st.set n (.ins 0 [([116, 101, 120, 116], .str t)])) := by
    unfold setF
    simp only [h, ok_text]
    rfl
  have x2 : setF (S.fldOk "at") [97, 116] (.ref n) (.int 0) (st.set n (.ins 0 [([116, 101, 120, 116], .str t)])) = some ((st.set n (.ins 0 [([116, 101, 120, 116], .str t)])).set n (rdC [] t)) := by
    unfold setF
    simp only [h2, ok_at]
    rfl
  rw [List.set_set] at x2
  rw [ev3_init]
  refine Sat_fnF rfl ?_
  unfold b1
  simp -dsimp -implicitDefEqProofs [x1, x2]
  exact q
/-- what a text is, whole -/
def whole (t : List Nat) : Option PV := match pv 310 t with
  | some (p, []) => some p
  | _ => none
theorem rd_read {i : Nat} {t : List Nat} {st : Store} {Z : Exc → Store → Prop} {Q : PV → Store → Prop} (hl : t.length ≤ 200000) (hp : Pool st) (q1 : ∀ p st', whole t = some p → Pool st' → Q p st') (q2 : whole t = none → ∀ st', Pool st' → Z ⟨1, none⟩ st') :
    SatX Z (E (i + 625) 7 [.str t] st) Q := by
  have hl' : ¬ (200000 : Int) < (t.length : Int) := by omega
  have hn := hp.len
  have h0 : (st ++ [Cell.ins 0 []])[st.length]? = some (.ins 0 []) := app_new _ _
  have f0 : Frn st.length st ((st ++ [Cell.ins 0 []]).set st.length (rdC [] t)) := (Frn.app _ _ _).trans (.set _ _ _)
  have h1 : Rd st.length [] t ((st ++ [Cell.ins 0 []]).set st.length (rdC [] t)) := set_get h0
  have hk : ∀ {st'}, Frn st.length st st' → Pool st' := fun f => hp.keep f (by omega)
  rw [E_succ, e7]
  refine Sat_fnF rfl ?_
  unfold b7
  simp -dsimp -implicitDefEqProofs [hl']
  rw [Sat_noX]
  refine spec_init h0 ?_
  generalize (st ++ [Cell.ins 0 []]).set st.length (rdC [] t) = st1 at h1 f0
  have i1 := h1.ins
  simp -dsimp -implicitDefEqProofs [i1, mtO, lookF, mt_value]
  refine rd_value (i := i) 310 h1 hl (fun p r m e er st2 h2 f2 => ?_) fun e st2 f2 => q2 (by rw [whole, e]) st2 (hk (f0.trans f2))
  have i2 := h2.ins
  have hpl := hk (f0.trans f2)
  cases r with
  | nil =>
    have hm : ¬ (m.length : Int) < (t.length : Int) := by rw [er]; simp
    have hm' : ¬ m.length < t.length := by omega
    simp -dsimp -implicitDefEqProofs [i2, lookF, hm, hm']
    exact q1 p st2 (by rw [whole, e]) hpl
  | cons x r =>
    have hm : (m.length : Int) < (t.length : Int) := by rw [er]; simp; omega
    have hm' : m.length < t.length := by omega
    simp -dsimp -implicitDefEqProofs [i2, lookF, hm, hm']
    exact q2 (by rw [whole, e]) st2 hpl
end K13
/-! k13: the law's own reading. -/
namespace K13
open Pv PySem L2
theorem cut_head (s : List Nat) : cutP s none (some 1) = s.take 1 := by
  have := cut_one [] s
  simpa [cutP, HT.sIx] using this
theorem cut_rest (s : List Nat) : cutP s (some 1) none = s.drop 1 := by
  unfold cutP
  rw [show (1 : Int) = ((1 : Nat) : Int) from rfl, HT.sIx_nat, HT.sIx_none]
  cases s with
  | nil => rfl
  | cons x r => simp
theorem cut_from (p m q : List Nat) {i j : Int} (hi : i = p.length) (hj : j = (p ++ m).length) : cutP (p ++ (m ++ q)) (some i) (some j) = m := by
  subst hi; subst hj
  rw [← List.append_assoc]
  exact cut_mid p m q
theorem cut_next (p q : List Nat) {i j : Int} (hi : i = p.length) (hj : j = (p.length : Int) + 1) : cutP (p ++ q) (some i) (some j) = q.take 1 := by
  subst hi; subst hj
  exact cut_one p q
theorem atI_mid (p q : List Nat) (x : Nat) {i : Int} (hi : i = p.length) : L2.atI (p ++ x :: q) i = some x := by
  subst hi
  have h1 : (p.length : Int) < ((p ++ x :: q).length : Int) := by
    rw [List.length_append, List.length_cons]
    omega
  have e : L2.ixN (p ++ x :: q).length (p.length : Int) = some p.length := by
    unfold L2.ixN
    rw [if_pos (by omega), if_pos h1, Int.toNat_natCast]
  unfold L2.atI
  rw [e]
  simp
section
variable {i : Nat} {st : Store} {Q : PV → Store → Prop}
theorem ws_nil (q : Q (.bl false) st) : Sat (E (i + 1) 15 [.str []] st) Q := by
  rw [E_succ, e15]
  refine Sat_fnF rfl ?_
  unfold b15
  simp -dsimp -implicitDefEqProofs
  exact q
theorem ws_one {c : Nat} (q : Q (.bl (decide (c ∈ cs1))) st) : Sat (E (i + 1) 15 [.str [c]] st) Q := by
  rw [E_succ, e15]
  refine Sat_fnF rfl ?_
  unfold b15
  simp -dsimp -implicitDefEqProofs
  exact q
def wtB (s : List Nat) : List Nat → Bool
  | [] => false
  | c :: r => decide (r.length + 1 ≤ 6) && ((c :: r).all fun x => cs0.contains x) && (c != 48 || s == [48])
def wt : List Nat → Bool
  | 45 :: r => wtB (45 :: r) r
  | s => wtB s s
theorem spec_wtB {s body : List Nat} (hl : body.length ≤ 200001) (q : Q (.bl (wtB s body)) st) :
    SatS (fsSeq (fsIf (tfOr (fBl (fBin eqC (fVar 1) (fC (.str [])))) (tfOr (fBl (fBin gtC (fcB lenB (faCons (fVar 1) faNil)) (fC (.int 6)))) (fBl (fBin gtC (fcB lenB (faCons (fComp false [2] (fiVal (fVar 1)) (gtName 2) (fBl (fBin ninC (fVar 2) (fC (.str cs0)))) (fVar 2)) faNil)) (fC (.int 0)))))) (fsSeq (fsRet (fC (.bl false))) fsNil) fsNil)
      (fsSeq (fsRet (fOr (fBin neC (fBin idxP (fVar 1) (fC (.int 0))) (fC (.str [48]))) (fBin eqC (fVar 0) (fC (.str [48]))))) fsNil) [some (.str s), some (.str body), none] st) (fun _ st => Q .non st) Q := by
  cases body with
  | nil =>
    simp -dsimp -implicitDefEqProofs
    exact q
  | cons c r =>
    by_cases h6 : r.length + 1 ≤ 6
    · have h6' : ¬ (6 : Int) < (r.length : Int) + 1 := by omega
      have fin : Sat (fComp false [2] (fiVal (fVar 1)) (gtName 2) (fBl (fBin ninC (fVar 2) (fC (.str cs0)))) (fVar 2) [some (.str s), some (.str (c :: r)), none] st) fun p st' => p = .lst (((c :: r).filter fun x => !cs0.contains x).map fun x => .str [x]) ∧ st' = st := by
        refine Sat_fComp ?_
        have hz : (chrs (c :: r)).length ≤ sizeLine := by rw [sizeLine_eq]; simp [chrs]; omega
        simp -dsimp -implicitDefEqProofs
        refine ⟨by simpa using hz, ?_⟩
        refine Sat_filter (c := fun p => match p with | .str [x] => !cs0.contains x | _ => false) (φ := id) _ (fun p hp => ?_) ?_
        · obtain ⟨x, _, rfl⟩ := List.mem_map.mp hp
          by_cases hx : x ∈ cs0 <;> simp [hx]
        · refine ⟨?_, rfl⟩
          unfold chrs
          rw [List.filter_map, List.map_map]
          rfl
      simp -dsimp -implicitDefEqProofs [h6']
      refine fin.mono fun p st' h => ?_
      obtain ⟨rfl, rfl⟩ := h
      generalize hf : (c :: r).filter (fun x => !cs0.contains x) = fs
      have hall : ((c :: r).all fun x => cs0.contains x) = decide (fs = []) := by
        rw [← hf]
        cases ha : (c :: r).all fun x => cs0.contains x with
        | true =>
          have : (c :: r).filter (fun x => !cs0.contains x) = [] := List.filter_eq_nil_iff.mpr fun x hx => by
            have := List.all_eq_true.mp ha x hx
            simp only [this]; decide
          rw [this]; rfl
        | false =>
          have : (c :: r).filter (fun x => !cs0.contains x) ≠ [] := fun z => by
            have h2 := List.filter_eq_nil_iff.mp z
            have : ((c :: r).all fun x => cs0.contains x) = true := List.all_eq_true.mpr fun x hx => by
              have := h2 x hx
              simpa using this
            rw [this] at ha; cases ha
          exact (decide_eq_false this).symm
      cases fs with
      | nil =>
        have q : Q (.bl (c != 48 || s == [48])) st' := by
          simp only [wtB, hall] at q
          simpa [h6] using q
        simp -dsimp -implicitDefEqProofs
        by_cases hc : c = 48
        · simp -dsimp -implicitDefEqProofs [hc]
          simpa [hc] using q
        · have b1 : (c != 48) = true := bne_iff_ne.mpr hc
          rw [b1, Bool.true_or] at q
          have b2 : (c == 48) = false := beq_eq_false_iff_ne.mpr hc
          simp -dsimp -implicitDefEqProofs [b2]
          rw [if_neg hc]
          exact q
      | cons z zs =>
        have hz : (0 : Int) < (zs.length : Int) + 1 := by omega
        simp -dsimp -implicitDefEqProofs [hz]
        simp only [wtB, hall] at q
        simpa using q
    · have h6' : (6 : Int) < (r.length : Int) + 1 := by omega
      simp -dsimp -implicitDefEqProofs [h6']
      have : wtB s (c :: r) = false := by simp [wtB]; intro z; omega
      rw [this] at q
      exact q
theorem spec_wt {s : List Nat} (hl : s.length ≤ 200001) (q : Q (.bl (wt s)) st) : Sat (E (i + 1) 16 [.str s] st) Q := by
  rw [E_succ, e16]
  refine Sat_fnF rfl ?_
  unfold b16
  refine SatS_then ?_
  by_cases h : ∃ r, s = 45 :: r
  · obtain ⟨r, rfl⟩ := h
    simp only [List.length_cons] at hl
    simp -dsimp -implicitDefEqProofs [cut_head, cut_rest, -SatS_fsSeq]
    exact spec_wtB (by omega) q
  · have h1 : ¬ List.take 1 s = [45] := by
      cases s with
      | nil => simp
      | cons x r => simp; exact fun z => h ⟨r, by rw [z]⟩
    have e : wt s = wtB s s := by
      unfold wt
      split
      · exact absurd ⟨_, rfl⟩ h
      · rfl
    rw [e] at q
    simp -dsimp -implicitDefEqProofs [cut_head, cut_rest, h1, -SatS_fsSeq]
    exact spec_wtB hl q
end
end K13
/-! k13: the law's own reading, whole. -/
namespace K13
open Pv PySem L2
def w1 (tf : Nat → FF) : FS := (fsWhile (tfAnd (fBl (fBin ltC (fVar 6) (fcB lenB (faCons (fVar 0) faNil)))) (fTru (fCall (tf 15) (faCons (fBin idxP (fVar 0) (fVar 6)) faNil)))) (fsSeq (fsAsg (fBin addP (fVar 6) (fC (.int 1))) (gtName 6)) fsNil))
def w2 (tf : Nat → FF) : FS := (fsWhile (tfAnd (fBl (fBin ltC (fVar 6) (fcB lenB (faCons (fVar 0) faNil)))) (fBl (fBin inC (fBin idxP (fVar 0) (fVar 6)) (fC (.str cs0))))) (fsSeq (fsAsg (fBin addP (fVar 6) (fC (.int 1))) (gtName 6)) fsNil))
def w7b (tf : Nat → FF) : FS := (fsSeq (fsAsg (fCall (tf 17) (faCons (fVar 0) (faCons (fVar 5) (faCons (fBin subP (fVar 2) (fC (.int 1))) faNil)))) (gtName 7)) (fsSeq (fsIf (fBl (fBin isC (fVar 7) (fC .non))) (fsSeq (fsRet (fC .non)) fsNil) fsNil) (fsSeq (fsAsg (fBin addP (fVar 4) (fTup (faCons (fBin idxP (fVar 7) (fC (.int 0))) faNil))) (gtName 4)) (fsSeq (fsAsg (fBin idxP (fVar 7) (fC (.int 1))) (gtName 5)) (fsSeq (fsIf (fBl (fBin eqC (fSlc (fVar 0) (foSome (fVar 5)) (foSome (fBin addP (fVar 5) (fC (.int 1))))) (fC (.str [93])))) (fsSeq (fsRet (fTup (faCons (fVar 4) (faCons (fBin addP (fVar 5) (fC (.int 1))) faNil)))) fsNil) fsNil) (fsSeq (fsIf (fBl (fBin neC (fSlc (fVar 0) (foSome (fVar 5)) (foSome (fBin addP (fVar 5) (fC (.int 1))))) (fC (.str [32])))) (fsSeq (fsRet (fC .non)) fsNil) fsNil) (fsSeq (fsAsg (fBin addP (fVar 5) (fC (.int 1))) (gtName 5)) fsNil)))))))
def w7 (tf : Nat → FF) : FS := (fsWhile (fTru (fC (.bl true))) (w7b tf))
def t17 (tf : Nat → FF) : FS := (fsSeq (fsIf (fBl (fBin eqC (fVar 2) (fC (.int 0)))) (fsSeq (fsRet (fC .non)) fsNil) fsNil) (fsSeq (fsIf (fBl (fBin eqC (fSlc (fVar 0) (foSome (fBin addP (fVar 1) (fC (.int 1)))) (foSome (fBin addP (fVar 1) (fC (.int 2))))) (fC (.str [93])))) (fsSeq (fsRet (fTup (faCons (fTup faNil) (faCons (fBin addP (fVar 1) (fC (.int 2))) faNil)))) fsNil) fsNil) (fsSeq (fsAsg (fTup faNil) (gtName 4)) (fsSeq (fsAsg (fBin addP (fVar 1) (fC (.int 1))) (gtName 5)) (fsSeq (w7 tf) fsNil)))))
def s17 (tf : Nat → FF) : FS := (fsIf (fBl (fBin neC (fVar 3) (fC (.str [91])))) (fsSeq (fsAsg (fBin addP (fVar 1) (fC (.int 1))) (gtName 6)) (fsSeq (w2 tf) (fsSeq (fsRet (fIte (fTru (fCall (tf 16) (faCons (fSlc (fVar 0) (foSome (fVar 1)) (foSome (fVar 6))) faNil))) (fTup (faCons (fcB intB (faCons (fSlc (fVar 0) (foSome (fVar 1)) (foSome (fVar 6))) faNil)) (faCons (fVar 6) faNil))) (fC .non))) fsNil))) fsNil)
theorem b17_eq (tf tfm : Nat → FF) : b17 tf tfm = (fsSeq (fsAsg (fSlc (fVar 0) (foSome (fVar 1)) (foSome (fBin addP (fVar 1) (fC (.int 1))))) (gtName 3)) (fsSeq (fsIf (tfAnd (fTru (fCall (tf 15) (faCons (fVar 3) faNil))) (fBl (fBin ninC (fVar 3) (fC (.str cs0))))) (fsSeq (fsAsg (fVar 1) (gtName 6)) (fsSeq (w1 tf) (fsSeq (fsRet (fTup (faCons (fSlc (fVar 0) (foSome (fVar 1)) (foSome (fVar 6))) (faCons (fVar 6) faNil)))) fsNil))) fsNil) (fsSeq (s17 tf) (t17 tf)))) := rfl
section
variable {i : Nat} {st : Store} {rt : PV → Store → Prop}
theorem scan_w {p b t : List Nat} {k : Int} {s1 s2 s3 s4 s5 s7 : Option PV} (ht : t = p ++ b) (hl : t.length ≤ 200000) (hk : k = p.length) :
    SatS (w1 (E (i + 1)) [some (.str t), s1, s2, s3, s4, s5, some (.int k), s7] st) (fun sg st' => Hd (∃ k : Int, sg = [some (.str t), s1, s2, s3, s4, s5, some (.int k), s7] ∧ k = (p ++ tk cs1 b).length ∧ st' = st)) rt := by
  unfold w1
  have htk := tk_len cs1 b
  refine SatS_whileF (fun j sg st' => Hd (∃ (m1 m2 : List Nat) (k : Int), sg = [some (.str t), s1, s2, s3, s4, s5, some (.int k), s7] ∧ k = (p ++ m1).length ∧ tk cs1 b = m1 ++ m2 ∧ j = m2.length ∧ st' = st)) (tk cs1 b).length (by have := congrArg List.length ht; simp at this; omega)
    ⟨[], _, k, rfl, by rw [hk]; simp, rfl, rfl, rfl⟩ ?_
  rintro j sg st' ⟨m1, m2, k, rfl, hk, hm, rfl, rfl⟩
  have e : t = (p ++ m1) ++ (m2 ++ dk cs1 b) := by rw [ht, List.append_assoc, ← List.append_assoc m1, ← hm, tk_dk]
  have hlen := congrArg List.length e
  cases m2 with
  | nil =>
    rw [List.append_nil] at hm
    rw [List.nil_append] at e hlen
    cases hd : dk cs1 b with
    | nil =>
      rw [hd] at e hlen
      have h1 : ¬ k < (t.length : Int) := by rw [hk, hlen]; simp
      simp -dsimp -implicitDefEqProofs [h1]
      exact ⟨k, rfl, by rw [hk, hm], rfl⟩
    | cons c r =>
      rw [hd] at e hlen
      have h1 : k < (t.length : Int) := by rw [hk, hlen]; simp; omega
      have h2 : L2.atI t k = some c := by rw [e]; exact atI_mid _ _ _ hk
      have h3 := dk_head c r hd
      simp -dsimp -implicitDefEqProofs [h1, h2]
      refine ws_one ?_
      simp -dsimp -implicitDefEqProofs [h3]
      exact ⟨k, rfl, by rw [hk, hm], rfl⟩
  | cons x m2 =>
    have hx : x ∈ cs1 := tk_mem x (by rw [hm]; simp)
    have h1 : k < (t.length : Int) := by rw [hk, hlen]; simp; omega
    have h2 : L2.atI t k = some x := by rw [e]; exact atI_mid _ _ _ hk
    simp -dsimp -implicitDefEqProofs [h1, h2]
    refine ws_one ?_
    simp -dsimp -implicitDefEqProofs [hx]
    exact ⟨m2.length, by omega, ⟨m1 ++ [x], m2, k + 1, rfl, by rw [hk]; simp; omega, by rw [hm]; simp, rfl, rfl⟩⟩
theorem scan_d {p b t : List Nat} {k : Int} {s1 s2 s3 s4 s5 s7 : Option PV} (ht : t = p ++ b) (hl : t.length ≤ 200000) (hk : k = p.length) :
    SatS (w2 (E i) [some (.str t), s1, s2, s3, s4, s5, some (.int k), s7] st) (fun sg st' => Hd (∃ k : Int, sg = [some (.str t), s1, s2, s3, s4, s5, some (.int k), s7] ∧ k = (p ++ tk cs0 b).length ∧ st' = st)) rt := by
  unfold w2
  have htk := tk_len cs0 b
  refine SatS_whileF (fun j sg st' => Hd (∃ (m1 m2 : List Nat) (k : Int), sg = [some (.str t), s1, s2, s3, s4, s5, some (.int k), s7] ∧ k = (p ++ m1).length ∧ tk cs0 b = m1 ++ m2 ∧ j = m2.length ∧ st' = st)) (tk cs0 b).length (by have := congrArg List.length ht; simp at this; omega)
    ⟨[], _, k, rfl, by rw [hk]; simp, rfl, rfl, rfl⟩ ?_
  rintro j sg st' ⟨m1, m2, k, rfl, hk, hm, rfl, rfl⟩
  have e : t = (p ++ m1) ++ (m2 ++ dk cs0 b) := by rw [ht, List.append_assoc, ← List.append_assoc m1, ← hm, tk_dk]
  have hlen := congrArg List.length e
  cases m2 with
  | nil =>
    rw [List.append_nil] at hm
    rw [List.nil_append] at e hlen
    cases hd : dk cs0 b with
    | nil =>
      rw [hd] at e hlen
      have h1 : ¬ k < (t.length : Int) := by rw [hk, hlen]; simp
      simp -dsimp -implicitDefEqProofs [h1]
      exact ⟨k, rfl, by rw [hk, hm], rfl⟩
    | cons c r =>
      rw [hd] at e hlen
      have h1 : k < (t.length : Int) := by rw [hk, hlen]; simp; omega
      have h2 : L2.atI t k = some c := by rw [e]; exact atI_mid _ _ _ hk
      have h3 := dk_head c r hd
      simp -dsimp -implicitDefEqProofs [h1, h2, h3]
      exact ⟨k, rfl, by rw [hk, hm], rfl⟩
  | cons x m2 =>
    have hx : x ∈ cs0 := tk_mem x (by rw [hm]; simp)
    have h1 : k < (t.length : Int) := by rw [hk, hlen]; simp; omega
    have h2 : L2.atI t k = some x := by rw [e]; exact atI_mid _ _ _ hk
    simp -dsimp -implicitDefEqProofs [h1, h2, hx]
    exact ⟨m2.length, by omega, ⟨m1 ++ [x], m2, k + 1, rfl, by rw [hk]; simp; omega, by rw [hm]; simp, rfl, rfl⟩⟩
end
theorem intB_neg {ds : List Nat} {st : Store} (hd : ∀ x ∈ ds, x ∈ cs0) (hne : ds ≠ []) (hl : ds.length ≤ 600) : intB [.str (45 :: ds)] st = some (.int (-(NumText.digitsVal ds : Int)), st) := by
  have e := intText_neg (x := ⟨(45 :: ds).toArray⟩) (cs := ds) rfl (fun c hc => cs0_iff.mp (hd c hc)) hne (by show (45 :: ds).toArray.size ≤ 4300; simp; omega)
  show (if (45 :: ds).length ≤ 640 then (intText? ⟨(45 :: ds).toArray⟩).map fun n => (PV.int n, st) else none) = _
  rw [if_pos (by simp; omega), e]
  rfl
theorem all_tk (b : List Nat) : (tk cs0 b).all (fun x => cs0.contains x) = true := List.all_eq_true.mpr fun x hx => by simpa using tk_mem x hx
theorem tok_num (x : Nat) (b : List Nat) : (wt (x :: tk cs0 b) = true → ∃ v, numV (x :: b) = some (.int v, dk cs0 b) ∧ ∀ st, intB [.str (x :: tk cs0 b)] st = some (.int v, st)) ∧ (wt (x :: tk cs0 b) = false → numV (x :: b) = none) := by
  by_cases h45 : x = 45
  · subst h45
    have e1 : wt (45 :: tk cs0 b) = wtB (45 :: tk cs0 b) (tk cs0 b) := rfl
    have e2 : numV (45 :: b) = numT true b := rfl
    have ha := all_tk b
    have hm : ∀ x ∈ tk cs0 b, x ∈ cs0 := tk_mem
    rw [e1, e2]
    unfold numT
    cases hd : tk cs0 b with
    | nil => exact ⟨fun z => (by cases z), fun _ => rfl⟩
    | cons c r =>
      rw [hd] at ha hm
      have e3 : wtB (45 :: c :: r) (c :: r) = numOk true (c :: r) := by
        simp only [wtB, numOk, ha]
        simp
        rfl
      rw [e3]
      refine ⟨fun ok => ⟨numI true (c :: r), by rw [ok]; rfl, fun st => ?_⟩, fun bad => by rw [bad]; rfl⟩
      have h6 : r.length + 1 ≤ 6 := by
        simp only [numOk, Bool.and_eq_true, decide_eq_true_eq] at ok
        exact ok.1
      exact intB_neg hm (by simp) (by simp; omega)
  · have e1 : wt (x :: tk cs0 b) = wtB (x :: tk cs0 b) (x :: tk cs0 b) := by
      unfold wt
      split
      · rename_i z; cases z; exact absurd rfl h45
      · rfl
    have e2 : numV (x :: b) = numT false (x :: b) := by
      unfold numV
      split
      · rename_i z; cases z; exact absurd rfl h45
      · rfl
    rw [e1, e2]
    unfold numT
    by_cases hx : x ∈ cs0
    · obtain ⟨t1, t2⟩ := tk_cons (cs := cs0) (b := b) hx
      rw [t1, t2]
      have ha : (x :: tk cs0 b).all (fun x => cs0.contains x) = true := by rw [← t1]; exact all_tk _
      have hm : ∀ y ∈ x :: tk cs0 b, y ∈ cs0 := by rw [← t1]; exact tk_mem
      have e3 : wtB (x :: tk cs0 b) (x :: tk cs0 b) = numOk false (x :: tk cs0 b) := by
        simp only [wtB, numOk, ha]
        cases tk cs0 b with
        | nil => by_cases h : x = 48 <;> simp [h]
        | cons c r =>
          by_cases h : x = 48
          · simp [h]
          · simp [h]
            rfl
      rw [e3]
      refine ⟨fun ok => ⟨numI false (x :: tk cs0 b), by rw [ok]; rfl, fun st => ?_⟩, fun bad => by rw [bad]; rfl⟩
      have h6 : (tk cs0 b).length + 1 ≤ 6 := by
        simp only [numOk, Bool.and_eq_true, decide_eq_true_eq] at ok
        exact ok.1
      exact intB_ds hm (by simp) (by simp; omega)
    · obtain ⟨t1, t2⟩ := tk_none (cs := cs0) (b := b) hx
      rw [t1]
      refine ⟨fun z => ?_, fun _ => rfl⟩
      exfalso
      simp only [wtB, List.all_cons, Bool.and_eq_true] at z
      have := z.1.2.1
      exact hx (by simpa using this)
theorem pv_nil (d : Nat) : pv d [] = none := by cases d <;> rfl
abbrev QL (t a b : List Nat) (o : Option (PV × List Nat)) (st : Store) (Q : PV → Store → Prop) : Prop := ∀ p r m (k' : Int), o = some (p, r) → b = m ++ r → k' = (a ++ m).length → Q (.tup [p, .int k']) st
theorem lw_parts {i d : Nat} {t a b : List Nat} {k : Int} {st : Store} {Q : PV → Store → Prop} {s3 o4 o5 o6 o7 : Option PV} (hl : t.length ≤ 200000)
    (hv : ∀ {a b : List Nat} {k : Int} {st : Store} {Q : PV → Store → Prop}, t = a ++ b → k = a.length → QL t a b (pv d b) st Q → (pv d b = none → Q .non st) → Sat (E i 17 [.str t, .int k, .int d] st) Q)
    (ht : t = a ++ 91 :: b) (hk : k = a.length) (q1 : QL t (a ++ [91]) b (parts (pv d) b) st Q) (q2 : parts (pv d) b = none → Q .non st) :
    SatS (t17 (E i) [some (.str t), some (.int k), some (.int ((d : Int) + 1)), s3, o4, o5, o6, o7] st) (fun _ st => Q .non st) Q := by
  have z1 : 1 ≤ sizeLine := by rw [sizeLine_eq]; decide
  have z2 : 2 ≤ sizeLine := by rw [sizeLine_eq]; decide
  have z0 : 0 ≤ sizeLine := by omega
  have hd0 : ¬ ((d : Int) + 1 = 0) := by omega
  have e1 : t = (a ++ [91]) ++ b := by rw [ht]; simp
  have hbl : b.length ≤ 200000 := by have := congrArg List.length e1; simp at this; omega
  have c1 : cutP t (some (k + 1)) (some (k + 2)) = b.take 1 := by rw [e1]; exact cut_next _ _ (by rw [hk]; simp) (by simp only [List.length_append, List.length_cons, List.length_nil, hk]; omega)
  unfold t17
  by_cases h93 : ∃ b', b = 93 :: b'
  · obtain ⟨b', rfl⟩ := h93
    simp -dsimp -implicitDefEqProofs [hd0, c1, z0, z2]
    exact q1 (.tup []) b' [93] (k + 2) rfl rfl (by simp only [List.length_append, List.length_cons, List.length_nil, hk]; omega)
  · have ht1 : ¬ List.take 1 b = [93] := by
      cases b with
      | nil => simp
      | cons x b => simp; exact fun z => h93 ⟨b, by rw [z]⟩
    have hT : items (pv d) (b.length + 1) [] b = parts (pv d) b := by
      cases b with
      | nil => rw [items_none (pv_nil d)]; rfl
      | cons x b =>
        have : ¬ x = 93 := fun z => h93 ⟨b, by rw [z]⟩
        simp [parts, this]
    simp -dsimp -implicitDefEqProofs [hd0, c1, ht1, z0]
    unfold w7
    refine SatS_whileF (fun j sg st' => Hd (∃ (acc : List PV) (mh bh : List Nat) (h : Int) (kf : Nat) (x6 x7 : Option PV), sg = [some (.str t), some (.int k), some (.int ((d : Int) + 1)), s3, some (.tup acc), some (.int h), x6, x7] ∧ st' = st ∧ j = bh.length ∧ b = mh ++ bh ∧ h = (a ++ [91] ++ mh).length ∧ bh.length < kf ∧ acc.length + bh.length ≤ 200000 ∧ items (pv d) kf acc bh = parts (pv d) b)) b.length (by omega)
      ⟨[], [], b, k + 1, b.length + 1, o6, o7, rfl, rfl, rfl, rfl, by rw [hk]; simp, by omega, by simpa using hbl, hT⟩ ?_
    rintro j sg st' ⟨acc, mh, bh, h, kf, x6, x7, rfl, rfl, rfl, eb, eh, hkf, hal, hT⟩
    obtain ⟨kf, rfl⟩ : ∃ k', kf = k' + 1 := ⟨kf - 1, by omega⟩
    unfold w7b
    simp -dsimp -implicitDefEqProofs
    refine hv (a := a ++ [91] ++ mh) (b := bh) (by rw [e1, eb]; simp) eh (fun p r m k' e er ek => ?_) fun e => ?_
    · obtain ⟨m3, em3, hm3⟩ := pv_fro d bh p r e
      have hlt : r.length < bh.length := by
        have := congrArg List.length em3
        have := List.length_pos_iff.mpr hm3
        simp at *; omega
      rw [items_some e] at hT
      have c2 : cutP t (some k') (some (k' + 1)) = r.take 1 := by
        rw [e1, eb, er]
        have := cut_next (a ++ [91] ++ mh ++ m) r (i := k') (j := k' + 1) ek (by rw [ek])
        simpa using this
      have za : acc.length + 1 ≤ sizeLine := by rw [sizeLine_eq]; omega
      have eb2 : b = (mh ++ m) ++ r := by rw [eb, er]; simp
      cases r with
      | nil =>
        simp -dsimp -implicitDefEqProofs [isC, isNon, z1, za, c2]
        exact q2 (by rw [← hT]; rfl)
      | cons x r =>
        by_cases hx : x = 93
        · subst hx
          simp -dsimp -implicitDefEqProofs [isC, isNon, z1, z2, za, c2]
          exact q1 (.tup (acc ++ [p])) r (mh ++ m ++ [93]) (k' + 1) (by rw [← hT]; rfl) (by rw [eb2]; simp) (by rw [ek]; simp; omega)
        · by_cases hs : x = 32
          · subst hs
            simp only [List.length_cons] at hlt
            simp -dsimp -implicitDefEqProofs [isC, isNon, z1, za, c2]
            exact ⟨r.length, by omega, ⟨acc ++ [p], mh ++ m ++ [32], r, k' + 1, kf, _, _, rfl, rfl, rfl, by rw [eb2]; simp, by rw [ek]; simp; omega, by omega, by simp; omega, hT⟩⟩
          · simp -dsimp -implicitDefEqProofs [isC, isNon, z1, za, c2, hx, hs]
            exact q2 (by rw [← hT]; simp [after, hx, hs])
    · rw [items_none e] at hT
      simp -dsimp -implicitDefEqProofs [isC, isNon]
      exact q2 hT.symm
theorem lw_base {i d : Nat} {t a b : List Nat} {k : Int} {st : Store} {Q : PV → Store → Prop} {sub : List Nat → Option (PV × List Nat)} (hl : t.length ≤ 200000) (ht : t = a ++ b) (hk : k = a.length)
    (hp : ∀ r, b = 91 :: r → d ≠ 0 → QL t (a ++ [91]) r (sub r) st Q → (sub r = none → Q .non st) → ∀ {s3 o4 o5 o6 o7 : Option PV}, SatS (t17 (E (i + 1)) [some (.str t), some (.int k), some (.int d), s3, o4, o5, o6, o7] st) (fun _ st => Q .non st) Q)
    (h0 : d = 0 → ∀ r, sub r = none) (q1 : QL t a b (base sub b) st Q) (q2 : base sub b = none → Q .non st) : Sat (E (i + 2) 17 [.str t, .int k, .int d] st) Q := by
  have z2 : 2 ≤ sizeLine := by rw [sizeLine_eq]; decide
  have c0 : cutP t (some k) (some (k + 1)) = b.take 1 := by rw [ht]; exact cut_next _ _ hk (by rw [hk])
  rw [E_succ, e17]
  refine Sat_fnF rfl ?_
  rw [b17_eq]
  cases b with
  | nil =>
    have hlt : ¬ k + 1 < (t.length : Int) := by rw [ht, hk]; simp; omega
    simp -dsimp -implicitDefEqProofs [c0]
    refine ws_nil ?_
    simp -dsimp -implicitDefEqProofs
    unfold s17
    simp -dsimp -implicitDefEqProofs
    unfold w2
    refine SatS_whileF (fun j sg st' => sg = [some (.str t), some (.int k), some (.int d), some (.str []), none, none, some (.int (k + 1)), none] ∧ st' = st) 0 (by omega) ⟨rfl, rfl⟩ ?_
    rintro j sg st' ⟨rfl, rfl⟩
    simp -dsimp -implicitDefEqProofs [hlt, c0]
    refine spec_wt (by simp) ?_
    simp -dsimp -implicitDefEqProofs [wt, wtB]
    exact q2 rfl
  | cons c r =>
    by_cases hw : isW c = true
    · obtain ⟨w1', w0⟩ := isW_iff.mp hw
      simp -dsimp -implicitDefEqProofs [c0]
      refine ws_one ?_
      simp -dsimp -implicitDefEqProofs [w1', w0]
      refine (scan_w (b := c :: r) ht hl hk).mono (fun sg st' hh => ?_) fun _ _ z => z
      obtain ⟨k', rfl, ek, rfl⟩ := hh.get
      have c1 : cutP t (some k) (some k') = tk cs1 (c :: r) := by
        have := cut_from a (tk cs1 (c :: r)) (dk cs1 (c :: r)) hk ek
        rw [tk_dk, ← ht] at this
        exact this
      simp -dsimp -implicitDefEqProofs [c1, z2]
      exact q1 _ _ (tk cs1 (c :: r)) k' (by rw [base_cons, if_pos hw]) (tk_dk _ _).symm ek
    · have hw' : c ∈ cs1 → c ∈ cs0 := fun w1' => Classical.byContradiction fun w0 => hw (isW_iff.mpr ⟨w1', w0⟩)
      by_cases h91 : c = 91
      · subst h91
        have w1' : 91 ∉ cs1 := by decide
        have eb : base sub (91 :: r) = sub r := by rw [base_cons, if_neg hw, if_pos rfl]
        have fin : SatS (t17 (E (i + 1)) [some (.str t), some (.int k), some (.int d), some (.str [91]), none, none, none, none] st) (fun _ st => Q .non st) Q := by
          by_cases d0 : d = 0
          · subst d0
            unfold t17
            simp -dsimp -implicitDefEqProofs
            exact q2 (by rw [eb]; exact h0 rfl r)
          · refine hp r rfl d0 (fun p r2 m k' e er ek => ?_) fun e => q2 (by rw [eb]; exact e)
            exact q1 p r2 (91 :: m) k' (by rw [eb]; exact e) (by rw [er]; rfl) (by rw [ek]; simp)
        simp -dsimp -implicitDefEqProofs [c0]
        refine ws_one ?_
        simp -dsimp -implicitDefEqProofs [w1']
        unfold s17
        simp -dsimp -implicitDefEqProofs
        exact fin
      · have eb : base sub (c :: r) = numV (c :: r) := by rw [base_cons, if_neg hw, if_neg h91]
        have e1 : t = (a ++ [c]) ++ r := by rw [ht]; simp
        have fin : SatS (s17 (E (i + 1)) [some (.str t), some (.int k), some (.int d), some (.str [c]), none, none, none, none] st) (fun _ _ => False) Q := by
          unfold s17
          simp -dsimp -implicitDefEqProofs [h91]
          refine (scan_d (p := a ++ [c]) (b := r) e1 hl (by rw [hk]; simp)).mono (fun sg st' hh => ?_) fun _ _ z => z
          obtain ⟨k', rfl, ek, rfl⟩ := hh.get
          have c1 : cutP t (some k) (some k') = c :: tk cs0 r := by
            have := cut_from a (c :: tk cs0 r) (dk cs0 r) hk (j := k') (by rw [ek]; simp)
            rw [List.cons_append, tk_dk, ← ht] at this
            exact this
          have hz : (c :: tk cs0 r).length ≤ 200001 := by
            have := tk_len cs0 r
            have := congrArg List.length e1
            simp at *; omega
          obtain ⟨n1, n2⟩ := tok_num c r
          simp -dsimp -implicitDefEqProofs [c1]
          refine spec_wt hz ?_
          cases hwt : wt (c :: tk cs0 r) with
          | true =>
            obtain ⟨v, e2, e3⟩ := n1 hwt
            simp -dsimp -implicitDefEqProofs [c1, e3, z2]
            exact q1 (.int v) (dk cs0 r) (c :: tk cs0 r) k' (by rw [eb]; exact e2) (by rw [List.cons_append, tk_dk]) (by rw [ek]; simp)
          | false =>
            simp -dsimp -implicitDefEqProofs
            exact q2 (by rw [eb]; exact n2 hwt)
        simp -dsimp -implicitDefEqProofs [c0]
        refine ws_one ?_
        by_cases w1' : c ∈ cs1
        · have w0 := hw' w1'
          simp -dsimp -implicitDefEqProofs [w1', w0]
          exact fin.mono (fun _ _ z => z.elim) fun _ _ z => z
        · simp -dsimp -implicitDefEqProofs [w1']
          exact fin.mono (fun _ _ z => z.elim) fun _ _ z => z
theorem lw_taken {t : List Nat} (hl : t.length ≤ 200000) : ∀ (d : Nat) {i : Nat} {a b : List Nat} {k : Int} {st : Store} {Q : PV → Store → Prop}, t = a ++ b → k = a.length → QL t a b (pv d b) st Q → (pv d b = none → Q .non st) → Sat (E (i + d + 2) 17 [.str t, .int k, .int d] st) Q
  | 0, i, a, b, k, st, Q, ht, hk, q1, q2 => lw_base (sub := fun _ => none) hl ht hk (fun _ _ z => absurd rfl z) (fun _ _ => rfl) q1 q2
  | d + 1, i, a, b, k, st, Q, ht, hk, q1, q2 => by
    refine lw_base (i := i + d + 1) (sub := parts (pv d)) hl ht hk (fun r er _ q1 q2 {s3 o4 o5 o6 o7} => ?_) (fun z => absurd z (by omega)) q1 q2
    exact lw_parts hl (fun {a b k st Q} ht hk q1 q2 => lw_taken hl d ht hk q1 q2) (by rw [ht, er]) hk q1 q2
theorem spec_valueof {i : Nat} {t : List Nat} {st : Store} {Q : PV → Store → Prop} (hl : t.length ≤ 200000) (q : Q (match whole t with | some p => .lst [p] | none => .non) st) : Sat (E (i + 313) 18 [.str t] st) Q := by
  have z1 : 1 ≤ sizeLine := by rw [sizeLine_eq]; decide
  rw [E_succ, e18]
  refine Sat_fnF rfl ?_
  unfold b18
  simp -dsimp -implicitDefEqProofs
  refine lw_taken (i := i) hl 310 (a := []) (b := t) rfl rfl (fun p r m k' e er ek => ?_) fun e => ?_
  · cases r with
    | nil =>
      have hm : k' = (t.length : Int) := by rw [ek, er]; simp
      rw [whole, e] at q
      simp -dsimp -implicitDefEqProofs [isntC, isNon, hm, z1]
      exact q
    | cons x r =>
      have hm : ¬ k' = (t.length : Int) := by rw [ek, er]; simp; omega
      rw [whole, e] at q
      simp -dsimp -implicitDefEqProofs [isntC, isNon, hm, z1]
      exact q
  · rw [whole, e] at q
    simp -dsimp -implicitDefEqProofs [isntC, isNon]
    exact q
end K13
/-! k13: the law. -/
namespace K13
open Pv PySem L2
def x4b (tf : Nat → FF) : FS := (fsSeq (fsAsg (fCall (tf 0) (faCons (fCall (tf 12) (faCons (fVar 1) (faCons (fLst false (faCons (fCall (tf 29) (faCons (fVar 1) (faCons (fCall (tf 30) (faCons (fVar 1) faNil)) (faCons (fC (.int 4)) faNil)))) (faCons (fCall (tf 19) (faCons (fVar 1) (faCons (fC (.int 4)) faNil))) (faCons (fTup (faCons (fTup (faCons (fC (.int 3)) (faCons (fC (.int 4)) faNil))) (faCons (fTup (faCons (fC (.str [103, 105, 118, 101])) (faCons (fC (.int 7)) faNil))) faNil))) faNil)))) faNil))) faNil)) (gtName 4)) (fsSeq (fsAsg (fBin addP (fBin addP (fVar 2) (fComp false [5] (fiRng1 (fC (.int 4))) (gtName 5) ftYes (fCall (tf 13) (faCons (fVar 1) (faCons (fVar 4) (faCons (fC (.str cs4)) faNil)))))) (fLst false (faCons (fVar 4) (faCons (fBin addP (fVar 4) (fC (.str [93]))) (faCons (fBin addP (fBin addP (fC (.str [91])) (fVar 4)) (fC (.str [93]))) (faCons (fBin addP (fVar 4) (fC (.str [32, 49]))) (faCons (fBin addP (fBin addP (fC (.str [91])) (fVar 4)) (fC (.str [32, 120, 93]))) faNil))))))) (gtName 2)) fsNil))
def x4 (tf : Nat → FF) : FS := (fsFor (fiRng1 (fC (.int 6))) (gtName 3) (x4b tf))
def x5b (tf : Nat → FF) : FS := (fsSeq (fsIf (tfNot (fTru (fCall (tf 8) (faCons (fCall (tf 31) (faCons (fVar 4) faNil)) (faCons (fCall (tf 18) (faCons (fVar 4) faNil)) faNil))))) (fsSeq (fsRet (fC (.bl false))) fsNil) fsNil) fsNil)
def x5 (tf : Nat → FF) : FS := (fsFor (fiVal (fVar 2)) (gtName 4) (x5b tf))
theorem b32_eq (tf tfm : Nat → FF) : b32 tf tfm = (fsSeq (fsAsg (fCall (tf 9) (faCons (fVar 0) faNil)) (gtName 1)) (fsSeq (fsAsg (fLst false (faCons (fC (.str [])) (faCons (fC (.str [32])) (faCons (fC (.str [91])) (faCons (fC (.str [93])) (faCons (fC (.str [91, 93])) (faCons (fC (.str [91, 32, 93])) (faCons (fC (.str [91, 49, 32, 93])) (faCons (fC (.str [91, 32, 49, 93])) (faCons (fC (.str [91, 49, 32, 32, 50, 93])) (faCons (fC (.str [91, 49, 32, 50])) (faCons (fC (.str [49, 32, 50])) (faCons (fC (.str [91, 49, 93, 32])) (faCons (fC (.str [32, 91, 49, 93])) (faCons (fC (.str [91, 49, 93, 91, 50, 93])) (faCons (fC (.str [91, 91, 93])) (faCons (fC (.str [91, 93, 93])) (faCons (fC (.str [45])) (faCons (fC (.str [45, 48])) (faCons (fC (.str [48, 48])) (faCons (fC (.str [48, 49])) (faCons (fC (.str [45, 48, 49])) (faCons (fC (.str [49, 48, 48, 48, 48, 48, 48])) (faCons (fC (.str [45, 57, 57, 57, 57, 57, 57])) faNil)))))))))))))))))))))))) (gtName 2)) (fsSeq (fsAsg (fBin addP (fVar 2) (fLst false (faCons (fC (.str [97])) (faCons (fC (.str [65])) (faCons (fC (.str [97, 49])) (faCons (fC (.str [49, 97])) (faCons (fC (.str [91, 97, 32, 98, 93])) (faCons (fC (.str [91, 97, 45, 49, 93])) (faCons (fC (.str [91, 49, 44, 50, 93])) (faCons (fC (.str [45, 45, 49])) (faCons (fC (.str [43, 49])) (faCons (fC (.str [91, 49, 91, 50, 93, 93])) (faCons (fC (.str [91, 91, 49, 93, 50, 93])) (faCons (fC (.str [91, 91, 49, 93, 97, 93])) (faCons (fC (.str [97, 95])) (faCons (fC (.str [91, 97, 49, 97, 32, 49, 93])) faNil)))))))))))))))) (gtName 2)) (fsSeq (fsAsg (fBin addP (fVar 2) (fLst false (faCons (fBin addP (fBin mulP (fC (.str [91])) (fC (.int 310))) (fBin mulP (fC (.str [93])) (fC (.int 310)))) (faCons (fBin addP (fBin mulP (fC (.str [91])) (fC (.int 311))) (fBin mulP (fC (.str [93])) (fC (.int 311)))) (faCons (fBin mulP (fC (.str [91])) (fC (.int 500))) (faCons (fBin addP (fBin addP (fBin mulP (fC (.str [91])) (fC (.int 309))) (fC (.str [49]))) (fBin mulP (fC (.str [93])) (fC (.int 309)))) faNil)))))) (gtName 2)) (fsSeq (x4 tf) (fsSeq (x5 tf) (fsSeq (fsRet (fC (.bl true))) fsNil))))))) := rfl
@[simp] theorem mulP_str {c : Nat} {j : Int} {st : Store} : mulP (.str [c]) (.int j) st = if 2 ≤ j ∧ j ≤ 1000 then some (.str (List.replicate j.toNat c)) else none := rfl
def val (t : List Nat) : PV := match whole t with | some p => .lst [p] | none => .non
theorem val_sm {t : List Nat} (hl : t.length ≤ 200000) : Sm 311 (val t) := by
  unfold val whole
  cases e : pv 310 t with
  | none => exact True.intro
  | some z =>
    obtain ⟨p, r⟩ := z
    cases r with
    | nil => exact ⟨by simp, fun x hx => by simp at hx; subst hx; exact pv_sm 310 t _ _ hl e⟩
    | cons _ _ => exact True.intro
theorem spec_told {i : Nat} {t : List Nat} {st : Store} {Q : PV → Store → Prop} (hl : t.length ≤ 200000) (hp : Pool st) (q : ∀ st', Pool st' → Q (val t) st') : Sat (E (i + 626) 31 [.str t] st) Q := by
  have z1 : 1 ≤ sizeLine := by rw [sizeLine_eq]; decide
  rw [E_succ, e31]
  refine Sat_fnF rfl ?_
  unfold b31
  refine SatS_then (SatS_fsTry ?_)
  simp -dsimp -implicitDefEqProofs
  refine rd_read (i := i) hl hp (fun p st' e hp' => ?_) fun e st' hp' => ?_
  · have : val t = .lst [p] := by rw [val, e]
    simp -dsimp -implicitDefEqProofs [z1]
    rw [← this]
    exact q st' hp'
  · have : val t = .non := by rw [val, e]
    refine ⟨rfl, ?_⟩
    rw [← this]
    exact q st' hp'
theorem pick_str {i : Nat} {cs : List Nat} {st : Store} {Q : PV → Store → Prop} (hp : Pool st) (h0 : cs ≠ []) (h1 : cs.length < 1073741824) (h : ∀ x st', Pool st' → Q (.str [x]) st') : Sat (E (i + 3) 12 [.ref 0, .str cs] st) Q := by
  have hl : 0 < cs.length := List.length_pos_iff.mpr h0
  rw [E_succ, e12]
  refine Sat_fnF rfl ?_
  unfold b12
  simp -dsimp -implicitDefEqProofs
  refine draw hp (by omega) (by omega) fun r st' h2 h3 h4 h5 h6 => ?_
  obtain ⟨x, hx, e⟩ := at_some h2 h3
  simp -dsimp -implicitDefEqProofs [e]
  exact h x st' h4
abbrev T1 (x : PV) : Prop := ∃ s, x = .str s ∧ s.length ≤ 100000
theorem spec_garb {i : Nat} {s : List Nat} {st : Store} {Q : PV → Store → Prop} (hs : s.length ≤ 27400) (hp : Pool st) (q : ∀ x st', T1 x → Pool st' → Q x st') : Sat (E (i + 4) 13 [.ref 0, .str s, .str cs4] st) Q := by
  have c1 := fun lo hi => cutP_length s lo hi
  have sz : ∀ n ≤ 100000, n ≤ sizeLine := fun n h => by rw [sizeLine_eq]; omega
  rw [E_succ, e13]
  refine Sat_fnF rfl ?_
  unfold b13
  simp -dsimp -implicitDefEqProofs
  refine draw hp (by omega) (by omega) fun k st1 h1 h2 hp1 _ _ => ?_
  simp -dsimp -implicitDefEqProofs
  refine draw hp1 (by omega) (by omega) fun r st2 h3 h4 hp2 _ _ => ?_
  simp -dsimp -implicitDefEqProofs
  refine pick_str hp2 (by simp [cs4]) (by simp [cs4]) fun x st3 hp3 => ?_
  have d1 := c1 none (some k)
  have d2 := c1 (some k) none
  have d3 := c1 (some (k + 1)) none
  have d4 := c1 (some k) (some (k + 1))
  by_cases r0 : r = 0
  · simp -dsimp -implicitDefEqProofs [r0, sz ((cutP s none (some k)).length + 1) (by omega), sz ((cutP s none (some k)).length + (1 + (cutP s (some k) none).length)) (by omega), sz ((cutP s none (some k)).length + 1 + (cutP s (some k) none).length) (by omega)]
    refine q _ st3 ⟨_, rfl, ?_⟩ hp3
    simp; omega
  · by_cases r1 : r = 1
    · simp -dsimp -implicitDefEqProofs [r1, sz ((cutP s none (some k)).length + (cutP s (some (k + 1)) none).length) (by omega)]
      refine q _ st3 ⟨_, rfl, ?_⟩ hp3
      simp; omega
    · by_cases r2 : r = 2
      · simp -dsimp -implicitDefEqProofs [r2, sz ((cutP s none (some k)).length + 1) (by omega), sz ((cutP s none (some k)).length + (1 + (cutP s (some (k + 1)) none).length)) (by omega), sz ((cutP s none (some k)).length + 1 + (cutP s (some (k + 1)) none).length) (by omega)]
        refine q _ st3 ⟨_, rfl, ?_⟩ hp3
        simp; omega
      · simp -dsimp -implicitDefEqProofs [r0, r1, r2, sz ((cutP s none (some k)).length + (cutP s (some k) (some (k + 1))).length) (by omega), sz ((cutP s none (some k)).length + ((cutP s (some k) (some (k + 1))).length + (cutP s (some k) none).length)) (by omega), sz ((cutP s none (some k)).length + (cutP s (some k) (some (k + 1))).length + (cutP s (some k) none).length) (by omega)]
        refine q _ st3 ⟨_, rfl, ?_⟩ hp3
        simp; omega
section
variable {i d : Nat} {p : PV} {st : Store} {Q : PV → Store → Prop}
theorem hF0 (i : Nat) : E (i + 1) 0 = fnF 1 2 (bodyT (E i 0)) := by rw [E_succ, e0]; rfl
theorem text_small (hd : d ≤ 5) (ht : Tx 5 d p) : (textOf p).length ≤ 27342 := by
  have := ht.len
  have : bnd d ≤ 27342 := by
    rcases (by omega : d = 0 ∨ d = 1 ∨ d = 2 ∨ d = 3 ∨ d = 4 ∨ d = 5) with rfl | rfl | rfl | rfl | rfl | rfl <;> decide
  omega
theorem write_ok (hd : d ≤ 5) (ht : Tx 5 d p) (q : Q (.str (textOf p)) st) : Sat (E (i + 99) 0 [p] st) Q := by
  have := spec_text (F := fun i => E i 0) hF0 (m := 5) (by omega) d p ht (by have := text_small hd ht; omega) (i := i + 98 - d) q
  rw [show i + 98 - d + d + 1 = i + 99 by omega] at this
  exact this
end
section
variable {i : Nat} {p0 : PV} {st : Store} {o3 o4 o5 : Option PV} {nx : Sig → Store → Prop} {rt : PV → Store → Prop}
theorem x5_ok {tried : List PV} (ht : ∀ x ∈ tried, T1 x) (hl : tried.length ≤ 1000) (hp : Pool st) (q : ∀ o4 st', nx [some p0, some (.ref 0), some (.lst tried), o3, o4, o5] st') :
    SatS (x5 (E (i + 639)) [some p0, some (.ref 0), some (.lst tried), o3, o4, o5] st) nx rt := by
  unfold x5
  simp -dsimp -implicitDefEqProofs
  refine SatS_for (fun l sg st' => Hd (∃ o4, sg = [some p0, some (.ref 0), some (.lst tried), o3, o4, o5] ∧ Pool st' ∧ ∀ x ∈ l, T1 x)) ?_ ?_ _ _ _ ⟨_, rfl, hp, ht⟩
  · rintro sg st' ⟨o4, rfl, _⟩
    exact q o4 st'
  · rintro x xs sg st' ⟨o4, rfl, hp', hx⟩
    obtain ⟨t, rfl, htl⟩ := hx x List.mem_cons_self
    unfold x5b
    simp -dsimp -implicitDefEqProofs
    refine spec_told (i := i + 13) (by omega) hp' fun st1 hp1 => ?_
    simp -dsimp -implicitDefEqProofs
    refine spec_valueof (i := i + 326) (by omega) ?_
    simp -dsimp -implicitDefEqProofs
    refine spec_same (i := i + 327) 311 (val t) (val_sm (by omega)) ?_
    simp -dsimp -implicitDefEqProofs
    exact ⟨_, rfl, hp1, fun y hy => hx y (List.mem_cons_of_mem _ hy)⟩
theorem x4_ok {tried : List PV} (ht : ∀ x ∈ tried, T1 x) (hl : tried.length ≤ 100) (hp : Pool st) (q : ∀ tried o3 o4 o5 st', (∀ x ∈ tried, T1 x) → tried.length ≤ 1000 → Pool st' → nx [some p0, some (.ref 0), some (.lst tried), o3, o4, o5] st') :
    SatS (x4 (E (i + 639)) [some p0, some (.ref 0), some (.lst tried), o3, o4, o5] st) nx rt := by
  have sz : ∀ n ≤ 100000, n ≤ sizeLine := fun n h => by rw [sizeLine_eq]; omega
  have z2 := sz 2 (by omega)
  have z3 := sz 3 (by omega)
  have z5 := sz 5 (by omega)
  unfold x4
  simp -dsimp -implicitDefEqProofs
  refine SatS_for (fun l sg st' => Hd (∃ tried o3 o4 o5, sg = [some p0, some (.ref 0), some (.lst tried), o3, o4, o5] ∧ (∀ x ∈ tried, T1 x) ∧ tried.length + 10 * l.length ≤ 200 ∧ Pool st')) ?_ ?_ _ _ _ ⟨_, _, _, _, rfl, ht, by simp only [rng_len]; omega, hp⟩
  · rintro sg st' ⟨tried, o3, o4, o5, rfl, ht, hl, hp⟩
    exact q _ _ _ _ st' ht (by simp at hl; omega) hp
  · rintro x xs sg st' ⟨tried, o3, o4, o5, rfl, ht, hl, hp⟩
    simp only [List.length_cons] at hl
    unfold x4b
    simp -dsimp -implicitDefEqProofs
    refine spec_prog hp fun progs st1 hP hp1 => ?_
    simp -dsimp -implicitDefEqProofs
    refine spec_inputs hP hp1 fun v1 st2 h1 hp2 => ?_
    simp -dsimp -implicitDefEqProofs
    have h4 := spec_some 4 (i := i + 631) (st := st2) (Q := fun p st => Tx 3 4 p ∧ Pool st) hp2 fun p st' h1 h2 => ⟨h1, h2⟩
    refine h4.mono fun v2 st3 h => ?_
    obtain ⟨h2, hp3⟩ := h
    simp -dsimp -implicitDefEqProofs [z2, z3]
    refine pick_lst hp3 (by simp) (by simp) fun v st4 hv hp4 _ _ => ?_
    obtain ⟨d, hd, htx⟩ : ∃ d, d ≤ 5 ∧ Tx 5 d v := by
      simp at hv
      rcases hv with rfl | rfl | rfl
      · exact ⟨2, by omega, h1⟩
      · exact ⟨4, by omega, h2.wide (by omega)⟩
      · refine ⟨2, by omega, by simp, fun y hy => ?_⟩
        simp at hy
        rcases hy with rfl | rfl
        · exact ⟨by simp, fun z hz => by simp at hz; rcases hz with rfl | rfl <;> exact Tx.int (by decide)⟩
        · exact ⟨by simp, fun z hz => by simp at hz; rcases hz with rfl | rfl; exact Tx.str (wordQ_iff (by decide)) (by simp); exact Tx.int (by decide)⟩
    have htl := text_small hd htx
    simp -dsimp -implicitDefEqProofs
    refine write_ok (i := i + 540) hd htx ?_
    generalize textOf v = s at htl ⊢
    simp -dsimp -implicitDefEqProofs
    refine Sat_fComp ?_
    have zr : (rngL 0 4).length ≤ sizeLine := by rw [rng_len]; exact sz _ (by decide)
    simp -dsimp -implicitDefEqProofs [zr]
    refine Sat_each Pool T1 _ hp4 (fun y hy st5 hp5 => ?_) fun ys st5 hy hyl hp5 => ?_
    · simp -dsimp -implicitDefEqProofs
      refine spec_garb (by omega) hp5 fun u st6 hu hp6 => ?_
      exact ⟨hp6, u, rfl, hu⟩
    · rw [rng_len] at hyl
      have hyl : ys.length = 4 := by simpa using hyl
      simp -dsimp -implicitDefEqProofs [z5, hyl, sz (s.length + 1) (by omega), sz (1 + s.length) (by omega), sz (1 + s.length + 1) (by omega), sz (s.length + 2) (by omega), sz (1 + s.length + 3) (by omega), sz (s.length + 1 + 1) (by omega), sz (s.length + 1 + 3) (by omega), sz (s.length + 4) (by omega), sz (tried.length + 4) (by omega), sz (tried.length + 4 + 5) (by omega), sz (tried.length + 9) (by omega)]
      refine ⟨_, _, _, _, rfl, fun y hy' => ?_, by simp; omega, hp5⟩
      simp at hy'
      rcases hy' with hy' | hy' | rfl | rfl | rfl | rfl | rfl
      · exact ht y hy'
      · exact hy y hy'
      · exact ⟨_, rfl, by omega⟩
      · exact ⟨_, rfl, by simp; omega⟩
      · exact ⟨_, rfl, by simp; omega⟩
      · exact ⟨_, rfl, by simp; omega⟩
      · exact ⟨_, rfl, by simp; omega⟩
end
theorem spec_law {i : Nat} {ns : List Int} : Sat (E (i + 640) 32 [.scr (ns.map .int)] []) fun p st => p = .bl true := by
  have sz : ∀ n ≤ 100000, n ≤ sizeLine := fun n h => by rw [sizeLine_eq]; omega
  rw [E_succ, e32]
  refine Sat_fnF rfl ?_
  rw [b32_eq]
  simp -dsimp -implicitDefEqProofs
  refine spec_pool fun st hp _ => ?_
  have t1 : ∀ s : List Nat, s.length ≤ 1000 → T1 (.str s) := fun s h => ⟨s, rfl, by omega⟩
  simp -dsimp -implicitDefEqProofs [sizeLine_eq]
  refine x4_ok (i := i) (fun x hx => ?_) (by simp) hp fun tried o3 o4 o5 st2 ht hl hp2 => ?_
  · simp only [List.mem_append, List.mem_cons, List.not_mem_nil, or_false] at hx
    rcases hx with (hx | hx) | hx
    all_goals
      repeat (first | (subst hx; exact t1 _ (by simp)) | (rcases hx with rfl | hx; exact t1 _ (by simp)))
      try exact t1 _ (by decide)
  simp -dsimp -implicitDefEqProofs
  refine x5_ok (i := i) ht hl hp2 fun o4 st3 => ?_
  simp -dsimp -implicitDefEqProofs
theorem law_ok : Pv.LawD S D 32 650 63 := by
  intro ns _
  obtain ⟨a, st, e, rfl⟩ := (spec_law (i := 10) (ns := ns)).ok
  exact ⟨st, e⟩
end K13
set_option maxHeartbeats 8000000
namespace K13
open Pv PySem L2
theorem all_mk {K : PySem.W.Frag} {h : Heap} {mg : Str → Option Value} {f : Addr} (X : K.In h) (G : h.Ns mainGlobals mg) (hf : mg "law" = some (.ref f))
    {f0 f1 f2 f3 f4 f5 f6 f7 f8 f9 f10 f11 f12 f13 f14 f15 f16 f17 f18 f19 f20 f21 f22 f23 f24 f25 f26 f27 f28 f29 f30 f31 f32 : Addr} {C0 : Addr} {od0 an0 od1 an1 od2 an2 od3 an3 od4 an4 od5 an5 od6 an6 od7 an7 od8 an8 od9 an9 od10 an10 od11 an11 od12 an12 od13 an13 od14 an14 od15 an15 od16 an16 od17 an17 od18 an18 od19 an19 od20 an20 od21 an21 od22 an22 od23 an23 od24 an24 od25 an25 od26 an26 od27 an27 od28 an28 od29 an29 od30 an30 od31 an31 od32 an32 : Option Addr} {sl0 sl1 sl2 sl3 sl4 sl5 sl6 sl7 sl8 sl9 sl10 sl11 sl12 sl13 sl14 sl15 sl16 sl17 sl18 sl19 sl20 sl21 sl22 sl23 sl24 sl25 sl26 sl27 sl28 sl29 sl30 sl31 sl32 : Array (Option Value)} {oc0 kV0 dc0 pm0 cd0 ct0 oc1 kV1 dc1 pm1 cd1 ct1 oc2 kV2 dc2 pm2 cd2 ct2 oc3 kV3 dc3 pm3 cd3 ct3 oc4 kV4 dc4 pm4 cd4 ct4 oc5 kV5 dc5 pm5 cd5 ct5 oc6 kV6 dc6 pm6 cd6 ct6 oc7 kV7 dc7 pm7 cd7 ct7 oc8 kV8 dc8 pm8 cd8 ct8 oc9 kV9 dc9 pm9 cd9 ct9 oc10 kV10 dc10 pm10 cd10 ct10 oc11 kV11 dc11 pm11 cd11 ct11 oc12 kV12 dc12 pm12 cd12 ct12 oc13 kV13 dc13 pm13 cd13 ct13 oc14 kV14 dc14 pm14 cd14 ct14 oc15 kV15 dc15 pm15 cd15 ct15 oc16 kV16 dc16 pm16 cd16 ct16 oc17 kV17 dc17 pm17 cd17 ct17 oc18 kV18 dc18 pm18 cd18 ct18 oc19 kV19 dc19 pm19 cd19 ct19 oc20 kV20 dc20 pm20 cd20 ct20 oc21 kV21 dc21 pm21 cd21 ct21 oc22 kV22 dc22 pm22 cd22 ct22 oc23 kV23 dc23 pm23 cd23 ct23 oc24 kV24 dc24 pm24 cd24 ct24 oc25 kV25 dc25 pm25 cd25 ct25 oc26 kV26 dc26 pm26 cd26 ct26 oc27 kV27 dc27 pm27 cd27 ct27 oc28 kV28 dc28 pm28 cd28 ct28 oc29 kV29 dc29 pm29 cd29 ct29 oc30 kV30 dc30 pm30 cd30 ct30 oc31 kV31 dc31 pm31 cd31 ct31 oc32 kV32 dc32 pm32 cd32 ct32 : Value} {tk_DIGITS : Tok} {tk_WORD : Tok} {tk_DEEPEST : Tok} {tk_MOST_SIGNS : Tok} {tk_MOST_DIGITS : Tok} {X0 : Addr}
    (aC0 : PySem.W.nsIn K mainGlobals "ValueReader" = some (some (.ref C0)))
    (a0 : PySem.W.nsIn K mainGlobals "write_value" = some (some (.ref f0)))
    (l0 : K.lookup f0 = some ⟨oc0, od0, .func (PySem.W.fnOf "write_value" "write_value" (defArgs (top 9)) (defBody (top 9)) (defScope (top 9)) .none kV0 dc0 pm0 an0 cd0 ct0), sl0⟩)
    (c0 : PySem.W.codeIn K cd0 "write_value" = true)
    (k0 : PySem.W.keepIn K (.ref f0) = true)
    (a1 : PySem.W.findIn K (.ref C0) "__init__" = some (some (.ref f1)))
    (i1 : PySem.W.isFn K (.ref f1) = true)
    (l1 : K.lookup f1 = some ⟨oc1, od1, .func (PySem.W.fnOf "__init__" "ValueReader.__init__" (defArgs (inClass (top 10) 0)) (defBody (inClass (top 10) 0)) (defScope (inClass (top 10) 0)) .none kV1 dc1 pm1 an1 cd1 ct1), sl1⟩)
    (c1 : PySem.W.codeIn K cd1 "ValueReader.__init__" = true)
    (k1 : PySem.W.keepIn K (.ref f1) = true)
    (a2 : PySem.W.findIn K (.ref C0) "next_sign" = some (some (.ref f2)))
    (i2 : PySem.W.isFn K (.ref f2) = true)
    (l2 : K.lookup f2 = some ⟨oc2, od2, .func (PySem.W.fnOf "next_sign" "ValueReader.next_sign" (defArgs (inClass (top 10) 1)) (defBody (inClass (top 10) 1)) (defScope (inClass (top 10) 1)) .none kV2 dc2 pm2 an2 cd2 ct2), sl2⟩)
    (c2 : PySem.W.codeIn K cd2 "ValueReader.next_sign" = true)
    (k2 : PySem.W.keepIn K (.ref f2) = true)
    (a3 : PySem.W.findIn K (.ref C0) "run_of" = some (some (.ref f3)))
    (i3 : PySem.W.isFn K (.ref f3) = true)
    (l3 : K.lookup f3 = some ⟨oc3, od3, .func (PySem.W.fnOf "run_of" "ValueReader.run_of" (defArgs (inClass (top 10) 2)) (defBody (inClass (top 10) 2)) (defScope (inClass (top 10) 2)) .none kV3 dc3 pm3 an3 cd3 ct3), sl3⟩)
    (c3 : PySem.W.codeIn K cd3 "ValueReader.run_of" = true)
    (k3 : PySem.W.keepIn K (.ref f3) = true)
    (a4 : PySem.W.findIn K (.ref C0) "number" = some (some (.ref f4)))
    (i4 : PySem.W.isFn K (.ref f4) = true)
    (l4 : K.lookup f4 = some ⟨oc4, od4, .func (PySem.W.fnOf "number" "ValueReader.number" (defArgs (inClass (top 10) 3)) (defBody (inClass (top 10) 3)) (defScope (inClass (top 10) 3)) .none kV4 dc4 pm4 an4 cd4 ct4), sl4⟩)
    (c4 : PySem.W.codeIn K cd4 "ValueReader.number" = true)
    (k4 : PySem.W.keepIn K (.ref f4) = true)
    (a5 : PySem.W.findIn K (.ref C0) "parts" = some (some (.ref f5)))
    (i5 : PySem.W.isFn K (.ref f5) = true)
    (l5 : K.lookup f5 = some ⟨oc5, od5, .func (PySem.W.fnOf "parts" "ValueReader.parts" (defArgs (inClass (top 10) 4)) (defBody (inClass (top 10) 4)) (defScope (inClass (top 10) 4)) .none kV5 dc5 pm5 an5 cd5 ct5), sl5⟩)
    (c5 : PySem.W.codeIn K cd5 "ValueReader.parts" = true)
    (k5 : PySem.W.keepIn K (.ref f5) = true)
    (a6 : PySem.W.findIn K (.ref C0) "value" = some (some (.ref f6)))
    (i6 : PySem.W.isFn K (.ref f6) = true)
    (l6 : K.lookup f6 = some ⟨oc6, od6, .func (PySem.W.fnOf "value" "ValueReader.value" (defArgs (inClass (top 10) 5)) (defBody (inClass (top 10) 5)) (defScope (inClass (top 10) 5)) .none kV6 dc6 pm6 an6 cd6 ct6), sl6⟩)
    (c6 : PySem.W.codeIn K cd6 "ValueReader.value" = true)
    (k6 : PySem.W.keepIn K (.ref f6) = true)
    (a7 : PySem.W.nsIn K mainGlobals "read_value" = some (some (.ref f7)))
    (l7 : K.lookup f7 = some ⟨oc7, od7, .func (PySem.W.fnOf "read_value" "read_value" (defArgs (top 11)) (defBody (top 11)) (defScope (top 11)) .none kV7 dc7 pm7 an7 cd7 ct7), sl7⟩)
    (c7 : PySem.W.codeIn K cd7 "read_value" = true)
    (k7 : PySem.W.keepIn K (.ref f7) = true)
    (a8 : PySem.W.nsIn K mainGlobals "_law_same" = some (some (.ref f8)))
    (l8 : K.lookup f8 = some ⟨oc8, od8, .func (PySem.W.fnOf "_law_same" "_law_same" (defArgs (top 13)) (defBody (top 13)) (defScope (top 13)) .none kV8 dc8 pm8 an8 cd8 ct8), sl8⟩)
    (c8 : PySem.W.codeIn K cd8 "_law_same" = true)
    (k8 : PySem.W.keepIn K (.ref f8) = true)
    (a9 : PySem.W.nsIn K mainGlobals "_law_pool" = some (some (.ref f9)))
    (l9 : K.lookup f9 = some ⟨oc9, od9, .func (PySem.W.fnOf "_law_pool" "_law_pool" (defArgs (top 14)) (defBody (top 14)) (defScope (top 14)) .none kV9 dc9 pm9 an9 cd9 ct9), sl9⟩)
    (c9 : PySem.W.codeIn K cd9 "_law_pool" = true)
    (k9 : PySem.W.keepIn K (.ref f9) = true)
    (a10 : PySem.W.nsIn K mainGlobals "_law_spread" = some (some (.ref f10)))
    (l10 : K.lookup f10 = some ⟨oc10, od10, .func (PySem.W.fnOf "_law_spread" "_law_spread" (defArgs (top 15)) (defBody (top 15)) (defScope (top 15)) .none kV10 dc10 pm10 an10 cd10 ct10), sl10⟩)
    (c10 : PySem.W.codeIn K cd10 "_law_spread" = true)
    (k10 : PySem.W.keepIn K (.ref f10) = true)
    (a11 : PySem.W.nsIn K mainGlobals "_law_draw" = some (some (.ref f11)))
    (l11 : K.lookup f11 = some ⟨oc11, od11, .func (PySem.W.fnOf "_law_draw" "_law_draw" (defArgs (top 16)) (defBody (top 16)) (defScope (top 16)) .none kV11 dc11 pm11 an11 cd11 ct11), sl11⟩)
    (c11 : PySem.W.codeIn K cd11 "_law_draw" = true)
    (k11 : PySem.W.keepIn K (.ref f11) = true)
    (a12 : PySem.W.nsIn K mainGlobals "_law_pick" = some (some (.ref f12)))
    (l12 : K.lookup f12 = some ⟨oc12, od12, .func (PySem.W.fnOf "_law_pick" "_law_pick" (defArgs (top 17)) (defBody (top 17)) (defScope (top 17)) .none kV12 dc12 pm12 an12 cd12 ct12), sl12⟩)
    (c12 : PySem.W.codeIn K cd12 "_law_pick" = true)
    (k12 : PySem.W.keepIn K (.ref f12) = true)
    (a13 : PySem.W.nsIn K mainGlobals "_law_garbled" = some (some (.ref f13)))
    (l13 : K.lookup f13 = some ⟨oc13, od13, .func (PySem.W.fnOf "_law_garbled" "_law_garbled" (defArgs (top 18)) (defBody (top 18)) (defScope (top 18)) .none kV13 dc13 pm13 an13 cd13 ct13), sl13⟩)
    (c13 : PySem.W.codeIn K cd13 "_law_garbled" = true)
    (k13 : PySem.W.keepIn K (.ref f13) = true)
    (a14 : PySem.W.nsIn K mainGlobals "_law_shuffled" = some (some (.ref f14)))
    (l14 : K.lookup f14 = some ⟨oc14, od14, .func (PySem.W.fnOf "_law_shuffled" "_law_shuffled" (defArgs (top 19)) (defBody (top 19)) (defScope (top 19)) .none kV14 dc14 pm14 an14 cd14 ct14), sl14⟩)
    (c14 : PySem.W.codeIn K cd14 "_law_shuffled" = true)
    (k14 : PySem.W.keepIn K (.ref f14) = true)
    (a15 : PySem.W.nsIn K mainGlobals "_law_word_sign" = some (some (.ref f15)))
    (l15 : K.lookup f15 = some ⟨oc15, od15, .func (PySem.W.fnOf "_law_word_sign" "_law_word_sign" (defArgs (top 20)) (defBody (top 20)) (defScope (top 20)) .none kV15 dc15 pm15 an15 cd15 ct15), sl15⟩)
    (c15 : PySem.W.codeIn K cd15 "_law_word_sign" = true)
    (k15 : PySem.W.keepIn K (.ref f15) = true)
    (a16 : PySem.W.nsIn K mainGlobals "_law_whole_text" = some (some (.ref f16)))
    (l16 : K.lookup f16 = some ⟨oc16, od16, .func (PySem.W.fnOf "_law_whole_text" "_law_whole_text" (defArgs (top 21)) (defBody (top 21)) (defScope (top 21)) .none kV16 dc16 pm16 an16 cd16 ct16), sl16⟩)
    (c16 : PySem.W.codeIn K cd16 "_law_whole_text" = true)
    (k16 : PySem.W.keepIn K (.ref f16) = true)
    (a17 : PySem.W.nsIn K mainGlobals "_law_taken" = some (some (.ref f17)))
    (l17 : K.lookup f17 = some ⟨oc17, od17, .func (PySem.W.fnOf "_law_taken" "_law_taken" (defArgs (top 22)) (defBody (top 22)) (defScope (top 22)) .none kV17 dc17 pm17 an17 cd17 ct17), sl17⟩)
    (c17 : PySem.W.codeIn K cd17 "_law_taken" = true)
    (k17 : PySem.W.keepIn K (.ref f17) = true)
    (a18 : PySem.W.nsIn K mainGlobals "_law_value_of" = some (some (.ref f18)))
    (l18 : K.lookup f18 = some ⟨oc18, od18, .func (PySem.W.fnOf "_law_value_of" "_law_value_of" (defArgs (top 23)) (defBody (top 23)) (defScope (top 23)) .none kV18 dc18 pm18 an18 cd18 ct18), sl18⟩)
    (c18 : PySem.W.codeIn K cd18 "_law_value_of" = true)
    (k18 : PySem.W.keepIn K (.ref f18) = true)
    (a19 : PySem.W.nsIn K mainGlobals "_law_some_value" = some (some (.ref f19)))
    (l19 : K.lookup f19 = some ⟨oc19, od19, .func (PySem.W.fnOf "_law_some_value" "_law_some_value" (defArgs (top 24)) (defBody (top 24)) (defScope (top 24)) .none kV19 dc19 pm19 an19 cd19 ct19), sl19⟩)
    (c19 : PySem.W.codeIn K cd19 "_law_some_value" = true)
    (k19 : PySem.W.keepIn K (.ref f19) = true)
    (a20 : PySem.W.nsIn K mainGlobals "_law_many" = some (some (.ref f20)))
    (l20 : K.lookup f20 = some ⟨oc20, od20, .func (PySem.W.fnOf "_law_many" "_law_many" (defArgs (top 25)) (defBody (top 25)) (defScope (top 25)) .none kV20 dc20 pm20 an20 cd20 ct20), sl20⟩)
    (c20 : PySem.W.codeIn K cd20 "_law_many" = true)
    (k20 : PySem.W.keepIn K (.ref f20) = true)
    (a21 : PySem.W.nsIn K mainGlobals "_law_value" = some (some (.ref f21)))
    (l21 : K.lookup f21 = some ⟨oc21, od21, .func (PySem.W.fnOf "_law_value" "_law_value" (defArgs (top 26)) (defBody (top 26)) (defScope (top 26)) .none kV21 dc21 pm21 an21 cd21 ct21), sl21⟩)
    (c21 : PySem.W.codeIn K cd21 "_law_value" = true)
    (k21 : PySem.W.keepIn K (.ref f21) = true)
    (a22 : PySem.W.nsIn K mainGlobals "_law_named" = some (some (.ref f22)))
    (l22 : K.lookup f22 = some ⟨oc22, od22, .func (PySem.W.fnOf "_law_named" "_law_named" (defArgs (top 27)) (defBody (top 27)) (defScope (top 27)) .none kV22 dc22 pm22 an22 cd22 ct22), sl22⟩)
    (c22 : PySem.W.codeIn K cd22 "_law_named" = true)
    (k22 : PySem.W.keepIn K (.ref f22) = true)
    (a23 : PySem.W.nsIn K mainGlobals "_law_word" = some (some (.ref f23)))
    (l23 : K.lookup f23 = some ⟨oc23, od23, .func (PySem.W.fnOf "_law_word" "_law_word" (defArgs (top 28)) (defBody (top 28)) (defScope (top 28)) .none kV23 dc23 pm23 an23 cd23 ct23), sl23⟩)
    (c23 : PySem.W.codeIn K cd23 "_law_word" = true)
    (k23 : PySem.W.keepIn K (.ref f23) = true)
    (a24 : PySem.W.nsIn K mainGlobals "_law_clocked" = some (some (.ref f24)))
    (l24 : K.lookup f24 = some ⟨oc24, od24, .func (PySem.W.fnOf "_law_clocked" "_law_clocked" (defArgs (top 29)) (defBody (top 29)) (defScope (top 29)) .none kV24 dc24 pm24 an24 cd24 ct24), sl24⟩)
    (c24 : PySem.W.codeIn K cd24 "_law_clocked" = true)
    (k24 : PySem.W.keepIn K (.ref f24) = true)
    (a25 : PySem.W.nsIn K mainGlobals "_law_plain_word" = some (some (.ref f25)))
    (l25 : K.lookup f25 = some ⟨oc25, od25, .func (PySem.W.fnOf "_law_plain_word" "_law_plain_word" (defArgs (top 30)) (defBody (top 30)) (defScope (top 30)) .none kV25 dc25 pm25 an25 cd25 ct25), sl25⟩)
    (c25 : PySem.W.codeIn K cd25 "_law_plain_word" = true)
    (k25 : PySem.W.keepIn K (.ref f25) = true)
    (a26 : PySem.W.nsIn K mainGlobals "_law_modes" = some (some (.ref f26)))
    (l26 : K.lookup f26 = some ⟨oc26, od26, .func (PySem.W.fnOf "_law_modes" "_law_modes" (defArgs (top 31)) (defBody (top 31)) (defScope (top 31)) .none kV26 dc26 pm26 an26 cd26 ct26), sl26⟩)
    (c26 : PySem.W.codeIn K cd26 "_law_modes" = true)
    (k26 : PySem.W.keepIn K (.ref f26) = true)
    (a27 : PySem.W.nsIn K mainGlobals "_law_node" = some (some (.ref f27)))
    (l27 : K.lookup f27 = some ⟨oc27, od27, .func (PySem.W.fnOf "_law_node" "_law_node" (defArgs (top 32)) (defBody (top 32)) (defScope (top 32)) .none kV27 dc27 pm27 an27 cd27 ct27), sl27⟩)
    (c27 : PySem.W.codeIn K cd27 "_law_node" = true)
    (k27 : PySem.W.keepIn K (.ref f27) = true)
    (a28 : PySem.W.nsIn K mainGlobals "_law_main" = some (some (.ref f28)))
    (l28 : K.lookup f28 = some ⟨oc28, od28, .func (PySem.W.fnOf "_law_main" "_law_main" (defArgs (top 33)) (defBody (top 33)) (defScope (top 33)) .none kV28 dc28 pm28 an28 cd28 ct28), sl28⟩)
    (c28 : PySem.W.codeIn K cd28 "_law_main" = true)
    (k28 : PySem.W.keepIn K (.ref f28) = true)
    (a29 : PySem.W.nsIn K mainGlobals "_law_inputs" = some (some (.ref f29)))
    (l29 : K.lookup f29 = some ⟨oc29, od29, .func (PySem.W.fnOf "_law_inputs" "_law_inputs" (defArgs (top 34)) (defBody (top 34)) (defScope (top 34)) .none kV29 dc29 pm29 an29 cd29 ct29), sl29⟩)
    (c29 : PySem.W.codeIn K cd29 "_law_inputs" = true)
    (k29 : PySem.W.keepIn K (.ref f29) = true)
    (a30 : PySem.W.nsIn K mainGlobals "_law_small_program" = some (some (.ref f30)))
    (l30 : K.lookup f30 = some ⟨oc30, od30, .func (PySem.W.fnOf "_law_small_program" "_law_small_program" (defArgs (top 35)) (defBody (top 35)) (defScope (top 35)) .none kV30 dc30 pm30 an30 cd30 ct30), sl30⟩)
    (c30 : PySem.W.codeIn K cd30 "_law_small_program" = true)
    (k30 : PySem.W.keepIn K (.ref f30) = true)
    (a31 : PySem.W.nsIn K mainGlobals "_law_told" = some (some (.ref f31)))
    (l31 : K.lookup f31 = some ⟨oc31, od31, .func (PySem.W.fnOf "_law_told" "_law_told" (defArgs (top 36)) (defBody (top 36)) (defScope (top 36)) .none kV31 dc31 pm31 an31 cd31 ct31), sl31⟩)
    (c31 : PySem.W.codeIn K cd31 "_law_told" = true)
    (k31 : PySem.W.keepIn K (.ref f31) = true)
    (a32 : PySem.W.nsIn K mainGlobals "law" = some (some (.ref f32)))
    (l32 : K.lookup f32 = some ⟨oc32, od32, .func (PySem.W.fnOf "law" "law" (defArgs (top 37)) (defBody (top 37)) (defScope (top 37)) .none kV32 dc32 pm32 an32 cd32 ct32), sl32⟩)
    (c32 : PySem.W.codeIn K cd32 "law" = true)
    (k32 : PySem.W.keepIn K (.ref f32) = true)
    (pg0 : PySem.W.plainGet K C0 Str.empty = true)
    (hd0 : PySem.W.hasDictIn K C0 = true)
    (po0 : PySem.W.plainOver K C0 = true)
    (sa0 : PySem.W.findIn K (.ref C0) "__setattr__" = some (some (.builtin "object.__setattr__")))
    (mk0 : PySem.W.makesIn K C0 = true)
    (kc0 : PySem.W.keepIn K (.ref C0) = true)
    (n_text_0 : PySem.W.findIn K (.ref C0) "text" = some none)
    (n_at_0 : PySem.W.findIn K (.ref C0) "at" = some none)
    (z_len : PySem.W.nsIn K mainGlobals "len" = some none)
    (z_str : PySem.W.nsIn K mainGlobals "str" = some none)
    (z_int : PySem.W.nsIn K mainGlobals "int" = some none)
    (z_abs : PySem.W.nsIn K mainGlobals "abs" = some none)
    (z_max : PySem.W.nsIn K mainGlobals "max" = some none)
    (z_min : PySem.W.nsIn K mainGlobals "min" = some none)
    (z_tuple : PySem.W.nsIn K mainGlobals "tuple" = some none)
    (z_list : PySem.W.nsIn K mainGlobals "list" = some none)
    (z_all : PySem.W.nsIn K mainGlobals "all" = some none)
    (z_any : PySem.W.nsIn K mainGlobals "any" = some none)
    (z_sorted : PySem.W.nsIn K mainGlobals "sorted" = some none)
    (z_isinstance : PySem.W.nsIn K mainGlobals "isinstance" = some none)
    (z_bool : PySem.W.nsIn K mainGlobals "bool" = some none)
    (z_dict : PySem.W.nsIn K mainGlobals "dict" = some none)
    (z_range : PySem.W.nsIn K mainGlobals "range" = some none)
    (z_enumerate : PySem.W.nsIn K mainGlobals "enumerate" = some none)
    (z_zip : PySem.W.nsIn K mainGlobals "zip" = some none)
    (g_DIGITS : PySem.W.nsIn K mainGlobals "DIGITS" = some (some (.str ⟨([48, 49, 50, 51, 52, 53, 54, 55, 56, 57] : List Nat).toArray⟩ tk_DIGITS)))
    (g_WORD : PySem.W.nsIn K mainGlobals "WORD" = some (some (.str ⟨([97, 98, 99, 100, 101, 102, 103, 104, 105, 106, 107, 108, 109, 110, 111, 112, 113, 114, 115, 116, 117, 118, 119, 120, 121, 122, 48, 49, 50, 51, 52, 53, 54, 55, 56, 57] : List Nat).toArray⟩ tk_WORD)))
    (g_DEEPEST : PySem.W.nsIn K mainGlobals "DEEPEST" = some (some (.int 310 tk_DEEPEST)))
    (g_MOST_SIGNS : PySem.W.nsIn K mainGlobals "MOST_SIGNS" = some (some (.int 200000 tk_MOST_SIGNS)))
    (g_MOST_DIGITS : PySem.W.nsIn K mainGlobals "MOST_DIGITS" = some (some (.int 6 tk_MOST_DIGITS)))
    (xg0 : PySem.W.nsIn K mainGlobals "BadText" = some (some (.ref X0)))
    (xx0 : PySem.W.excIn K X0 [.type "ValueError", .type "Exception", .type "BaseException", .type "object"] "ValueError.__new__" = true)
    (xk0 : PySem.W.keepIn K (.ref X0) = true)
    (xb0 : PySem.W.subIn K (.ref X0) (.type "BaseException") = some true)
    (xt0 : PySem.W.typeIn K (.ref X0) = some (.type "type"))
    (xi0 : PySem.W.isClsIn K X0 = true)
    (xs0 : PySem.W.subIn K (.ref X0) (.ref X0) = some true) :
    ∃ (K : PySem.W.Frag) (T : Txt) (fa : Nat → Addr) (fd : Nat → FuncData), K.In h ∧ fa 32 = f ∧ (∀ (s : Shared) (u : Value), BindsTo s (fd 32) ⟨[u], []⟩ [("script", u)]) ∧ Prog S D K mg T fa fd := by
  have e := hf.symm.trans (PySem.W.mg_of X G a32)
  have hff : f32 = f := by cases e; rfl
  let l : List (Addr × FuncData) := [(f0, PySem.W.fnOf "write_value" "write_value" (defArgs (top 9)) (defBody (top 9)) (defScope (top 9)) .none kV0 dc0 pm0 an0 cd0 ct0), (f1, PySem.W.fnOf "__init__" "ValueReader.__init__" (defArgs (inClass (top 10) 0)) (defBody (inClass (top 10) 0)) (defScope (inClass (top 10) 0)) .none kV1 dc1 pm1 an1 cd1 ct1), (f2, PySem.W.fnOf "next_sign" "ValueReader.next_sign" (defArgs (inClass (top 10) 1)) (defBody (inClass (top 10) 1)) (defScope (inClass (top 10) 1)) .none kV2 dc2 pm2 an2 cd2 ct2), (f3, PySem.W.fnOf "run_of" "ValueReader.run_of" (defArgs (inClass (top 10) 2)) (defBody (inClass (top 10) 2)) (defScope (inClass (top 10) 2)) .none kV3 dc3 pm3 an3 cd3 ct3), (f4, PySem.W.fnOf "number" "ValueReader.number" (defArgs (inClass (top 10) 3)) (defBody (inClass (top 10) 3)) (defScope (inClass (top 10) 3)) .none kV4 dc4 pm4 an4 cd4 ct4), (f5, PySem.W.fnOf "parts" "ValueReader.parts" (defArgs (inClass (top 10) 4)) (defBody (inClass (top 10) 4)) (defScope (inClass (top 10) 4)) .none kV5 dc5 pm5 an5 cd5 ct5), (f6, PySem.W.fnOf "value" "ValueReader.value" (defArgs (inClass (top 10) 5)) (defBody (inClass (top 10) 5)) (defScope (inClass (top 10) 5)) .none kV6 dc6 pm6 an6 cd6 ct6), (f7, PySem.W.fnOf "read_value" "read_value" (defArgs (top 11)) (defBody (top 11)) (defScope (top 11)) .none kV7 dc7 pm7 an7 cd7 ct7), (f8, PySem.W.fnOf "_law_same" "_law_same" (defArgs (top 13)) (defBody (top 13)) (defScope (top 13)) .none kV8 dc8 pm8 an8 cd8 ct8), (f9, PySem.W.fnOf "_law_pool" "_law_pool" (defArgs (top 14)) (defBody (top 14)) (defScope (top 14)) .none kV9 dc9 pm9 an9 cd9 ct9), (f10, PySem.W.fnOf "_law_spread" "_law_spread" (defArgs (top 15)) (defBody (top 15)) (defScope (top 15)) .none kV10 dc10 pm10 an10 cd10 ct10), (f11, PySem.W.fnOf "_law_draw" "_law_draw" (defArgs (top 16)) (defBody (top 16)) (defScope (top 16)) .none kV11 dc11 pm11 an11 cd11 ct11), (f12, PySem.W.fnOf "_law_pick" "_law_pick" (defArgs (top 17)) (defBody (top 17)) (defScope (top 17)) .none kV12 dc12 pm12 an12 cd12 ct12), (f13, PySem.W.fnOf "_law_garbled" "_law_garbled" (defArgs (top 18)) (defBody (top 18)) (defScope (top 18)) .none kV13 dc13 pm13 an13 cd13 ct13), (f14, PySem.W.fnOf "_law_shuffled" "_law_shuffled" (defArgs (top 19)) (defBody (top 19)) (defScope (top 19)) .none kV14 dc14 pm14 an14 cd14 ct14), (f15, PySem.W.fnOf "_law_word_sign" "_law_word_sign" (defArgs (top 20)) (defBody (top 20)) (defScope (top 20)) .none kV15 dc15 pm15 an15 cd15 ct15), (f16, PySem.W.fnOf "_law_whole_text" "_law_whole_text" (defArgs (top 21)) (defBody (top 21)) (defScope (top 21)) .none kV16 dc16 pm16 an16 cd16 ct16), (f17, PySem.W.fnOf "_law_taken" "_law_taken" (defArgs (top 22)) (defBody (top 22)) (defScope (top 22)) .none kV17 dc17 pm17 an17 cd17 ct17), (f18, PySem.W.fnOf "_law_value_of" "_law_value_of" (defArgs (top 23)) (defBody (top 23)) (defScope (top 23)) .none kV18 dc18 pm18 an18 cd18 ct18), (f19, PySem.W.fnOf "_law_some_value" "_law_some_value" (defArgs (top 24)) (defBody (top 24)) (defScope (top 24)) .none kV19 dc19 pm19 an19 cd19 ct19), (f20, PySem.W.fnOf "_law_many" "_law_many" (defArgs (top 25)) (defBody (top 25)) (defScope (top 25)) .none kV20 dc20 pm20 an20 cd20 ct20), (f21, PySem.W.fnOf "_law_value" "_law_value" (defArgs (top 26)) (defBody (top 26)) (defScope (top 26)) .none kV21 dc21 pm21 an21 cd21 ct21), (f22, PySem.W.fnOf "_law_named" "_law_named" (defArgs (top 27)) (defBody (top 27)) (defScope (top 27)) .none kV22 dc22 pm22 an22 cd22 ct22), (f23, PySem.W.fnOf "_law_word" "_law_word" (defArgs (top 28)) (defBody (top 28)) (defScope (top 28)) .none kV23 dc23 pm23 an23 cd23 ct23), (f24, PySem.W.fnOf "_law_clocked" "_law_clocked" (defArgs (top 29)) (defBody (top 29)) (defScope (top 29)) .none kV24 dc24 pm24 an24 cd24 ct24), (f25, PySem.W.fnOf "_law_plain_word" "_law_plain_word" (defArgs (top 30)) (defBody (top 30)) (defScope (top 30)) .none kV25 dc25 pm25 an25 cd25 ct25), (f26, PySem.W.fnOf "_law_modes" "_law_modes" (defArgs (top 31)) (defBody (top 31)) (defScope (top 31)) .none kV26 dc26 pm26 an26 cd26 ct26), (f27, PySem.W.fnOf "_law_node" "_law_node" (defArgs (top 32)) (defBody (top 32)) (defScope (top 32)) .none kV27 dc27 pm27 an27 cd27 ct27), (f28, PySem.W.fnOf "_law_main" "_law_main" (defArgs (top 33)) (defBody (top 33)) (defScope (top 33)) .none kV28 dc28 pm28 an28 cd28 ct28), (f29, PySem.W.fnOf "_law_inputs" "_law_inputs" (defArgs (top 34)) (defBody (top 34)) (defScope (top 34)) .none kV29 dc29 pm29 an29 cd29 ct29), (f30, PySem.W.fnOf "_law_small_program" "_law_small_program" (defArgs (top 35)) (defBody (top 35)) (defScope (top 35)) .none kV30 dc30 pm30 an30 cd30 ct30), (f31, PySem.W.fnOf "_law_told" "_law_told" (defArgs (top 36)) (defBody (top 36)) (defScope (top 36)) .none kV31 dc31 pm31 an31 cd31 ct31), (f32, PySem.W.fnOf "law" "law" (defArgs (top 37)) (defBody (top 37)) (defScope (top 37)) .none kV32 dc32 pm32 an32 cd32 ct32)]
  have F0 := fun_mk (st := top 9) l0 c0 k0
  have b0 := F0.binds (ps := ["value"]) fun _ _ _ _ _ _ us hl => match us, hl with | [_], _ => rfl
  have F1 := fun_mk (st := inClass (top 10) 0) l1 c1 k1
  have b1 := F1.binds (ps := ["self", "text"]) fun _ _ _ _ _ _ us hl => match us, hl with | [_, _], _ => rfl
  have F2 := fun_mk (st := inClass (top 10) 1) l2 c2 k2
  have b2 := F2.binds (ps := ["self"]) fun _ _ _ _ _ _ us hl => match us, hl with | [_], _ => rfl
  have F3 := fun_mk (st := inClass (top 10) 2) l3 c3 k3
  have b3 := F3.binds (ps := ["self", "signs"]) fun _ _ _ _ _ _ us hl => match us, hl with | [_, _], _ => rfl
  have F4 := fun_mk (st := inClass (top 10) 3) l4 c4 k4
  have b4 := F4.binds (ps := ["self"]) fun _ _ _ _ _ _ us hl => match us, hl with | [_], _ => rfl
  have F5 := fun_mk (st := inClass (top 10) 4) l5 c5 k5
  have b5 := F5.binds (ps := ["self", "deep"]) fun _ _ _ _ _ _ us hl => match us, hl with | [_, _], _ => rfl
  have F6 := fun_mk (st := inClass (top 10) 5) l6 c6 k6
  have b6 := F6.binds (ps := ["self", "deep"]) fun _ _ _ _ _ _ us hl => match us, hl with | [_, _], _ => rfl
  have F7 := fun_mk (st := top 11) l7 c7 k7
  have b7 := F7.binds (ps := ["text"]) fun _ _ _ _ _ _ us hl => match us, hl with | [_], _ => rfl
  have F8 := fun_mk (st := top 13) l8 c8 k8
  have b8 := F8.binds (ps := ["actual", "due"]) fun _ _ _ _ _ _ us hl => match us, hl with | [_, _], _ => rfl
  have F9 := fun_mk (st := top 14) l9 c9 k9
  have b9 := F9.binds (ps := ["script"]) fun _ _ _ _ _ _ us hl => match us, hl with | [_], _ => rfl
  have F10 := fun_mk (st := top 15) l10 c10 k10
  have b10 := F10.binds (ps := ["cell"]) fun _ _ _ _ _ _ us hl => match us, hl with | [_], _ => rfl
  have F11 := fun_mk (st := top 16) l11 c11 k11
  have b11 := F11.binds (ps := ["pool", "many"]) fun _ _ _ _ _ _ us hl => match us, hl with | [_, _], _ => rfl
  have F12 := fun_mk (st := top 17) l12 c12 k12
  have b12 := F12.binds (ps := ["pool", "items"]) fun _ _ _ _ _ _ us hl => match us, hl with | [_, _], _ => rfl
  have F13 := fun_mk (st := top 18) l13 c13 k13
  have b13 := F13.binds (ps := ["pool", "text", "signs"]) fun _ _ _ _ _ _ us hl => match us, hl with | [_, _, _], _ => rfl
  have F14 := fun_mk (st := top 19) l14 c14 k14
  have b14 := F14.binds (ps := ["pool", "items"]) fun _ _ _ _ _ _ us hl => match us, hl with | [_, _], _ => rfl
  have F15 := fun_mk (st := top 20) l15 c15 k15
  have b15 := F15.binds (ps := ["sign"]) fun _ _ _ _ _ _ us hl => match us, hl with | [_], _ => rfl
  have F16 := fun_mk (st := top 21) l16 c16 k16
  have b16 := F16.binds (ps := ["token"]) fun _ _ _ _ _ _ us hl => match us, hl with | [_], _ => rfl
  have F17 := fun_mk (st := top 22) l17 c17 k17
  have b17 := F17.binds (ps := ["text", "at", "deep"]) fun _ _ _ _ _ _ us hl => match us, hl with | [_, _, _], _ => rfl
  have F18 := fun_mk (st := top 23) l18 c18 k18
  have b18 := F18.binds (ps := ["text"]) fun _ _ _ _ _ _ us hl => match us, hl with | [_], _ => rfl
  have F19 := fun_mk (st := top 24) l19 c19 k19
  have b19 := F19.binds (ps := ["pool", "deep"]) fun _ _ _ _ _ _ us hl => match us, hl with | [_, _], _ => rfl
  have F20 := fun_mk (st := top 25) l20 c20 k20
  have b20 := F20.binds (ps := ["kind"]) fun _ _ _ _ _ _ us hl => match us, hl with | [_], _ => rfl
  have F21 := fun_mk (st := top 26) l21 c21 k21
  have b21 := F21.binds (ps := ["pool", "kind"]) fun _ _ _ _ _ _ us hl => match us, hl with | [_, _], _ => rfl
  have F22 := fun_mk (st := top 27) l22 c22 k22
  have b22 := F22.binds (ps := ["number"]) fun _ _ _ _ _ _ us hl => match us, hl with | [_], _ => rfl
  have F23 := fun_mk (st := top 28) l23 c23 k23
  have b23 := F23.binds (ps := ["pool", "state", "kind", "clock", "now", "deep"]) fun _ _ _ _ _ _ us hl => match us, hl with | [_, _, _, _, _, _], _ => rfl
  have F24 := fun_mk (st := top 29) l24 c24 k24
  have b24 := F24.binds (ps := ["pool", "state", "kind", "clock", "now", "deep", "turn"]) fun _ _ _ _ _ _ us hl => match us, hl with | [_, _, _, _, _, _, _], _ => rfl
  have F25 := fun_mk (st := top 30) l25 c25 k25
  have b25 := F25.binds (ps := ["pool", "state", "kind", "clock", "now", "deep"]) fun _ _ _ _ _ _ us hl => match us, hl with | [_, _, _, _, _, _], _ => rfl
  have F26 := fun_mk (st := top 31) l26 c26 k26
  have b26 := F26.binds (ps := ["pool", "state", "kind", "clock", "now"]) fun _ _ _ _ _ _ us hl => match us, hl with | [_, _, _, _, _], _ => rfl
  have F27 := fun_mk (st := top 32) l27 c27 k27
  have b27 := F27.binds (ps := ["pool", "name", "nodes"]) fun _ _ _ _ _ _ us hl => match us, hl with | [_, _, _], _ => rfl
  have F28 := fun_mk (st := top 33) l28 c28 k28
  have b28 := F28.binds (ps := ["program"]) fun _ _ _ _ _ _ us hl => match us, hl with | [_], _ => rfl
  have F29 := fun_mk (st := top 34) l29 c29 k29
  have b29 := F29.binds (ps := ["pool", "program", "most"]) fun _ _ _ _ _ _ us hl => match us, hl with | [_, _, _], _ => rfl
  have F30 := fun_mk (st := top 35) l30 c30 k30
  have b30 := F30.binds (ps := ["pool"]) fun _ _ _ _ _ _ us hl => match us, hl with | [_], _ => rfl
  have F31 := fun_mk (st := top 36) l31 c31 k31
  have b31 := F31.binds (ps := ["text"]) fun _ _ _ _ _ _ us hl => match us, hl with | [_], _ => rfl
  have F32 := fun_mk (st := top 37) l32 c32 k32
  have b32 := F32.binds (ps := ["script"]) fun _ _ _ _ _ _ us hl => match us, hl with | [_], _ => rfl
  have hF : AllF K D l := ⟨⟨F0, b0⟩, ⟨⟨F1, b1⟩, ⟨⟨F2, b2⟩, ⟨⟨F3, b3⟩, ⟨⟨F4, b4⟩, ⟨⟨F5, b5⟩, ⟨⟨F6, b6⟩, ⟨⟨F7, b7⟩, ⟨⟨F8, b8⟩, ⟨⟨F9, b9⟩, ⟨⟨F10, b10⟩, ⟨⟨F11, b11⟩, ⟨⟨F12, b12⟩, ⟨⟨F13, b13⟩, ⟨⟨F14, b14⟩, ⟨⟨F15, b15⟩, ⟨⟨F16, b16⟩, ⟨⟨F17, b17⟩, ⟨⟨F18, b18⟩, ⟨⟨F19, b19⟩, ⟨⟨F20, b20⟩, ⟨⟨F21, b21⟩, ⟨⟨F22, b22⟩, ⟨⟨F23, b23⟩, ⟨⟨F24, b24⟩, ⟨⟨F25, b25⟩, ⟨⟨F26, b26⟩, ⟨⟨F27, b27⟩, ⟨⟨F28, b28⟩, ⟨⟨F29, b29⟩, ⟨⟨F30, b30⟩, ⟨⟨F31, b31⟩, ⟨⟨F32, b32⟩, True.intro⟩⟩⟩⟩⟩⟩⟩⟩⟩⟩⟩⟩⟩⟩⟩⟩⟩⟩⟩⟩⟩⟩⟩⟩⟩⟩⟩⟩⟩⟩⟩⟩⟩
  have hG : AllG mg (faOf l) S.fns := ⟨PySem.W.mg_of X G a0, ⟨PySem.W.mg_of X G a7, ⟨PySem.W.mg_of X G a8, ⟨PySem.W.mg_of X G a9, ⟨PySem.W.mg_of X G a10, ⟨PySem.W.mg_of X G a11, ⟨PySem.W.mg_of X G a12, ⟨PySem.W.mg_of X G a13, ⟨PySem.W.mg_of X G a14, ⟨PySem.W.mg_of X G a15, ⟨PySem.W.mg_of X G a16, ⟨PySem.W.mg_of X G a17, ⟨PySem.W.mg_of X G a18, ⟨PySem.W.mg_of X G a19, ⟨PySem.W.mg_of X G a20, ⟨PySem.W.mg_of X G a21, ⟨PySem.W.mg_of X G a22, ⟨PySem.W.mg_of X G a23, ⟨PySem.W.mg_of X G a24, ⟨PySem.W.mg_of X G a25, ⟨PySem.W.mg_of X G a26, ⟨PySem.W.mg_of X G a27, ⟨PySem.W.mg_of X G a28, ⟨PySem.W.mg_of X G a29, ⟨PySem.W.mg_of X G a30, ⟨PySem.W.mg_of X G a31, ⟨PySem.W.mg_of X G a32, True.intro⟩⟩⟩⟩⟩⟩⟩⟩⟩⟩⟩⟩⟩⟩⟩⟩⟩⟩⟩⟩⟩⟩⟩⟩⟩⟩⟩
  have hc : ConG K mg S.gcs := ⟨con_str (PySem.W.mg_of X G g_DIGITS) (by decide), ⟨con_str (PySem.W.mg_of X G g_WORD) (by decide), ⟨con_int (PySem.W.mg_of X G g_DEEPEST), ⟨con_int (PySem.W.mg_of X G g_MOST_SIGNS), ⟨con_int (PySem.W.mg_of X G g_MOST_DIGITS), True.intro⟩⟩⟩⟩⟩
  have hC : ClsG S D K mg (fun c => ([C0, X0] : List Addr).getD c 0) (faOf l) := by
    refine ⟨fun x c j m => ?_, fun m l c j h1 h2 => ?_, fun f l c h1 h2 => ?_⟩
    · simp only [S, List.mem_cons, List.not_mem_nil, or_false, Prod.mk.injEq] at m
      rcases m with ⟨rfl, rfl, rfl⟩
      · exact ⟨⟨mk0, a1, i1, kc0⟩, PySem.W.mg_of X G aC0, ⟨pg0, hd0, po0, sa0⟩⟩
    · simp only [S, List.mem_cons, List.not_mem_nil, or_false, Prod.mk.injEq] at h1
      rcases h1 with ⟨rfl, rfl⟩ | ⟨rfl, rfl⟩ | ⟨rfl, rfl⟩ | ⟨rfl, rfl⟩ | ⟨rfl, rfl⟩
      · simp only [List.mem_cons, List.not_mem_nil, or_false, Prod.mk.injEq] at h2
        rcases h2 with ⟨rfl, rfl⟩
        · exact ⟨a2, i2, k2⟩
      · simp only [List.mem_cons, List.not_mem_nil, or_false, Prod.mk.injEq] at h2
        rcases h2 with ⟨rfl, rfl⟩
        · exact ⟨a3, i3, k3⟩
      · simp only [List.mem_cons, List.not_mem_nil, or_false, Prod.mk.injEq] at h2
        rcases h2 with ⟨rfl, rfl⟩
        · exact ⟨a4, i4, k4⟩
      · simp only [List.mem_cons, List.not_mem_nil, or_false, Prod.mk.injEq] at h2
        rcases h2 with ⟨rfl, rfl⟩
        · exact ⟨a5, i5, k5⟩
      · simp only [List.mem_cons, List.not_mem_nil, or_false, Prod.mk.injEq] at h2
        rcases h2 with ⟨rfl, rfl⟩
        · exact ⟨a6, i6, k6⟩
    · simp only [S, List.mem_cons, List.not_mem_nil, or_false, Prod.mk.injEq] at h1
      rcases h1 with ⟨rfl, rfl⟩ | ⟨rfl, rfl⟩
      · simp only [List.mem_cons, List.not_mem_nil, or_false] at h2
        rcases h2 with rfl
        · exact n_text_0
      · simp only [List.mem_cons, List.not_mem_nil, or_false] at h2
        rcases h2 with rfl
        · exact n_at_0
  have hb : ∀ x ∈ bltNames, mg x = none := fun x hx => by
    simp only [bltNames, List.mem_cons, List.not_mem_nil, or_false] at hx
    rcases hx with rfl | rfl | rfl | rfl | rfl | rfl | rfl | rfl | rfl | rfl | rfl | rfl | rfl | rfl | rfl | rfl | rfl
    · exact PySem.W.mg_none_of X G z_len
    · exact PySem.W.mg_none_of X G z_str
    · exact PySem.W.mg_none_of X G z_int
    · exact PySem.W.mg_none_of X G z_abs
    · exact PySem.W.mg_none_of X G z_max
    · exact PySem.W.mg_none_of X G z_min
    · exact PySem.W.mg_none_of X G z_tuple
    · exact PySem.W.mg_none_of X G z_list
    · exact PySem.W.mg_none_of X G z_all
    · exact PySem.W.mg_none_of X G z_any
    · exact PySem.W.mg_none_of X G z_sorted
    · exact PySem.W.mg_none_of X G z_isinstance
    · exact PySem.W.mg_none_of X G z_bool
    · exact PySem.W.mg_none_of X G z_dict
    · exact PySem.W.mg_none_of X G z_range
    · exact PySem.W.mg_none_of X G z_enumerate
    · exact PySem.W.mg_none_of X G z_zip
  have hx : ∀ x c, (x, c) ∈ S.exs → ExF K mg x ((fun c => ([C0, X0] : List Addr).getD c 0) c) := fun x c m => by
    simp only [S, List.mem_cons, List.not_mem_nil, or_false, Prod.mk.injEq] at m
    rcases m with ⟨rfl, rfl⟩
    · exact ⟨⟨_, _, _, _, PySem.F.excBase_ValueError, xx0⟩, PySem.W.mg_of X G xg0, xk0, xb0, xt0⟩
  have hm : ∀ x l, (x, l) ∈ S.exm → ∃ C, mg x = some (.ref C) ∧ ∀ n b, (n, b) ∈ l → PySem.W.exmOne K (.ref ((fun c => ([C0, X0] : List Addr).getD c 0) n)) (.ref C) = some b := fun x l m => by
    simp only [S, List.mem_cons, List.not_mem_nil, or_false, Prod.mk.injEq] at m
    rcases m with ⟨rfl, rfl⟩
    · refine ⟨_, PySem.W.mg_of X G xg0, fun n b m => ?_⟩
      simp only [List.mem_cons, List.not_mem_nil, or_false, Prod.mk.injEq] at m
      obtain ⟨rfl, rfl⟩ := m
      exact exm_own xb0 xi0 xt0 xs0
  exact ⟨K, ⟨K, _⟩, faOf l, fdOf (PySem.W.fnOf "write_value" "write_value" (defArgs (top 9)) (defBody (top 9)) (defScope (top 9)) .none kV0 dc0 pm0 an0 cd0 ct0) l, X, hff, fun s u => .of_eq rfl, prog_of (by decide +kernel) hF hG hc hC hb hx hm⟩
end K13
open PySem PySem.W PyProof.Rows in
set_option maxRecDepth 100000 in
set_option maxHeartbeats 0 in
theorem PySem.Challenge.cw_streamdown_k13_faulty_texts_of_values_holds : PySem.Challenge.rw_streamdown_k13_faulty_texts_of_values.Holds := by
  w_on; o_law; k_head; (case hw => w_witness2)
  k_fill
  refine Pv.walkD (l := PySem.Challenge.rw_streamdown_k13_faulty_texts_of_values) (S := K13.S) (D := K13.D) (j := 32) (i := 650) (k := 231) (x := "script") rfl (by decide) rfl ⟨rfl, by decide, by decide⟩ (by decide) K13.law_ok ⟨_, rfl, rfl⟩ ?F
  case F =>
    intro w mg f h Y G hmg
    refine' K13.all_mk (PySem.W.kIn_of Y) G hmg ?aC0 ?a0 ?l0 ?c0 ?k0 ?a1 ?i1 ?l1 ?c1 ?k1 ?a2 ?i2 ?l2 ?c2 ?k2 ?a3 ?i3 ?l3 ?c3 ?k3 ?a4 ?i4 ?l4 ?c4 ?k4 ?a5 ?i5 ?l5 ?c5 ?k5 ?a6 ?i6 ?l6 ?c6 ?k6 ?a7 ?l7 ?c7 ?k7 ?a8 ?l8 ?c8 ?k8 ?a9 ?l9 ?c9 ?k9 ?a10 ?l10 ?c10 ?k10 ?a11 ?l11 ?c11 ?k11 ?a12 ?l12 ?c12 ?k12 ?a13 ?l13 ?c13 ?k13 ?a14 ?l14 ?c14 ?k14 ?a15 ?l15 ?c15 ?k15 ?a16 ?l16 ?c16 ?k16 ?a17 ?l17 ?c17 ?k17 ?a18 ?l18 ?c18 ?k18 ?a19 ?l19 ?c19 ?k19 ?a20 ?l20 ?c20 ?k20 ?a21 ?l21 ?c21 ?k21 ?a22 ?l22 ?c22 ?k22 ?a23 ?l23 ?c23 ?k23 ?a24 ?l24 ?c24 ?k24 ?a25 ?l25 ?c25 ?k25 ?a26 ?l26 ?c26 ?k26 ?a27 ?l27 ?c27 ?k27 ?a28 ?l28 ?c28 ?k28 ?a29 ?l29 ?c29 ?k29 ?a30 ?l30 ?c30 ?k30 ?a31 ?l31 ?c31 ?k31 ?a32 ?l32 ?c32 ?k32 ?pg0 ?hd0 ?po0 ?sa0 ?mk0 ?kc0 ?n_text_0 ?n_at_0 ?z_len ?z_str ?z_int ?z_abs ?z_max ?z_min ?z_tuple ?z_list ?z_all ?z_any ?z_sorted ?z_isinstance ?z_bool ?z_dict ?z_range ?z_enumerate ?z_zip ?g_DIGITS ?g_WORD ?g_DEEPEST ?g_MOST_SIGNS ?g_MOST_DIGITS ?xg0 ?xx0 ?xk0 ?xb0 ?xt0 ?xi0 ?xs0
    (case aC0 => k_is)
    (case a0 => k_is)
    (case l0 => k_is)
    (case c0 => k_is)
    (case k0 => k_is)
    (case a1 => k_is)
    (case i1 => k_is)
    (case l1 => k_is)
    (case c1 => k_is)
    (case k1 => k_is)
    (case a2 => k_is)
    (case i2 => k_is)
    (case l2 => k_is)
    (case c2 => k_is)
    (case k2 => k_is)
    (case a3 => k_is)
    (case i3 => k_is)
    (case l3 => k_is)
    (case c3 => k_is)
    (case k3 => k_is)
    (case a4 => k_is)
    (case i4 => k_is)
    (case l4 => k_is)
    (case c4 => k_is)
    (case k4 => k_is)
    (case a5 => k_is)
    (case i5 => k_is)
    (case l5 => k_is)
    (case c5 => k_is)
    (case k5 => k_is)
    (case a6 => k_is)
    (case i6 => k_is)
    (case l6 => k_is)
    (case c6 => k_is)
    (case k6 => k_is)
    (case a7 => k_is)
    (case l7 => k_is)
    (case c7 => k_is)
    (case k7 => k_is)
    (case a8 => k_is)
    (case l8 => k_is)
    (case c8 => k_is)
    (case k8 => k_is)
    (case a9 => k_is)
    (case l9 => k_is)
    (case c9 => k_is)
    (case k9 => k_is)
    (case a10 => k_is)
    (case l10 => k_is)
    (case c10 => k_is)
    (case k10 => k_is)
    (case a11 => k_is)
    (case l11 => k_is)
    (case c11 => k_is)
    (case k11 => k_is)
    (case a12 => k_is)
    (case l12 => k_is)
    (case c12 => k_is)
    (case k12 => k_is)
    (case a13 => k_is)
    (case l13 => k_is)
    (case c13 => k_is)
    (case k13 => k_is)
    (case a14 => k_is)
    (case l14 => k_is)
    (case c14 => k_is)
    (case k14 => k_is)
    (case a15 => k_is)
    (case l15 => k_is)
    (case c15 => k_is)
    (case k15 => k_is)
    (case a16 => k_is)
    (case l16 => k_is)
    (case c16 => k_is)
    (case k16 => k_is)
    (case a17 => k_is)
    (case l17 => k_is)
    (case c17 => k_is)
    (case k17 => k_is)
    (case a18 => k_is)
    (case l18 => k_is)
    (case c18 => k_is)
    (case k18 => k_is)
    (case a19 => k_is)
    (case l19 => k_is)
    (case c19 => k_is)
    (case k19 => k_is)
    (case a20 => k_is)
    (case l20 => k_is)
    (case c20 => k_is)
    (case k20 => k_is)
    (case a21 => k_is)
    (case l21 => k_is)
    (case c21 => k_is)
    (case k21 => k_is)
    (case a22 => k_is)
    (case l22 => k_is)
    (case c22 => k_is)
    (case k22 => k_is)
    (case a23 => k_is)
    (case l23 => k_is)
    (case c23 => k_is)
    (case k23 => k_is)
    (case a24 => k_is)
    (case l24 => k_is)
    (case c24 => k_is)
    (case k24 => k_is)
    (case a25 => k_is)
    (case l25 => k_is)
    (case c25 => k_is)
    (case k25 => k_is)
    (case a26 => k_is)
    (case l26 => k_is)
    (case c26 => k_is)
    (case k26 => k_is)
    (case a27 => k_is)
    (case l27 => k_is)
    (case c27 => k_is)
    (case k27 => k_is)
    (case a28 => k_is)
    (case l28 => k_is)
    (case c28 => k_is)
    (case k28 => k_is)
    (case a29 => k_is)
    (case l29 => k_is)
    (case c29 => k_is)
    (case k29 => k_is)
    (case a30 => k_is)
    (case l30 => k_is)
    (case c30 => k_is)
    (case k30 => k_is)
    (case a31 => k_is)
    (case l31 => k_is)
    (case c31 => k_is)
    (case k31 => k_is)
    (case a32 => k_is)
    (case l32 => k_is)
    (case c32 => k_is)
    (case k32 => k_is)
    (case pg0 => k_is)
    (case hd0 => k_is)
    (case po0 => k_is)
    (case sa0 => k_is)
    (case mk0 => k_is)
    (case kc0 => k_is)
    (case n_text_0 => k_is)
    (case n_at_0 => k_is)
    (case z_len => k_is)
    (case z_str => k_is)
    (case z_int => k_is)
    (case z_abs => k_is)
    (case z_max => k_is)
    (case z_min => k_is)
    (case z_tuple => k_is)
    (case z_list => k_is)
    (case z_all => k_is)
    (case z_any => k_is)
    (case z_sorted => k_is)
    (case z_isinstance => k_is)
    (case z_bool => k_is)
    (case z_dict => k_is)
    (case z_range => k_is)
    (case z_enumerate => k_is)
    (case z_zip => k_is)
    (case g_DIGITS => k_is)
    (case g_WORD => k_is)
    (case g_DEEPEST => k_is)
    (case g_MOST_SIGNS => k_is)
    (case g_MOST_DIGITS => k_is)
    (case xg0 => k_is)
    (case xx0 => k_exc)
    (case xk0 => k_is)
    (case xb0 => k_is)
    (case xt0 => k_is)
    (case xi0 => k_is)
    (case xs0 => first | rfl | k_is)
