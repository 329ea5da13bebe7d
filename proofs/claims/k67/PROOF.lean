import PyProof.Rows.All
import Wide.All
import OpenK.AllK
import Wide.FinOn
import HandS.ForMost
import HandS.Exc
import HandS.ExcOwn
import HandS.TryOnly
import HandS.WordsExc
import HandS.TupAny
import HandS.IsInst
import HandS.Flow
import HandS.Conv
import HandS.Small
import HandS.RaiseMore
import HandS.SortInts
import KE.GoesZip
import KE.KDictZip
import HandS.Zip
import HandS.DictComp
import HandS.HeadWalk
import HandS.Style
import KE.SortData
import KE.KDictPairs
import PyProof.ReprRoads
import HandS.HotCalls
import HandS.ExcIs
import KE.GoesMore
import KE.GoesEnum
import HandS.More
import HandS.HeadEnd
import HandS.Codes
import PySem.Challenge.RW_streamdown_k67_errors_of_the_lower_half
set_option Elab.async false
set_option linter.all false
set_option maxRecDepth 100000
/-! Pv, part A: pure values, cells, worlds; how they lie in the abstract heap. -/
namespace Pv
open PySem L2

/-- a pure value; scr: a list that is only read (the script, a written one); ref: a cell of the store -/
inductive PV where
  | non | bl (b : Bool) | int (i : Int) | str (s : List Nat)
  | tup (xs : List PV) | lst (xs : List PV) | scr (xs : List PV) | dic (ks vs : List PV) | ref (n : Nat)
  /-- an object that is not looked at, by its address -/
  | adr (a : Nat)
  deriving Inhabited

inductive Cell where
  | lst (xs : List PV) | dic (ks vs : List PV) | dlk (ks vs : List PV) | ins (c : Nat) (fs : List (List Nat × PV)) | dead
  /-- a tuple that is known to have no dict -/
  | ptp (xs : List PV)
  deriving Inhabited
abbrev Store := List Cell

/-- an exception: its class by number, its own fields (none: it has no dict) -/
structure Exc where
  c : Nat
  fs : Option (List (List Nat × PV))

inductive R (α : Type) where
  | ok (a : α) (st : Store) | ex (x : Exc) (st : Store) | stuck
@[inline] def R.bind {α β : Type} : R α → (α → Store → R β) → R β
  | .ok a st, f => f a st
  | .ex x st, _ => .ex x st
  | .stuck, _ => .stuck

/-! ### worlds -/
/-- F: what is frozen; ρ: where the cells of the store lie -/
structure Wd where
  F : Hp
  ρ : List Addr

def strV (s : List Nat) : V := .str ⟨s.toArray⟩

mutual
def Rep (K : PySem.W.Frag) (W : Wd) : PV → V → Prop
  | .non, v => v = .non
  | .bl b, v => v = .bl b
  | .int i, v => v = .int i
  | .str s, v => v = strV s ∧ s.length ≤ sizeLine
  | .tup xs, v => ∃ a vs, v = .ref a ∧ SqT K W.F a vs ∧ Reps K W xs vs
  | .lst xs, v => ∃ a vs, v = .ref a ∧ W.F a = some (.lst vs) ∧ Reps K W xs vs
  | .scr xs, v => ∃ a vs, v = .ref a ∧ SqL K W.F a vs ∧ Reps K W xs vs
  | .dic ks vs, v => ∃ a kvs, v = .ref a ∧ W.F a = some (.dK kvs) ∧ RepK ks (kvs.map (·.1)) ∧ Reps K W vs (kvs.map (·.2))
  | .ref n, v => ∃ a, W.ρ[n]? = some a ∧ v = .ref a
  | .adr a, v => v = .ref a
def Reps (K : PySem.W.Frag) (W : Wd) : List PV → List V → Prop
  | [], vs => vs = []
  | x :: xs, vs => ∃ v r, vs = v :: r ∧ Rep K W x v ∧ Reps K W xs r
def RepK : List PV → List Key → Prop
  | [], ks => ks = []
  | x :: xs, ks => ∃ k r, ks = k :: r ∧ RepK1 x k ∧ RepK xs r
def RepK1 : PV → Key → Prop
  | .int i, k => k = .inl i
  | .str s, k => k = .inr ⟨s.toArray⟩ ∧ s.length ≤ sizeLine
  | _, _ => False
end

/-- what was frozen stays, cells keep their places -/
structure Wd.Le (W W' : Wd) : Prop where
  F : ∀ a o, W.F a = some o → W'.F a = some o
  ρ : ∀ (n : Nat) (a : Addr), W.ρ[n]? = some a → W'.ρ[n]? = some a
theorem Wd.Le.refl (W : Wd) : W.Le W := ⟨fun _ _ h => h, fun _ _ h => h⟩
theorem Wd.Le.trans {W1 W2 W3 : Wd} (a : W1.Le W2) (b : W2.Le W3) : W1.Le W3 := ⟨fun x o h => b.F x o (a.F x o h), fun n x h => b.ρ n x (a.ρ n x h)⟩

theorem SqT.up {K : PySem.W.Frag} {H H' : Hp} {a : Addr} {xs : List V} (h : SqT K H a xs) (k : ∀ a o, H a = some o → H' a = some o) : SqT K H' a xs := by
  rcases h with (h | ⟨o, h⟩) | h
  · exact .inl (.inl (k _ _ h))
  · exact .inl (.inr ⟨o, k _ _ h⟩)
  · exact .inr h
theorem SqL.up {K : PySem.W.Frag} {H H' : Hp} {a : Addr} {xs : List V} (h : SqL K H a xs) (k : ∀ a o, H a = some o → H' a = some o) : SqL K H' a xs := by
  rcases h with (h | ⟨o, h⟩) | h
  · exact .inl (.inl (k _ _ h))
  · exact .inl (.inr ⟨o, k _ _ h⟩)
  · exact .inr h

mutual
theorem Rep.up {K : PySem.W.Frag} {W W' : Wd} (l : W.Le W') : ∀ {p : PV} {v : V}, Rep K W p v → Rep K W' p v
  | .non, _, h => h
  | .bl _, _, h => h
  | .int _, _, h => h
  | .str _, _, h => h
  | .tup xs, _, ⟨a, vs, e, s, r⟩ => ⟨a, vs, e, SqT.up s l.F, Reps.up l r⟩
  | .lst xs, _, ⟨a, vs, e, s, r⟩ => ⟨a, vs, e, l.F _ _ s, Reps.up l r⟩
  | .scr xs, _, ⟨a, vs, e, s, r⟩ => ⟨a, vs, e, SqL.up s l.F, Reps.up l r⟩
  | .dic ks vs, _, ⟨a, kvs, e, s, k, r⟩ => ⟨a, kvs, e, l.F _ _ s, k, Reps.up l r⟩
  | .ref n, _, ⟨a, e, h⟩ => ⟨a, l.ρ _ _ e, h⟩
  | .adr _, _, h => h
theorem Reps.up {K : PySem.W.Frag} {W W' : Wd} (l : W.Le W') : ∀ {ps : List PV} {vs : List V}, Reps K W ps vs → Reps K W' ps vs
  | [], _, h => h
  | _ :: _, _, ⟨v, r, e, h, t⟩ => ⟨v, r, e, Rep.up l h, Reps.up l t⟩
end

section
variable {K : PySem.W.Frag} {W : Wd}
theorem Reps.length : ∀ {ps : List PV} {vs : List V}, Reps K W ps vs → vs.length = ps.length
  | [], _, h => by cases h; rfl
  | _ :: _, _, ⟨v, r, e, _, t⟩ => by subst e; simp [Reps.length t]
theorem Reps.get : ∀ {ps : List PV} {vs : List V} {i : Nat} {p : PV}, Reps K W ps vs → ps[i]? = some p → ∃ v, vs[i]? = some v ∧ Rep K W p v
  | [], _, _, _, _, e => by simp at e
  | _ :: _, _, 0, _, ⟨v, r, e, h, _⟩, q => by subst e; simp at q; subst q; exact ⟨v, rfl, h⟩
  | _ :: _, _, i + 1, _, ⟨v, r, e, _, t⟩, q => by
    subst e
    obtain ⟨w, a, b⟩ := Reps.get (i := i) t (by simpa using q)
    exact ⟨w, by simpa using a, b⟩
theorem Reps.app : ∀ {ps qs : List PV} {vs us : List V}, Reps K W ps vs → Reps K W qs us → Reps K W (ps ++ qs) (vs ++ us)
  | [], _, _, _, h, s => by cases h; exact s
  | _ :: _, _, _, _, ⟨v, r, e, h, t⟩, s => by subst e; exact ⟨v, _, rfl, h, Reps.app t s⟩
theorem Reps.one {p : PV} {v : V} (h : Rep K W p v) : Reps K W [p] [v] := ⟨v, [], rfl, h, rfl⟩
theorem Reps.set : ∀ {ps : List PV} {vs : List V} {p : PV} {v : V} (i : Nat), Reps K W ps vs → Rep K W p v → Reps K W (ps.set i p) (vs.set i v)
  | [], _, _, _, _, h, _ => by cases h; rfl
  | _ :: _, _, _, _, 0, ⟨v, r, e, _, t⟩, q => by subst e; exact ⟨_, _, rfl, q, t⟩
  | _ :: _, _, _, _, i + 1, ⟨v, r, e, h, t⟩, q => by subst e; exact ⟨_, _, rfl, h, Reps.set i t q⟩
theorem Reps.take : ∀ {ps : List PV} {vs : List V} (n : Nat), Reps K W ps vs → Reps K W (ps.take n) (vs.take n)
  | _, _, 0, _ => by simp [Reps]
  | [], _, _ + 1, h => by cases h; simp [Reps]
  | _ :: _, _, n + 1, ⟨v, r, e, h, t⟩ => by subst e; exact ⟨_, _, rfl, h, Reps.take n t⟩
theorem Reps.drop : ∀ {ps : List PV} {vs : List V} (n : Nat), Reps K W ps vs → Reps K W (ps.drop n) (vs.drop n)
  | _, _, 0, h => h
  | [], _, _ + 1, h => by cases h; simp [Reps]
  | _ :: _, _, n + 1, ⟨v, r, e, _, t⟩ => by subst e; exact Reps.drop n t
theorem Reps.erase : ∀ {ps : List PV} {vs : List V} (i : Nat), Reps K W ps vs → Reps K W (ps.eraseIdx i) (vs.eraseIdx i)
  | [], _, _, h => by cases h; simp [Reps]
  | _ :: _, _, 0, ⟨v, r, e, _, t⟩ => by subst e; exact t
  | _ :: _, _, i + 1, ⟨v, r, e, h, t⟩ => by subst e; exact ⟨_, _, rfl, h, Reps.erase i t⟩
theorem Reps.all_get : ∀ {ps : List PV} {vs : List V}, ps.length = vs.length → (∀ (i : Nat) p v, ps[i]? = some p → vs[i]? = some v → Rep K W p v) → Reps K W ps vs
  | [], [], _, _ => rfl
  | [], _ :: _, h, _ => by simp at h
  | _ :: _, [], h, _ => by simp at h
  | p :: ps, v :: vs, h, k => ⟨v, vs, rfl, k 0 p v rfl rfl, Reps.all_get (by simpa using h) fun i q u a b => k (i + 1) q u (by simpa using a) (by simpa using b)⟩
theorem Reps.nil_iff {vs : List V} : Reps K W [] vs ↔ vs = [] := Iff.rfl
theorem RepK.length : ∀ {ps : List PV} {ks : List Key}, RepK ps ks → ks.length = ps.length
  | [], _, h => by cases h; rfl
  | _ :: _, _, ⟨v, r, e, _, t⟩ => by subst e; simp [RepK.length t]
end

/-! ### cells -/
/-- a name by its signs -/
def nmS (l : List Nat) : Str := ⟨l.toArray⟩
theorem nmS_inj {a b : List Nat} (h : nmS a = nmS b) : a = b := by
  unfold nmS at h
  injection h with h
  simpa using h
/-- the fields of an instance -/
def RepF (K : PySem.W.Frag) (W : Wd) : List (List Nat × PV) → List (Str × V) → Prop
  | [], fs => fs = []
  | (f, p) :: r, fs => ∃ v r', fs = (nmS f, v) :: r' ∧ Rep K W p v ∧ RepF K W r r'
theorem RepF.up {K : PySem.W.Frag} {W W' : Wd} (l : W.Le W') : ∀ {fs : List (List Nat × PV)} {us : List (Str × V)}, RepF K W fs us → RepF K W' fs us
  | [], _, h => h
  | (_, _) :: _, _, ⟨v, r, e, h, t⟩ => ⟨v, r, e, Rep.up l h, RepF.up l t⟩

/-- what the evaluator knows of the text: the written part, the classes' addresses -/
structure Txt where
  K : PySem.W.Frag
  cl : Nat → Addr

def CellAt (T : Txt) (W : Wd) (H : Hp) (a : Addr) : Cell → Prop
  | .lst xs => ∃ vs, H a = some (.lst vs) ∧ Reps T.K W xs vs
  | .dic ks vs => ∃ kvs, H a = some (.dK kvs) ∧ RepK ks (kvs.map (·.1)) ∧ Reps T.K W vs (kvs.map (·.2))
  | .dlk ks vs => ∃ ob kvs, W.F a = some (.frz ob (.dK kvs)) ∧ RepK ks (kvs.map (·.1)) ∧ Reps T.K W vs (kvs.map (·.2))
  | .ins c fs => ∃ dx us, H a = some (.ins (T.cl c) dx us) ∧ RepF T.K W fs us ∧ Cls T.K (T.cl c) ∧ ∀ f ∈ fs, NoAttr T.K (T.cl c) (nmS f.1)
  | .dead => True
  | .ptp xs => ∃ ob vs, W.F a = some (.frz ob (.tup vs)) ∧ ob.dict = none ∧ Reps T.K W xs vs
def live : Cell → Bool
  | .dead => false
  | .ptp _ => false
  | .dlk _ _ => false
  | _ => true
theorem CellAt.up {T : Txt} {W W' : Wd} {H H' : Hp} {a : Addr} (l : W.Le W') (e : H' a = H a) : ∀ {c : Cell}, CellAt T W H a c → CellAt T W' H' a c
  | .lst _, ⟨vs, h, r⟩ => ⟨vs, e.trans h, Reps.up l r⟩
  | .dic _ _, ⟨kvs, h, k, r⟩ => ⟨kvs, e.trans h, k, Reps.up l r⟩
  | .dlk _ _, ⟨ob, kvs, h, k, r⟩ => ⟨ob, kvs, l.F _ _ h, k, Reps.up l r⟩
  | .ins _ _, ⟨dx, us, h, r, k⟩ => ⟨dx, us, e.trans h, RepF.up l r, k⟩
  | .dead, _ => True.intro
  | .ptp _, ⟨ob, vs, h, d, r⟩ => ⟨ob, vs, l.F _ _ h, d, Reps.up l r⟩
theorem CellAt.here {T : Txt} {W : Wd} {H : Hp} {a : Addr} : ∀ {c : Cell}, CellAt T W H a c → live c = true → H a ≠ none
  | .lst _, ⟨vs, h, r⟩, _ => by rw [h]; simp
  | .dic _ _, ⟨kvs, h, k, r⟩, _ => by rw [h]; simp
  | .ins _ _, ⟨dx, us, h, r⟩, _ => by rw [h]; simp
  | .dlk _ _, _, h => by cases h
  | .dead, _, h => by cases h
  | .ptp _, _, h => by cases h

structure Sim (T : Txt) (W : Wd) (st : Store) (H : Hp) : Prop where
  sub : ∀ a o, W.F a = some o → H a = some o
  nd : W.ρ.Nodup
  len : W.ρ.length = st.length
  dom : ∀ a ∈ W.ρ, H a ≠ none
  cell : ∀ (n : Nat) a c, W.ρ[n]? = some a → st[n]? = some c → CellAt T W H a c
  off : ∀ (n : Nat) a c, W.ρ[n]? = some a → st[n]? = some c → live c = true → W.F a = none

/-- from one world and heap to a later one: what is loose (neither frozen nor a cell) stays as it is, and loose -/
structure Go (W : Wd) (H : Hp) (W' : Wd) (H' : Hp) : Prop where
  le : W.Le W'
  keep : ∀ a o, H a = some o → W.F a = none → a ∉ W.ρ → H' a = some o ∧ W'.F a = none ∧ a ∉ W'.ρ
theorem Go.refl (W : Wd) (H : Hp) : Go W H W H := ⟨.refl W, fun _ _ h1 h2 h3 => ⟨h1, h2, h3⟩⟩
theorem Go.trans {W1 W2 W3 : Wd} {H1 H2 H3 : Hp} (a : Go W1 H1 W2 H2) (b : Go W2 H2 W3 H3) : Go W1 H1 W3 H3 :=
  ⟨a.le.trans b.le, fun x o h1 h2 h3 => let ⟨k1, k2, k3⟩ := a.keep x o h1 h2 h3; b.keep x o k1 k2 k3⟩

theorem nodup_at {α : Type} : ∀ {l : List α} {i j : Nat} {x : α}, l.Nodup → l[i]? = some x → l[j]? = some x → i = j
  | [], _, _, _, _, h, _ => by simp at h
  | y :: r, 0, 0, _, _, _, _ => rfl
  | y :: r, 0, j + 1, x, nd, h, k => by
    have h : y = x := by simpa using h
    subst h
    exact absurd (List.mem_of_getElem? (i := j) (by simpa using k)) (List.nodup_cons.mp nd).1
  | y :: r, i + 1, 0, x, nd, h, k => by
    have k : y = x := by simpa using k
    subst k
    exact absurd (List.mem_of_getElem? (i := i) (by simpa using h)) (List.nodup_cons.mp nd).1
  | y :: r, i + 1, j + 1, x, nd, h, k => congrArg (· + 1) (nodup_at (List.nodup_cons.mp nd).2 (by simpa using h) (by simpa using k))

section
variable {T : Txt} {W : Wd} {st : Store} {H : Hp} {p a : Addr} {o : HO} {c : Cell} {n : Nat}
theorem Sim.fresh (S : Sim T W st H) (h : H p = none) : W.F p = none := by
  cases e : W.F p with
  | none => rfl
  | some o => rw [S.sub p o e] at h; cases h
theorem Sim.at (S : Sim T W st H) (h : st[n]? = some c) : ∃ a, W.ρ[n]? = some a := by
  obtain ⟨hn, _⟩ := List.getElem?_eq_some_iff.mp h
  exact ⟨W.ρ[n]'(by rw [S.len]; exact hn), List.getElem?_eq_getElem _⟩
/-- a new object, frozen -/
theorem Sim.laid (S : Sim T W st H) (h : H p = none) (o : HO) : Go W H ⟨upd W.F p o, W.ρ⟩ (upd H p o) ∧ Sim T ⟨upd W.F p o, W.ρ⟩ st (upd H p o) := by
  have l : Wd.Le W ⟨upd W.F p o, W.ρ⟩ := ⟨fun b u e => by
    have : b ≠ p := fun q => by subst q; rw [S.fresh h] at e; cases e
    show upd W.F p o b = some u
    rw [upd_ne this]; exact e, fun _ _ e => e⟩
  have ne : ∀ b ∈ W.ρ, b ≠ p := fun b hb q => S.dom b hb (by rw [q]; exact h)
  refine ⟨⟨l, fun b u e1 e2 e3 => ?_⟩, ⟨fun b u e => ?_, S.nd, S.len, fun b hb => by rw [upd_ne (ne b hb)]; exact S.dom b hb, fun m b c' e1 e2 => ?_, fun m b c' e1 e2 e3 => ?_⟩⟩
  · have nb : b ≠ p := fun q => by subst q; rw [h] at e1; cases e1
    exact ⟨(upd_ne nb).trans e1, (upd_ne nb).trans e2, e3⟩
  · have e : upd W.F p o b = some u := e
    by_cases q : b = p
    · subst q; rw [upd_same] at e ⊢; exact e
    · rw [upd_ne q] at e ⊢; exact S.sub b u e
  · exact (S.cell m b c' e1 e2).up l (upd_ne (ne b (List.mem_of_getElem? e1)))
  · show upd W.F p o b = none
    rw [upd_ne (ne b (List.mem_of_getElem? e1))]; exact S.off m b c' e1 e2 e3
/-- a new object that no value names (an instance's own dict) -/
theorem Sim.loose (S : Sim T W st H) (h : H p = none) (o : HO) : Go W H W (upd H p o) ∧ Sim T W st (upd H p o) := by
  have ne : ∀ b ∈ W.ρ, b ≠ p := fun b hb q => S.dom b hb (by rw [q]; exact h)
  refine ⟨⟨.refl W, fun b u e1 e2 e3 => ⟨(upd_ne fun q => by subst q; rw [h] at e1; cases e1).trans e1, e2, e3⟩⟩, fun b u e => ?_, S.nd, S.len, fun b hb => by rw [upd_ne (ne b hb)]; exact S.dom b hb, fun m b c' e1 e2 => (S.cell m b c' e1 e2).up (.refl _) (upd_ne (ne b (List.mem_of_getElem? e1))), S.off⟩
  have : b ≠ p := fun q => by subst q; rw [S.fresh h] at e; cases e
  rw [upd_ne this]; exact S.sub b u e
/-- a loose object changes -/
theorem Sim.loosen (S : Sim T W st H) (hF : W.F p = none) (hr : p ∉ W.ρ) (o : HO) : Sim T W st (upd H p o) := by
  have ne : ∀ b ∈ W.ρ, b ≠ p := fun b hb q => hr (by rw [← q]; exact hb)
  refine ⟨fun b u e => ?_, S.nd, S.len, fun b hb => by rw [upd_ne (ne b hb)]; exact S.dom b hb, fun m b c' e1 e2 => (S.cell m b c' e1 e2).up (.refl _) (upd_ne (ne b (List.mem_of_getElem? e1))), S.off⟩
  have : b ≠ p := fun q => by subst q; rw [hF] at e; cases e
  rw [upd_ne this]; exact S.sub b u e
/-- a loose object is frozen; becomes a cell -/
theorem Sim.adopt (S : Sim T W st H) (hF : W.F p = none) (hr : p ∉ W.ρ) (ho : H p = some o) : Wd.Le W ⟨upd W.F p o, W.ρ⟩ ∧ Sim T ⟨upd W.F p o, W.ρ⟩ st H := by
  have ne : ∀ b ∈ W.ρ, b ≠ p := fun b hb q => hr (by rw [← q]; exact hb)
  have l : Wd.Le W ⟨upd W.F p o, W.ρ⟩ := ⟨fun b u e => by
    have : b ≠ p := fun q => by subst q; rw [hF] at e; cases e
    show upd W.F p o b = some u
    rw [upd_ne this]; exact e, fun _ _ e => e⟩
  refine ⟨l, ⟨fun b u e => ?_, S.nd, S.len, S.dom, fun m b c' e1 e2 => (S.cell m b c' e1 e2).up l rfl, fun m b c' e1 e2 e3 => ?_⟩⟩
  · have e : upd W.F p o b = some u := e
    by_cases q : b = p
    · subst q; rw [upd_same] at e; cases e; exact ho
    · rw [upd_ne q] at e; exact S.sub b u e
  · show upd W.F p o b = none
    rw [upd_ne (ne b (List.mem_of_getElem? e1))]; exact S.off m b c' e1 e2 e3
theorem Sim.adoptB (S : Sim T W st H) (hF : W.F p = none) (hr : p ∉ W.ρ) (ho : H p ≠ none) (hc : CellAt T W H p c) : Wd.Le W ⟨W.F, W.ρ ++ [p]⟩ ∧ Sim T ⟨W.F, W.ρ ++ [p]⟩ (st ++ [c]) H ∧ (W.ρ ++ [p])[st.length]? = some p := by
  have ne : ∀ b ∈ W.ρ, b ≠ p := fun b hb q => hr (by rw [← q]; exact hb)
  have l : Wd.Le W ⟨W.F, W.ρ ++ [p]⟩ := ⟨fun _ _ e => e, fun m b e => by
    show (W.ρ ++ [p])[m]? = some b
    rw [List.getElem?_append_left (List.getElem?_eq_some_iff.mp e).1]; exact e⟩
  have last : (W.ρ ++ [p])[st.length]? = some p := by rw [← S.len]; simp
  have cut : ∀ {m : Nat} {b : Addr} {c' : Cell}, (W.ρ ++ [p])[m]? = some b → (st ++ [c])[m]? = some c' → (W.ρ[m]? = some b ∧ st[m]? = some c') ∨ (b = p ∧ c' = c) := fun {m b c'} e1 e2 => by
    rcases Nat.lt_trichotomy m st.length with q | q | q
    · rw [List.getElem?_append_left (by rw [S.len]; exact q)] at e1
      rw [List.getElem?_append_left q] at e2
      exact .inl ⟨e1, e2⟩
    · subst q
      rw [last] at e1; cases e1
      exact .inr ⟨rfl, by simpa using e2.symm⟩
    · rw [List.getElem?_eq_none (by simp; omega)] at e2; cases e2
  refine ⟨l, ⟨S.sub, ?_, by simp [S.len], fun b hb => ?_, fun m b c' e1 e2 => ?_, fun m b c' e1 e2 e3 => ?_⟩, last⟩
  · show (W.ρ ++ [p]).Nodup
    rw [List.nodup_append]
    exact ⟨S.nd, by simp, fun x hx y hy => by have : y = p := by simpa using hy
                                              rw [this]; exact ne x hx⟩
  · rcases List.mem_append.mp hb with hb | hb
    · exact S.dom b hb
    · have : b = p := by simpa using hb
      rw [this]; exact ho
  · rcases cut e1 e2 with ⟨k1, k2⟩ | ⟨rfl, rfl⟩
    · exact (S.cell m b c' k1 k2).up l rfl
    · exact hc.up l rfl
  · rcases cut e1 e2 with ⟨k1, k2⟩ | ⟨rfl, rfl⟩
    · exact S.off m b c' k1 k2 e3
    · exact hF
/-- a new object, a cell -/
theorem Sim.boxed (S : Sim T W st H) (h : H p = none) (o : HO) (hc : CellAt T W (upd H p o) p c) :
    Go W H ⟨W.F, W.ρ ++ [p]⟩ (upd H p o) ∧ Sim T ⟨W.F, W.ρ ++ [p]⟩ (st ++ [c]) (upd H p o) ∧ (W.ρ ++ [p])[st.length]? = some p := by
  have np : p ∉ W.ρ := fun hb => S.dom p hb h
  have ne : ∀ b ∈ W.ρ, b ≠ p := fun b hb q => np (by rw [← q]; exact hb)
  have l : Wd.Le W ⟨W.F, W.ρ ++ [p]⟩ := ⟨fun _ _ e => e, fun m b e => by
    show (W.ρ ++ [p])[m]? = some b
    rw [List.getElem?_append_left (List.getElem?_eq_some_iff.mp e).1]; exact e⟩
  have last : (W.ρ ++ [p])[st.length]? = some p := by rw [← S.len]; simp
  refine ⟨⟨l, fun b u e1 e2 e3 => ?_⟩, ⟨fun b u e => ?_, ?_, by simp [S.len], fun b hb => ?_, fun m b c' e1 e2 => ?_, fun m b c' e1 e2 e3 => ?_⟩, last⟩
  · have nb : b ≠ p := fun q => by subst q; rw [h] at e1; cases e1
    exact ⟨(upd_ne nb).trans e1, e2, by rw [List.mem_append]; exact fun z => z.elim e3 fun z => nb (by simpa using z)⟩
  · have : b ≠ p := fun q => by subst q; rw [S.fresh h] at e; cases e
    rw [upd_ne this]; exact S.sub b u e
  · show (W.ρ ++ [p]).Nodup
    rw [List.nodup_append]
    exact ⟨S.nd, by simp, fun x hx y hy => by have : y = p := by simpa using hy
                                              rw [this]; exact ne x hx⟩
  · rcases List.mem_append.mp hb with hb | hb
    · rw [upd_ne (ne b hb)]; exact S.dom b hb
    · have : b = p := by simpa using hb
      rw [this, upd_same]; simp
  · have e1 : (W.ρ ++ [p])[m]? = some b := e1
    rcases Nat.lt_trichotomy m st.length with q | q | q
    · rw [List.getElem?_append_left (by rw [S.len]; exact q)] at e1
      rw [List.getElem?_append_left q] at e2
      exact (S.cell m b c' e1 e2).up l (upd_ne (ne b (List.mem_of_getElem? e1)))
    · subst q
      rw [last] at e1; cases e1
      have : c' = c := by simpa using e2.symm
      subst this
      exact hc.up l rfl
    · rw [List.getElem?_eq_none (by simp; omega)] at e2; cases e2
  · have e1 : (W.ρ ++ [p])[m]? = some b := e1
    rcases Nat.lt_trichotomy m st.length with q | q | q
    · rw [List.getElem?_append_left (by rw [S.len]; exact q)] at e1
      rw [List.getElem?_append_left q] at e2
      exact S.off m b c' e1 e2 e3
    · subst q
      rw [last] at e1; cases e1
      exact S.fresh h
    · rw [List.getElem?_eq_none (by simp; omega)] at e2; cases e2
theorem Sim.other (S : Sim T W st H) {m n : Nat} {a b : Addr} (h1 : W.ρ[m]? = some a) (h2 : W.ρ[n]? = some b) (h : m ≠ n) : a ≠ b := fun q => by
  subst q
  exact h (nodup_at S.nd h1 h2)
/-- a cell is written -/
theorem Sim.write (S : Sim T W st H) {c' : Cell} (hr : W.ρ[n]? = some a) (hc : st[n]? = some c) (hl : live c = true) (o : HO) (h : CellAt T W (upd H a o) a c') : Go W H W (upd H a o) ∧ Sim T W (st.set n c') (upd H a o) := by
  have hn : n < st.length := (List.getElem?_eq_some_iff.mp hc).1
  refine ⟨⟨.refl W, fun b u e1 e2 e3 => ⟨(upd_ne fun q => e3 (by rw [q]; exact List.mem_of_getElem? hr)).trans e1, e2, e3⟩⟩, fun b u e => ?_, S.nd, by simp [S.len], fun b hb => ?_, fun m b c2 e1 e2 => ?_, fun m b c2 e1 e2 e3 => ?_⟩
  · have : b ≠ a := fun q => by subst q; rw [S.off n b c hr hc hl] at e; cases e
    rw [upd_ne this]; exact S.sub b u e
  · by_cases q : b = a
    · rw [q, upd_same]; simp
    · rw [upd_ne q]; exact S.dom b hb
  · by_cases q : m = n
    · subst q
      rw [hr] at e1; cases e1
      rw [List.getElem?_set_self hn] at e2; cases e2
      exact h
    · rw [List.getElem?_set_ne (Ne.symm q)] at e2
      exact (S.cell m b c2 e1 e2).up (.refl _) (upd_ne (S.other e1 hr q))
  · by_cases q : m = n
    · subst q
      rw [hr] at e1; cases e1
      exact S.off m a c hr hc hl
    · rw [List.getElem?_set_ne (Ne.symm q)] at e2
      exact S.off m b c2 e1 e2 e3
/-- a cell's object is frozen: the cell is dead -/
theorem Sim.froze (S : Sim T W st H) (hr : W.ρ[n]? = some a) (hc : st[n]? = some c) (hl : live c = true) (ho : H a = some o) :
    Go W H ⟨upd W.F a o, W.ρ⟩ H ∧ Sim T ⟨upd W.F a o, W.ρ⟩ (st.set n .dead) H := by
  have hn : n < st.length := (List.getElem?_eq_some_iff.mp hc).1
  have l : Wd.Le W ⟨upd W.F a o, W.ρ⟩ := ⟨fun b u e => by
    have : b ≠ a := fun q => by subst q; rw [S.off n b c hr hc hl] at e; cases e
    show upd W.F a o b = some u
    rw [upd_ne this]; exact e, fun _ _ e => e⟩
  refine ⟨⟨l, fun b u e1 e2 e3 => ⟨e1, (upd_ne fun q => e3 (by rw [q]; exact List.mem_of_getElem? hr)).trans e2, e3⟩⟩, ⟨fun b u e => ?_, S.nd, by simp [S.len], S.dom, fun m b c2 e1 e2 => ?_, fun m b c2 e1 e2 e3 => ?_⟩⟩
  · have e : upd W.F a o b = some u := e
    by_cases q : b = a
    · subst q; rw [upd_same] at e; cases e; exact ho
    · rw [upd_ne q] at e; exact S.sub b u e
  · by_cases q : m = n
    · subst q
      rw [List.getElem?_set_self hn] at e2; cases e2
      exact True.intro
    · rw [List.getElem?_set_ne (Ne.symm q)] at e2
      exact (S.cell m b c2 e1 e2).up l rfl
  · by_cases q : m = n
    · subst q
      rw [List.getElem?_set_self hn] at e2; cases e2
      cases e3
    · rw [List.getElem?_set_ne (Ne.symm q)] at e2
      show upd W.F a o b = none
      rw [upd_ne (S.other e1 hr q)]; exact S.off m b c2 e1 e2 e3
end

/-! ### a dict that is walked -/
def dropF (F : Hp) (d : Addr) : Hp := fun b => if b = d then none else F b
theorem dropF_ne {F : Hp} {a d : Addr} {o u : HO} (hd : F d = some u) (h : F a = some o) (n : o ≠ u) : dropF F d a = some o := by
  have : a ≠ d := fun q => by subst q; rw [hd] at h; exact n (Option.some.inj h).symm
  unfold dropF; rw [if_neg this]; exact h
theorem SqT.unlock {K : PySem.W.Frag} {F : Hp} {d a : Addr} {ob : Obj} {kvs : List (Key × V)} {vs : List V} (hd : F d = some (.frz ob (.dK kvs))) (s : SqT K F a vs) : SqT K (dropF F d) a vs := by
  rcases s with (s | ⟨o, s⟩) | s
  · exact .inl (.inl (dropF_ne hd s fun z => by cases z))
  · exact .inl (.inr ⟨o, dropF_ne hd s fun z => by injection z with _ z; cases z⟩)
  · exact .inr s
theorem SqL.unlock {K : PySem.W.Frag} {F : Hp} {d a : Addr} {ob : Obj} {kvs : List (Key × V)} {vs : List V} (hd : F d = some (.frz ob (.dK kvs))) (s : SqL K F a vs) : SqL K (dropF F d) a vs := by
  rcases s with (s | ⟨o, s⟩) | s
  · exact .inl (.inl (dropF_ne hd s fun z => by cases z))
  · exact .inl (.inr ⟨o, dropF_ne hd s fun z => by injection z with _ z; cases z⟩)
  · exact .inr s
theorem dropF_lst {F : Hp} {d a : Addr} {ob : Obj} {kvs : List (Key × V)} {vs : List V} (hd : F d = some (.frz ob (.dK kvs))) (s : F a = some (.lst vs)) : dropF F d a = some (.lst vs) := dropF_ne hd s fun z => by cases z
theorem dropF_dK {F : Hp} {d a : Addr} {ob : Obj} {kvs us : List (Key × V)} (hd : F d = some (.frz ob (.dK kvs))) (s : F a = some (.dK us)) : dropF F d a = some (.dK us) := dropF_ne hd s fun z => by cases z
mutual
theorem Rep.unlock {K : PySem.W.Frag} {W : Wd} {d : Addr} {ob : Obj} {kvs : List (Key × V)} (hd : W.F d = some (.frz ob (.dK kvs))) : ∀ {p : PV} {v : V}, Rep K W p v → Rep K ⟨dropF W.F d, W.ρ⟩ p v
  | .non, _, h => h
  | .bl _, _, h => h
  | .int _, _, h => h
  | .str _, _, h => h
  | .tup xs, _, ⟨a, vs, e, s, r⟩ => ⟨a, vs, e, SqT.unlock hd s, Reps.unlock hd r⟩
  | .lst xs, _, ⟨a, vs, e, s, r⟩ => ⟨a, vs, e, dropF_lst hd s, Reps.unlock hd r⟩
  | .scr xs, _, ⟨a, vs, e, s, r⟩ => ⟨a, vs, e, SqL.unlock hd s, Reps.unlock hd r⟩
  | .dic ks vs, _, ⟨a, us, e, s, k, r⟩ => ⟨a, us, e, dropF_dK hd s, k, Reps.unlock hd r⟩
  | .ref n, _, h => h
  | .adr _, _, h => h
theorem Reps.unlock {K : PySem.W.Frag} {W : Wd} {d : Addr} {ob : Obj} {kvs : List (Key × V)} (hd : W.F d = some (.frz ob (.dK kvs))) : ∀ {ps : List PV} {vs : List V}, Reps K W ps vs → Reps K ⟨dropF W.F d, W.ρ⟩ ps vs
  | [], _, h => h
  | _ :: _, _, ⟨v, r, e, h, t⟩ => ⟨v, r, e, Rep.unlock hd h, Reps.unlock hd t⟩
end
theorem RepF.unlock {K : PySem.W.Frag} {W : Wd} {d : Addr} {ob : Obj} {kvs : List (Key × V)} (hd : W.F d = some (.frz ob (.dK kvs))) : ∀ {fs : List (List Nat × PV)} {us : List (Str × V)}, RepF K W fs us → RepF K ⟨dropF W.F d, W.ρ⟩ fs us
  | [], _, h => h
  | (_, _) :: _, _, ⟨v, r, e, h, t⟩ => ⟨v, r, e, Rep.unlock hd h, RepF.unlock hd t⟩
section
variable {T : Txt} {W : Wd} {st : Store} {H : Hp} {d : Addr} {n : Nat} {ks vs : List PV}
theorem Sim.lock (S : Sim T W st H) (hr : W.ρ[n]? = some d) (hc : st[n]? = some (.dic ks vs)) : ∃ kvs, H d = some (.dK kvs) ∧ RepK ks (kvs.map (·.1)) ∧ Reps T.K W vs (kvs.map (·.2)) ∧
    ∀ ob, Go W H ⟨upd W.F d (.frz ob (.dK kvs)), W.ρ⟩ (upd H d (.frz ob (.dK kvs))) ∧ Sim T ⟨upd W.F d (.frz ob (.dK kvs)), W.ρ⟩ (st.set n (.dlk ks vs)) (upd H d (.frz ob (.dK kvs))) := by
  obtain ⟨kvs, f, rk, rs⟩ := S.cell n d _ hr hc
  have hn : n < st.length := (List.getElem?_eq_some_iff.mp hc).1
  have hF : W.F d = none := S.off n d _ hr hc rfl
  refine ⟨kvs, f, rk, rs, fun ob => ?_⟩
  have l : Wd.Le W ⟨upd W.F d (.frz ob (.dK kvs)), W.ρ⟩ := ⟨fun b u e => by
    have : b ≠ d := fun q => by subst q; rw [hF] at e; cases e
    show upd W.F d _ b = some u
    rw [upd_ne this]; exact e, fun _ _ e => e⟩
  refine ⟨⟨l, fun b u e1 e2 e3 => ?_⟩, ⟨fun b u e => ?_, S.nd, by simp [S.len], fun b hb => ?_, fun m b c2 e1 e2 => ?_, fun m b c2 e1 e2 e3 => ?_⟩⟩
  · have : b ≠ d := fun q => e3 (by rw [q]; exact List.mem_of_getElem? hr)
    exact ⟨(upd_ne this).trans e1, (upd_ne this).trans e2, e3⟩
  · have e : upd W.F d (.frz ob (.dK kvs)) b = some u := e
    by_cases q : b = d
    · subst q; rw [upd_same] at e ⊢; exact e
    · rw [upd_ne q] at e ⊢; exact S.sub b u e
  · by_cases q : b = d
    · rw [q, upd_same]; simp
    · rw [upd_ne q]; exact S.dom b hb
  · by_cases q : m = n
    · subst q
      rw [hr] at e1; cases e1
      rw [List.getElem?_set_self hn] at e2; cases e2
      exact ⟨ob, kvs, upd_same, rk, rs.up l⟩
    · rw [List.getElem?_set_ne (Ne.symm q)] at e2
      exact (S.cell m b c2 e1 e2).up l (upd_ne (S.other e1 hr q))
  · by_cases q : m = n
    · subst q
      rw [List.getElem?_set_self hn] at e2; cases e2
      cases e3
    · rw [List.getElem?_set_ne (Ne.symm q)] at e2
      show upd W.F d _ b = none
      rw [upd_ne (S.other e1 hr q)]; exact S.off m b c2 e1 e2 e3
theorem Sim.unlock (S : Sim T W st H) {ob : Obj} {kvs : List (Key × V)} (hr : W.ρ[n]? = some d) (hc : st[n]? = some (.dlk ks vs)) (hF : W.F d = some (.frz ob (.dK kvs))) :
    Sim T ⟨dropF W.F d, W.ρ⟩ (st.set n (.dic ks vs)) (upd H d (.dK kvs)) := by
  obtain ⟨ob', kvs', f, rk, rs⟩ := S.cell n d _ hr hc
  have hn : n < st.length := (List.getElem?_eq_some_iff.mp hc).1
  rw [hF] at f
  cases f
  have up : ∀ {b : Addr} {c : Cell}, b ≠ d → CellAt T W H b c → CellAt T ⟨dropF W.F d, W.ρ⟩ (upd H d (.dK kvs)) b c := fun {b c} nb h => by
    cases c with
    | lst xs => obtain ⟨us, h1, h2⟩ := h; exact ⟨us, (upd_ne nb).trans h1, Reps.unlock hF h2⟩
    | dic xs ys => obtain ⟨us, h1, h2, h3⟩ := h; exact ⟨us, (upd_ne nb).trans h1, h2, Reps.unlock hF h3⟩
    | dlk xs ys => obtain ⟨o2, us, h1, h2, h3⟩ := h; exact ⟨o2, us, (by show dropF W.F d b = _; unfold dropF; rw [if_neg nb]; exact h1), h2, Reps.unlock hF h3⟩
    | ins c fs => obtain ⟨dx, us, h1, h2, h3⟩ := h; exact ⟨dx, us, (upd_ne nb).trans h1, RepF.unlock hF h2, h3⟩
    | dead => exact True.intro
    | ptp xs => obtain ⟨o2, us, h1, h2, h3⟩ := h; exact ⟨o2, us, (by show dropF W.F d b = _; unfold dropF; rw [if_neg nb]; exact h1), h2, Reps.unlock hF h3⟩
  refine ⟨fun b u e => ?_, S.nd, by simp [S.len], fun b hb => ?_, fun m b c2 e1 e2 => ?_, fun m b c2 e1 e2 e3 => ?_⟩
  · have e : dropF W.F d b = some u := e
    unfold dropF at e
    by_cases q : b = d
    · rw [if_pos q] at e; cases e
    · rw [if_neg q] at e; rw [upd_ne q]; exact S.sub b u e
  · by_cases q : b = d
    · rw [q, upd_same]; simp
    · rw [upd_ne q]; exact S.dom b hb
  · by_cases q : m = n
    · subst q
      rw [hr] at e1; cases e1
      rw [List.getElem?_set_self hn] at e2; cases e2
      exact ⟨kvs, upd_same, rk, Reps.unlock hF rs⟩
    · rw [List.getElem?_set_ne (Ne.symm q)] at e2
      exact up (S.other e1 hr q) (S.cell m b c2 e1 e2)
  · show dropF W.F d b = none
    unfold dropF
    by_cases q : m = n
    · subst q
      rw [hr] at e1; cases e1
      rw [if_pos rfl]
    · rw [List.getElem?_set_ne (Ne.symm q)] at e2
      rw [if_neg (S.other e1 hr q)]; exact S.off m b c2 e1 e2 e3
end

/-! ### slots -/
abbrev Sig := List (Option PV)
structure SigOk (K : PySem.W.Frag) (W : Wd) (sg : Sig) (σ : St) : Prop where
  len : sg.length = σ.length
  get : ∀ (i : Nat) p, sg[i]? = some (some p) → ∃ v, σ[i]? = some (some v) ∧ Rep K W p v
section
variable {K : PySem.W.Frag} {W W' : Wd} {sg : Sig} {σ : St}
theorem SigOk.up (h : SigOk K W sg σ) (l : W.Le W') : SigOk K W' sg σ := ⟨h.len, fun i p e => let ⟨v, a, b⟩ := h.get i p e; ⟨v, a, b.up l⟩⟩
theorem SigOk.put (h : SigOk K W sg σ) {p : PV} {v : V} (i : Nat) (r : Rep K W p v) : SigOk K W (sg.set i (some p)) (σ.set i (some v)) := by
  refine ⟨by simp [h.len], fun j q e => ?_⟩
  by_cases c : i = j
  · subst c
    have hi : i < sg.length := by
      rcases Nat.lt_or_ge i sg.length with z | z
      · exact z
      · rw [List.getElem?_eq_none (by simpa using z)] at e; cases e
    rw [List.getElem?_set_self hi] at e
    cases e
    exact ⟨v, List.getElem?_set_self (by rw [← h.len]; exact hi), r⟩
  · rw [List.getElem?_set_ne c] at e
    rw [List.getElem?_set_ne c]
    exact h.get j q e
theorem SigOk.drop (h : SigOk K W sg σ) (i : Nat) (x : Option V) : SigOk K W (sg.set i none) (σ.set i x) := by
  refine ⟨by simp [h.len], fun j q e => ?_⟩
  by_cases c : i = j
  · subst c
    by_cases hi : i < sg.length
    · rw [List.getElem?_set_self hi] at e; cases e
    · rw [List.getElem?_eq_none (by simpa using hi)] at e; cases e
  · rw [List.getElem?_set_ne c] at e
    rw [List.getElem?_set_ne c]
    exact h.get j q e
end
end Pv
set_option maxHeartbeats 2000000
/-! Pv, part B: == of pure values. -/
namespace Pv
open PySem PySem.SeqAt L2

def eqL (f : PV → PV → Option Bool) : List PV → List PV → Option Bool
  | [], [] => some true
  | x :: xs, y :: ys => match f x y, eqL f xs ys with
    | some a, some b => some (a && b)
    | _, _ => none
  | [], _ :: _ => some false
  | _ :: _, [] => some false
def eqP : Nat → PV → PV → Option Bool
  | 0, _, _ => none
  | n + 1, p, q => match p, q with
    | .non, .non => some true
    | .bl a, .bl b => some (a == b)
    | .bl a, .int j => some ((if a then 1 else 0) == j)
    | .int i, .bl b => some (i == (if b then 1 else 0))
    | .int i, .int j => some (i == j)
    | .str a, .str b => some (a == b)
    | .tup xs, .tup ys => eqL (eqP n) xs ys
    | .lst xs, .lst ys => eqL (eqP n) xs ys
    | .lst xs, .scr ys => eqL (eqP n) xs ys
    | .scr xs, .lst ys => eqL (eqP n) xs ys
    | .scr xs, .scr ys => eqL (eqP n) xs ys
    | .dic _ _, _ => none
    | .ref _, _ => none
    | .adr _, _ => none
    | _, .dic _ _ => none
    | _, .ref _ => none
    | _, .adr _ => none
    | _, _ => some false

theorem eqL_spec {f : PV → PV → Option Bool} : ∀ {xs ys : List PV} {b : Bool}, eqL f xs ys = some b →
    ∃ e : Nat → Bool, (∀ (j : Nat) p q, xs[j]? = some p → ys[j]? = some q → f p q = some (e j)) ∧ b = ((List.range (min xs.length ys.length)).all e && xs.length == ys.length)
  | [], [], b, h => by
    have h : true = b := by simpa [eqL] using h
    exact ⟨fun _ => true, fun j p q e _ => by simp at e, by subst h; rfl⟩
  | [], _ :: _, b, h => by
    have h : false = b := by simpa [eqL] using h
    exact ⟨fun _ => true, fun j p q e _ => by simp at e, by subst h; simp⟩
  | _ :: _, [], b, h => by
    have h : false = b := by simpa [eqL] using h
    exact ⟨fun _ => true, fun j p q _ e => by simp at e, by subst h; simp⟩
  | x :: xs, y :: ys, b, h => by
    unfold eqL at h
    cases hx : f x y with
    | none => rw [hx] at h; cases h
    | some a =>
      cases hr : eqL f xs ys with
      | none => rw [hx, hr] at h; cases h
      | some c =>
        rw [hx, hr] at h
        have h : (a && c) = b := by simpa using h
        obtain ⟨e, k1, k2⟩ := eqL_spec hr
        refine ⟨fun j => match j with | 0 => a | j + 1 => e j, fun j p q e1 e2 => ?_, ?_⟩
        · cases j with
          | zero =>
            have e1 : x = p := by simpa using e1
            have e2 : y = q := by simpa using e2
            subst e1; subst e2; exact hx
          | succ j => exact k1 j p q (by simpa using e1) (by simpa using e2)
        · subst h
          have m : min (x :: xs).length (y :: ys).length = min xs.length ys.length + 1 := by simp only [List.length_cons]; omega
          rw [m, List.range_succ_eq_map, List.all_cons, List.all_map, k2, Bool.and_assoc]
          have l : ((x :: xs).length == (y :: ys).length) = (xs.length == ys.length) := by simp
          rw [l]
          rfl

/-- a sequence in the concrete heap -/
theorem seq_items {X : Cx} {pins : List (Addr × Obj)} {σ : St} {H : Hp} {s : Shared} {W : Wd} (I : Inv X pins σ H s) (S : ∀ a o, W.F a = some o → H a = some o) :
    (∀ {xs : List PV} {v : V} {u : Value}, Rep X.K W (.tup xs) v → RelV v u → ∃ l vs its, u = .ref l ∧ s.heap.IsTuple l its ∧ Vals vs its.toList ∧ Reps X.K W xs vs ∧ xs.length ≤ sizeLine) ∧
    (∀ {xs : List PV} {v : V} {u : Value}, Rep X.K W (.lst xs) v → RelV v u → ∃ l vs its, u = .ref l ∧ s.heap.IsList l its ∧ Vals vs its.toList ∧ Reps X.K W xs vs ∧ xs.length ≤ sizeLine) ∧
    (∀ {xs : List PV} {v : V} {u : Value}, Rep X.K W (.scr xs) v → RelV v u → ∃ l vs its, u = .ref l ∧ s.heap.IsList l its ∧ Vals vs its.toList ∧ Reps X.K W xs vs ∧ xs.length ≤ sizeLine) := by
  refine ⟨fun {xs v u} h r => ?_, fun {xs v u} h r => ?_, fun {xs v u} h r => ?_⟩
  · obtain ⟨a, vs, rfl, q, rs⟩ := h
    cases r
    obtain ⟨its, rv, p, hz⟩ := I.tuple (SqT.up q S)
    exact ⟨a, vs, its.toArray, rfl, p, by simpa using rv, rs, by rw [← rs.length]; exact hz⟩
  · obtain ⟨a, vs, rfl, q, rs⟩ := h
    cases r
    obtain ⟨its, rv, p, hz⟩ := I.list (SqL.of (S _ _ q))
    exact ⟨a, vs, its.toArray, rfl, p.isList, by simpa using rv, rs, by rw [← rs.length]; exact hz⟩
  · obtain ⟨a, vs, rfl, q, rs⟩ := h
    cases r
    obtain ⟨its, rv, p, hz⟩ := I.list (SqL.up q S)
    exact ⟨a, vs, its.toArray, rfl, p.isList, by simpa using rv, rs, by rw [← rs.length]; exact hz⟩
theorem str_eq_iff (a b : List Nat) : ((⟨a.toArray⟩ : Str) == ⟨b.toArray⟩) = (a == b) := by
  rw [Bool.eq_iff_iff]
  simp

theorem vals_at {vs : List V} {its : Array Value} {ps : List PV} {K : PySem.W.Frag} {W : Wd} (rv : Vals vs its.toList) (rs : Reps K W ps vs) (j : Nat) (h : j < its.size) :
    ∃ p x, ps[j]? = some p ∧ Rep K W p x ∧ RelV x its[j] := by
  have l1 := rv.length
  have l2 := rs.length
  have hj : j < ps.length := by rw [← l2, l1]; simpa using h
  obtain ⟨x, hx, rx⟩ := rs.get (List.getElem?_eq_getElem hj)
  obtain ⟨u, hu, ru⟩ := rv.get hx
  refine ⟨_, x, List.getElem?_eq_getElem hj, rx, ?_⟩
  have : its.toList[j]? = some its[j] := by simp [h]
  rw [this] at hu
  cases hu
  exact ru

theorem strV_inj {a b : List Nat} (h : strV a = strV b) : a = b := by
  unfold strV at h
  injection h with h
  injection h with h
  simpa using h
theorem eqL_same {f : PV → PV → Option Bool} {K : PySem.W.Frag} {W : Wd} (ih : ∀ p q b v, f p q = some b → Rep K W p v → Rep K W q v → b = true) :
    ∀ (xs ys : List PV) (vs : List V) (b : Bool), eqL f xs ys = some b → Reps K W xs vs → Reps K W ys vs → b = true
  | [], [], _, b, h, _, _ => by simpa [eqL] using h.symm
  | [], _ :: _, _, _, _, r1, r2 => by obtain ⟨_, _, e, _⟩ := r2; cases r1; cases e
  | _ :: _, [], _, _, _, r1, r2 => by obtain ⟨_, _, e, _⟩ := r1; cases r2; cases e
  | x :: xs, y :: ys, _, b, h, ⟨v, r, e, a1, a2⟩, ⟨v', r', e', c1, c2⟩ => by
    subst e
    obtain ⟨rfl, rfl⟩ := List.cons.inj e'
    unfold eqL at h
    cases hx : f x y with
    | none => rw [hx] at h; cases h
    | some a =>
      cases hr : eqL f xs ys with
      | none => rw [hx, hr] at h; cases h
      | some c =>
        rw [hx, hr] at h
        have h : (a && c) = b := by simpa using h
        rw [← h, ih _ _ _ _ hx a1 c1, eqL_same ih xs ys _ _ hr a2 c2]
        rfl
def isSeq : PV → Bool
  | .tup _ => true | .lst _ => true | .scr _ => true | _ => false
theorem seq_val {K : PySem.W.Frag} {W : Wd} {p : PV} {v : V} (h : Rep K W p v) (hp : isSeq p = true) : ∃ u, RelV v u := by
  cases p with
  | tup xs => obtain ⟨a, _, rfl, _⟩ := h; exact ⟨.ref a, rfl⟩
  | lst xs => obtain ⟨a, _, rfl, _⟩ := h; exact ⟨.ref a, rfl⟩
  | scr xs => obtain ⟨a, _, rfl, _⟩ := h; exact ⟨.ref a, rfl⟩
  | _ => cases hp
section
variable {X : Cx} {pins : List (Addr × Obj)} {σ : St} {H : Hp} {s : Shared} {W : Wd}
theorem eq_same (I : Inv X pins σ H s) (S : ∀ a o, W.F a = some o → H a = some o) : ∀ (n : Nat) (p q : PV) (b : Bool) (v : V), eqP n p q = some b → Rep X.K W p v → Rep X.K W q v → b = true
  | 0, _, _, _, _, h, _, _ => by cases h
  | n + 1, p, q, b, v, h, e1, e2 => by
    have ih := eq_same I S n
    cases p with
    | non =>
      cases q with
      | non =>
        simpa [eqP] using h.symm
      | bl b2 =>
        cases e1; cases e2
      | int i2 =>
        cases e1; cases e2
      | str x2 =>
        cases e1; obtain ⟨e2, _⟩ := e2; cases e2
      | tup xs2 =>
        cases e1; obtain ⟨a', vs', ea, q2, rs2⟩ := e2; cases ea
      | lst xs2 =>
        cases e1; obtain ⟨a', vs', ea, q2, rs2⟩ := e2; cases ea
      | scr xs2 =>
        cases e1; obtain ⟨a', vs', ea, q2, rs2⟩ := e2; cases ea
      | dic _ _ => simp [eqP] at h
      | ref _ => simp [eqP] at h
      | adr _ => simp [eqP] at h
    | bl b1 =>
      cases q with
      | non =>
        cases e1; cases e2
      | bl b2 =>
        cases e1; injection e2 with e2; subst e2; simpa [eqP] using h.symm
      | int i2 =>
        cases e1; cases e2
      | str x2 =>
        cases e1; obtain ⟨e2, _⟩ := e2; cases e2
      | tup xs2 =>
        cases e1; obtain ⟨a', vs', ea, q2, rs2⟩ := e2; cases ea
      | lst xs2 =>
        cases e1; obtain ⟨a', vs', ea, q2, rs2⟩ := e2; cases ea
      | scr xs2 =>
        cases e1; obtain ⟨a', vs', ea, q2, rs2⟩ := e2; cases ea
      | dic _ _ => simp [eqP] at h
      | ref _ => simp [eqP] at h
      | adr _ => simp [eqP] at h
    | int i1 =>
      cases q with
      | non =>
        cases e1; cases e2
      | bl b2 =>
        cases e1; cases e2
      | int i2 =>
        cases e1; injection e2 with e2; subst e2; simpa [eqP] using h.symm
      | str x2 =>
        cases e1; obtain ⟨e2, _⟩ := e2; cases e2
      | tup xs2 =>
        cases e1; obtain ⟨a', vs', ea, q2, rs2⟩ := e2; cases ea
      | lst xs2 =>
        cases e1; obtain ⟨a', vs', ea, q2, rs2⟩ := e2; cases ea
      | scr xs2 =>
        cases e1; obtain ⟨a', vs', ea, q2, rs2⟩ := e2; cases ea
      | dic _ _ => simp [eqP] at h
      | ref _ => simp [eqP] at h
      | adr _ => simp [eqP] at h
    | str x1 =>
      cases q with
      | non =>
        obtain ⟨e1, _⟩ := e1; cases e1; cases e2
      | bl b2 =>
        obtain ⟨e1, _⟩ := e1; cases e1; cases e2
      | int i2 =>
        obtain ⟨e1, _⟩ := e1; cases e1; cases e2
      | str x2 =>
        have e := strV_inj (e1.1.symm.trans e2.1)
        subst e; simpa [eqP] using h.symm
      | tup xs2 =>
        obtain ⟨e1, _⟩ := e1; cases e1; obtain ⟨a', vs', ea, q2, rs2⟩ := e2; cases ea
      | lst xs2 =>
        obtain ⟨e1, _⟩ := e1; cases e1; obtain ⟨a', vs', ea, q2, rs2⟩ := e2; cases ea
      | scr xs2 =>
        obtain ⟨e1, _⟩ := e1; cases e1; obtain ⟨a', vs', ea, q2, rs2⟩ := e2; cases ea
      | dic _ _ => simp [eqP] at h
      | ref _ => simp [eqP] at h
      | adr _ => simp [eqP] at h
    | tup xs1 =>
      cases q with
      | non =>
        obtain ⟨a, vs, rfl, q1, rs1⟩ := e1; cases e2
      | bl b2 =>
        obtain ⟨a, vs, rfl, q1, rs1⟩ := e1; cases e2
      | int i2 =>
        obtain ⟨a, vs, rfl, q1, rs1⟩ := e1; cases e2
      | str x2 =>
        obtain ⟨a, vs, rfl, q1, rs1⟩ := e1; obtain ⟨e2, _⟩ := e2; cases e2
      | tup xs2 =>
        obtain ⟨a, vs, rfl, q1, rs1⟩ := e1
        obtain ⟨a', vs', ea, q2, rs2⟩ := e2
        cases ea
        have ev := I.tuple_inj (SqT.up q1 S) (SqT.up q2 S)
        subst ev
        exact eqL_same ih _ _ _ _ (by simpa [eqP] using h) rs1 rs2
      | lst xs2 =>
        obtain ⟨u, ru⟩ := seq_val (p := .tup xs1) e1 (by rfl)
        obtain ⟨l1, _, its1, ea, h1, _⟩ := (seq_items I S).1 e1 ru
        obtain ⟨l2, _, its2, ec, h2, _⟩ := (seq_items I S).2.1 e2 ru
        rw [ea] at ec
        cases ec
        exact absurd rfl (SeqAt.ne_of_list_tuple h2 h1)
      | scr xs2 =>
        obtain ⟨u, ru⟩ := seq_val (p := .tup xs1) e1 (by rfl)
        obtain ⟨l1, _, its1, ea, h1, _⟩ := (seq_items I S).1 e1 ru
        obtain ⟨l2, _, its2, ec, h2, _⟩ := (seq_items I S).2.2 e2 ru
        rw [ea] at ec
        cases ec
        exact absurd rfl (SeqAt.ne_of_list_tuple h2 h1)
      | dic _ _ => simp [eqP] at h
      | ref _ => simp [eqP] at h
      | adr _ => simp [eqP] at h
    | lst xs1 =>
      cases q with
      | non =>
        obtain ⟨a, vs, rfl, q1, rs1⟩ := e1; cases e2
      | bl b2 =>
        obtain ⟨a, vs, rfl, q1, rs1⟩ := e1; cases e2
      | int i2 =>
        obtain ⟨a, vs, rfl, q1, rs1⟩ := e1; cases e2
      | str x2 =>
        obtain ⟨a, vs, rfl, q1, rs1⟩ := e1; obtain ⟨e2, _⟩ := e2; cases e2
      | tup xs2 =>
        obtain ⟨u, ru⟩ := seq_val (p := .lst xs1) e1 (by rfl)
        obtain ⟨l1, _, its1, ea, h1, _⟩ := (seq_items I S).2.1 e1 ru
        obtain ⟨l2, _, its2, ec, h2, _⟩ := (seq_items I S).1 e2 ru
        rw [ea] at ec
        cases ec
        exact absurd rfl (SeqAt.ne_of_list_tuple h1 h2)
      | lst xs2 =>
        obtain ⟨a, vs, rfl, q1, rs1⟩ := e1
        obtain ⟨a', vs', ea, q2, rs2⟩ := e2
        cases ea
        have ev := I.list_inj (SqL.of (S _ _ q1)) (SqL.of (S _ _ q2))
        subst ev
        exact eqL_same ih _ _ _ _ (by simpa [eqP] using h) rs1 rs2
      | scr xs2 =>
        obtain ⟨a, vs, rfl, q1, rs1⟩ := e1
        obtain ⟨a', vs', ea, q2, rs2⟩ := e2
        cases ea
        have ev := I.list_inj (SqL.of (S _ _ q1)) (SqL.up q2 S)
        subst ev
        exact eqL_same ih _ _ _ _ (by simpa [eqP] using h) rs1 rs2
      | dic _ _ => simp [eqP] at h
      | ref _ => simp [eqP] at h
      | adr _ => simp [eqP] at h
    | scr xs1 =>
      cases q with
      | non =>
        obtain ⟨a, vs, rfl, q1, rs1⟩ := e1; cases e2
      | bl b2 =>
        obtain ⟨a, vs, rfl, q1, rs1⟩ := e1; cases e2
      | int i2 =>
        obtain ⟨a, vs, rfl, q1, rs1⟩ := e1; cases e2
      | str x2 =>
        obtain ⟨a, vs, rfl, q1, rs1⟩ := e1; obtain ⟨e2, _⟩ := e2; cases e2
      | tup xs2 =>
        obtain ⟨u, ru⟩ := seq_val (p := .scr xs1) e1 (by rfl)
        obtain ⟨l1, _, its1, ea, h1, _⟩ := (seq_items I S).2.2 e1 ru
        obtain ⟨l2, _, its2, ec, h2, _⟩ := (seq_items I S).1 e2 ru
        rw [ea] at ec
        cases ec
        exact absurd rfl (SeqAt.ne_of_list_tuple h1 h2)
      | lst xs2 =>
        obtain ⟨a, vs, rfl, q1, rs1⟩ := e1
        obtain ⟨a', vs', ea, q2, rs2⟩ := e2
        cases ea
        have ev := I.list_inj (SqL.up q1 S) (SqL.of (S _ _ q2))
        subst ev
        exact eqL_same ih _ _ _ _ (by simpa [eqP] using h) rs1 rs2
      | scr xs2 =>
        obtain ⟨a, vs, rfl, q1, rs1⟩ := e1
        obtain ⟨a', vs', ea, q2, rs2⟩ := e2
        cases ea
        have ev := I.list_inj (SqL.up q1 S) (SqL.up q2 S)
        subst ev
        exact eqL_same ih _ _ _ _ (by simpa [eqP] using h) rs1 rs2
      | dic _ _ => simp [eqP] at h
      | ref _ => simp [eqP] at h
      | adr _ => simp [eqP] at h
    | dic _ _ => simp [eqP] at h
    | ref _ => simp [eqP] at h
    | adr _ => simp [eqP] at h
end
section
variable {X : Cx} {pins : List (Addr × Obj)} {σ : St} {H : Hp} {s : Shared} {W : Wd}

theorem eq_at (I : Inv X pins σ H s) (S : ∀ a o, W.F a = some o → H a = some o) : ∀ (n : Nat) (A : Around) (p q : PV) (b : Bool) (v u : V) (y z : Value), A.units + n < cLine → eqP n p q = some b →
    Rep X.K W p v → Rep X.K W q u → RelV v y → RelV u z → EqAt A s y z b ∧ RcAt A s y z b ∧ RcNeAt A s y z (!b)
  | 0, _, _, _, _, _, _, _, _, _, h, _, _, _, _ => by cases h
  | n + 1, A, p, q, b, v, u, y, z, hu, h, e1, e2, r1, r2 => by
    have hA : A.units < cLine := by omega
    have same : v = u → b = true := fun e => eq_same I S (n + 1) p q b v h e1 (e ▸ e2)
    have ih := eq_at I S n A.in1
    have hu1 : A.in1.units + n < cLine := by show A.units + 1 + n < cLine; omega
    cases p with
    | non =>
      cases q with
      | non =>
        cases e1; cases r1
        cases e2; cases r2
        have h : true = b := by simpa [eqP] using h
        subst h
        exact ⟨EqAt.same _, RcAt.none_none, RcNeAt.none_none⟩
      | bl b2 =>
        cases e1; cases r1
        cases e2; cases r2
        have h : false = b := by simpa [eqP] using h
        subst h
        exact ⟨EqAt.none_bool b2, RcAt.none_bool b2, RcNeAt.none_bool b2⟩
      | int i2 =>
        cases e1; cases r1
        cases e2; obtain ⟨t2, rfl⟩ := r2
        have h : false = b := by simpa [eqP] using h
        subst h
        exact ⟨EqAt.none_int i2 t2, RcAt.none_int i2 t2, RcNeAt.none_int i2 t2⟩
      | str x2 =>
        cases e1; cases r1
        obtain ⟨e2, _⟩ := e2; cases e2; obtain ⟨t2, rfl⟩ := r2
        have h : false = b := by simpa [eqP] using h
        subst h
        exact ⟨EqAt.none_str ⟨x2.toArray⟩ t2, RcAt.none_str ⟨x2.toArray⟩ t2, RcNeAt.none_str ⟨x2.toArray⟩ t2⟩
      | tup xs2 =>
        cases e1; cases r1
        obtain ⟨l2, vs2, its2, rfl, h2, rv2, rs2, z2⟩ := (seq_items I S).1 e2 r2
        have h : false = b := by simpa [eqP] using h
        subst h
        exact ⟨EqAt.none_tuple h2 hA, RcAt.none_tuple h2 hA, RcNeAt.none_tuple h2 hA⟩
      | lst xs2 =>
        cases e1; cases r1
        obtain ⟨l2, vs2, its2, rfl, h2, rv2, rs2, z2⟩ := (seq_items I S).2.1 e2 r2
        have h : false = b := by simpa [eqP] using h
        subst h
        exact ⟨EqAt.none_list h2 hA, RcAt.none_list h2 hA, RcNeAt.none_list h2 hA⟩
      | scr xs2 =>
        cases e1; cases r1
        obtain ⟨l2, vs2, its2, rfl, h2, rv2, rs2, z2⟩ := (seq_items I S).2.2 e2 r2
        have h : false = b := by simpa [eqP] using h
        subst h
        exact ⟨EqAt.none_list h2 hA, RcAt.none_list h2 hA, RcNeAt.none_list h2 hA⟩
      | dic _ _ => simp [eqP] at h
      | ref _ => simp [eqP] at h
      | adr _ => simp [eqP] at h
    | bl b1 =>
      cases q with
      | non =>
        cases e1; cases r1
        cases e2; cases r2
        have h : false = b := by simpa [eqP] using h
        subst h
        exact ⟨EqAt.bool_none b1, RcAt.bool_none b1, RcNeAt.bool_none b1⟩
      | bl b2 =>
        cases e1; cases r1
        cases e2; cases r2
        have h : (b1 == b2) = b := by simpa [eqP] using h
        subst h
        exact ⟨EqAt.bool_bool b1 b2, RcAt.bool_bool b1 b2, RcNeAt.bool_bool b1 b2⟩
      | int i2 =>
        cases e1; cases r1
        cases e2; obtain ⟨t2, rfl⟩ := r2
        have h : ((if b1 then 1 else 0) == i2) = b := by simpa [eqP] using h
        subst h
        exact ⟨EqAt.bool_int b1 i2 t2, RcAt.bool_int b1 i2 t2, RcNeAt.bool_int b1 i2 t2⟩
      | str x2 =>
        cases e1; cases r1
        obtain ⟨e2, _⟩ := e2; cases e2; obtain ⟨t2, rfl⟩ := r2
        have h : false = b := by simpa [eqP] using h
        subst h
        exact ⟨EqAt.bool_str b1 ⟨x2.toArray⟩ t2, RcAt.bool_str b1 ⟨x2.toArray⟩ t2, RcNeAt.bool_str b1 ⟨x2.toArray⟩ t2⟩
      | tup xs2 =>
        cases e1; cases r1
        obtain ⟨l2, vs2, its2, rfl, h2, rv2, rs2, z2⟩ := (seq_items I S).1 e2 r2
        have h : false = b := by simpa [eqP] using h
        subst h
        exact ⟨EqAt.bool_tuple b1 h2 hA, RcAt.bool_tuple b1 h2 hA, RcNeAt.bool_tuple b1 h2 hA⟩
      | lst xs2 =>
        cases e1; cases r1
        obtain ⟨l2, vs2, its2, rfl, h2, rv2, rs2, z2⟩ := (seq_items I S).2.1 e2 r2
        have h : false = b := by simpa [eqP] using h
        subst h
        exact ⟨EqAt.bool_list b1 h2 hA, RcAt.bool_list b1 h2 hA, RcNeAt.bool_list b1 h2 hA⟩
      | scr xs2 =>
        cases e1; cases r1
        obtain ⟨l2, vs2, its2, rfl, h2, rv2, rs2, z2⟩ := (seq_items I S).2.2 e2 r2
        have h : false = b := by simpa [eqP] using h
        subst h
        exact ⟨EqAt.bool_list b1 h2 hA, RcAt.bool_list b1 h2 hA, RcNeAt.bool_list b1 h2 hA⟩
      | dic _ _ => simp [eqP] at h
      | ref _ => simp [eqP] at h
      | adr _ => simp [eqP] at h
    | int i1 =>
      cases q with
      | non =>
        cases e1; obtain ⟨t1, rfl⟩ := r1
        cases e2; cases r2
        have h : false = b := by simpa [eqP] using h
        subst h
        exact ⟨EqAt.int_none i1 t1, RcAt.int_none i1 t1, RcNeAt.int_none i1 t1⟩
      | bl b2 =>
        cases e1; obtain ⟨t1, rfl⟩ := r1
        cases e2; cases r2
        have h : (i1 == (if b2 then 1 else 0)) = b := by simpa [eqP] using h
        subst h
        exact ⟨EqAt.int_bool i1 t1 b2, RcAt.int_bool i1 t1 b2, RcNeAt.int_bool i1 t1 b2⟩
      | int i2 =>
        cases e1; obtain ⟨t1, rfl⟩ := r1
        cases e2; obtain ⟨t2, rfl⟩ := r2
        have h : (i1 == i2) = b := by simpa [eqP] using h
        subst h
        exact ⟨EqAt.int_int i1 t1 i2 t2, RcAt.int_int i1 t1 i2 t2, RcNeAt.int_int i1 t1 i2 t2⟩
      | str x2 =>
        cases e1; obtain ⟨t1, rfl⟩ := r1
        obtain ⟨e2, _⟩ := e2; cases e2; obtain ⟨t2, rfl⟩ := r2
        have h : false = b := by simpa [eqP] using h
        subst h
        exact ⟨EqAt.int_str i1 t1 ⟨x2.toArray⟩ t2, RcAt.int_str i1 t1 ⟨x2.toArray⟩ t2, RcNeAt.int_str i1 t1 ⟨x2.toArray⟩ t2⟩
      | tup xs2 =>
        cases e1; obtain ⟨t1, rfl⟩ := r1
        obtain ⟨l2, vs2, its2, rfl, h2, rv2, rs2, z2⟩ := (seq_items I S).1 e2 r2
        have h : false = b := by simpa [eqP] using h
        subst h
        exact ⟨EqAt.int_tuple i1 t1 h2 hA, RcAt.int_tuple i1 t1 h2 hA, RcNeAt.int_tuple i1 t1 h2 hA⟩
      | lst xs2 =>
        cases e1; obtain ⟨t1, rfl⟩ := r1
        obtain ⟨l2, vs2, its2, rfl, h2, rv2, rs2, z2⟩ := (seq_items I S).2.1 e2 r2
        have h : false = b := by simpa [eqP] using h
        subst h
        exact ⟨EqAt.int_list i1 t1 h2 hA, RcAt.int_list i1 t1 h2 hA, RcNeAt.int_list i1 t1 h2 hA⟩
      | scr xs2 =>
        cases e1; obtain ⟨t1, rfl⟩ := r1
        obtain ⟨l2, vs2, its2, rfl, h2, rv2, rs2, z2⟩ := (seq_items I S).2.2 e2 r2
        have h : false = b := by simpa [eqP] using h
        subst h
        exact ⟨EqAt.int_list i1 t1 h2 hA, RcAt.int_list i1 t1 h2 hA, RcNeAt.int_list i1 t1 h2 hA⟩
      | dic _ _ => simp [eqP] at h
      | ref _ => simp [eqP] at h
      | adr _ => simp [eqP] at h
    | str x1 =>
      cases q with
      | non =>
        obtain ⟨e1, _⟩ := e1; cases e1; obtain ⟨t1, rfl⟩ := r1
        cases e2; cases r2
        have h : false = b := by simpa [eqP] using h
        subst h
        exact ⟨EqAt.str_none ⟨x1.toArray⟩ t1, RcAt.str_none ⟨x1.toArray⟩ t1, RcNeAt.str_none ⟨x1.toArray⟩ t1⟩
      | bl b2 =>
        obtain ⟨e1, _⟩ := e1; cases e1; obtain ⟨t1, rfl⟩ := r1
        cases e2; cases r2
        have h : false = b := by simpa [eqP] using h
        subst h
        exact ⟨EqAt.str_bool ⟨x1.toArray⟩ t1 b2, RcAt.str_bool ⟨x1.toArray⟩ t1 b2, RcNeAt.str_bool ⟨x1.toArray⟩ t1 b2⟩
      | int i2 =>
        obtain ⟨e1, _⟩ := e1; cases e1; obtain ⟨t1, rfl⟩ := r1
        cases e2; obtain ⟨t2, rfl⟩ := r2
        have h : false = b := by simpa [eqP] using h
        subst h
        exact ⟨EqAt.str_int ⟨x1.toArray⟩ t1 i2 t2, RcAt.str_int ⟨x1.toArray⟩ t1 i2 t2, RcNeAt.str_int ⟨x1.toArray⟩ t1 i2 t2⟩
      | str x2 =>
        obtain ⟨e1, _⟩ := e1; cases e1; obtain ⟨t1, rfl⟩ := r1
        obtain ⟨e2, _⟩ := e2; cases e2; obtain ⟨t2, rfl⟩ := r2
        have h : (x1 == x2) = b := by simpa [eqP] using h
        subst h
        rw [← str_eq_iff]
        exact ⟨EqAt.str_str ⟨x1.toArray⟩ t1 ⟨x2.toArray⟩ t2, RcAt.str_str ⟨x1.toArray⟩ t1 ⟨x2.toArray⟩ t2, RcNeAt.str_str ⟨x1.toArray⟩ t1 ⟨x2.toArray⟩ t2⟩
      | tup xs2 =>
        obtain ⟨e1, _⟩ := e1; cases e1; obtain ⟨t1, rfl⟩ := r1
        obtain ⟨l2, vs2, its2, rfl, h2, rv2, rs2, z2⟩ := (seq_items I S).1 e2 r2
        have h : false = b := by simpa [eqP] using h
        subst h
        exact ⟨EqAt.str_tuple ⟨x1.toArray⟩ t1 h2 hA, RcAt.str_tuple ⟨x1.toArray⟩ t1 h2 hA, RcNeAt.str_tuple ⟨x1.toArray⟩ t1 h2 hA⟩
      | lst xs2 =>
        obtain ⟨e1, _⟩ := e1; cases e1; obtain ⟨t1, rfl⟩ := r1
        obtain ⟨l2, vs2, its2, rfl, h2, rv2, rs2, z2⟩ := (seq_items I S).2.1 e2 r2
        have h : false = b := by simpa [eqP] using h
        subst h
        exact ⟨EqAt.str_list ⟨x1.toArray⟩ t1 h2 hA, RcAt.str_list ⟨x1.toArray⟩ t1 h2 hA, RcNeAt.str_list ⟨x1.toArray⟩ t1 h2 hA⟩
      | scr xs2 =>
        obtain ⟨e1, _⟩ := e1; cases e1; obtain ⟨t1, rfl⟩ := r1
        obtain ⟨l2, vs2, its2, rfl, h2, rv2, rs2, z2⟩ := (seq_items I S).2.2 e2 r2
        have h : false = b := by simpa [eqP] using h
        subst h
        exact ⟨EqAt.str_list ⟨x1.toArray⟩ t1 h2 hA, RcAt.str_list ⟨x1.toArray⟩ t1 h2 hA, RcNeAt.str_list ⟨x1.toArray⟩ t1 h2 hA⟩
      | dic _ _ => simp [eqP] at h
      | ref _ => simp [eqP] at h
      | adr _ => simp [eqP] at h
    | tup xs1 =>
      cases q with
      | non =>
        obtain ⟨l1, vs1, its1, rfl, h1, rv1, rs1, z1⟩ := (seq_items I S).1 e1 r1
        cases e2; cases r2
        have h : false = b := by simpa [eqP] using h
        subst h
        exact ⟨EqAt.tuple_none h1 hA, RcAt.tuple_none h1 hA, RcNeAt.tuple_none h1 hA⟩
      | bl b2 =>
        obtain ⟨l1, vs1, its1, rfl, h1, rv1, rs1, z1⟩ := (seq_items I S).1 e1 r1
        cases e2; cases r2
        have h : false = b := by simpa [eqP] using h
        subst h
        exact ⟨EqAt.tuple_bool b2 h1 hA, RcAt.tuple_bool b2 h1 hA, RcNeAt.tuple_bool b2 h1 hA⟩
      | int i2 =>
        obtain ⟨l1, vs1, its1, rfl, h1, rv1, rs1, z1⟩ := (seq_items I S).1 e1 r1
        cases e2; obtain ⟨t2, rfl⟩ := r2
        have h : false = b := by simpa [eqP] using h
        subst h
        exact ⟨EqAt.tuple_int i2 t2 h1 hA, RcAt.tuple_int i2 t2 h1 hA, RcNeAt.tuple_int i2 t2 h1 hA⟩
      | str x2 =>
        obtain ⟨l1, vs1, its1, rfl, h1, rv1, rs1, z1⟩ := (seq_items I S).1 e1 r1
        obtain ⟨e2, _⟩ := e2; cases e2; obtain ⟨t2, rfl⟩ := r2
        have h : false = b := by simpa [eqP] using h
        subst h
        exact ⟨EqAt.tuple_str ⟨x2.toArray⟩ t2 h1 hA, RcAt.tuple_str ⟨x2.toArray⟩ t2 h1 hA, RcNeAt.tuple_str ⟨x2.toArray⟩ t2 h1 hA⟩
      | tup xs2 =>
        obtain ⟨l1, vs1, its1, rfl, h1, rv1, rs1, z1⟩ := (seq_items I S).1 e1 r1
        obtain ⟨l2, vs2, its2, rfl, h2, rv2, rs2, z2⟩ := (seq_items I S).1 e2 r2
        obtain ⟨e, k1, k2⟩ := eqL_spec (f := eqP n) (by simpa [eqP] using h)
        have he : ∀ j (j1 : j < its1.size) (j2 : j < its2.size), EqAt A.in1 s its1[j] its2[j] (e j) := fun j j1 j2 => by
          obtain ⟨p1, w1, a1, a2, a3⟩ := vals_at rv1 rs1 j j1
          obtain ⟨p2, w2, c1, c2, c3⟩ := vals_at rv2 rs2 j j2
          exact (ih p1 p2 (e j) w1 w2 _ _ hu1 (k1 j p1 p2 a1 c1) a2 c2 a3 c3).1
        have n1 : its1.size = xs1.length := by have a := rv1.length; have b := rs1.length; simp at a; omega
        have n2 : its2.size = xs2.length := by have a := rv2.length; have b := rs2.length; simp at a; omega
        rw [← n1, ← n2] at k2
        have rc : RcAt A s (.ref l1) (.ref l2) b := by rw [k2]; exact RcAt.tuples h1 h2 hA he
        have rn : RcNeAt A s (.ref l1) (.ref l2) (!b) := by rw [k2]; exact RcNeAt.tuples h1 h2 hA he
        refine ⟨?_, rc, rn⟩
        by_cases hl : l1 = l2
        · subst hl
          -- the very object: equal, as its items are
          have hb : b = true := same (RelV.inj r1 r2)
          subst hb
          exact EqAt.same _
        · exact EqAt.of_refs hl rc
      | lst xs2 =>
        obtain ⟨l1, vs1, its1, rfl, h1, rv1, rs1, z1⟩ := (seq_items I S).1 e1 r1
        obtain ⟨l2, vs2, its2, rfl, h2, rv2, rs2, z2⟩ := (seq_items I S).2.1 e2 r2
        have h : false = b := by simpa [eqP] using h
        subst h
        exact ⟨EqAt.tuple_list h1 h2 hA, RcAt.tuple_list h1 h2 hA, RcNeAt.tuple_list h1 h2 hA⟩
      | scr xs2 =>
        obtain ⟨l1, vs1, its1, rfl, h1, rv1, rs1, z1⟩ := (seq_items I S).1 e1 r1
        obtain ⟨l2, vs2, its2, rfl, h2, rv2, rs2, z2⟩ := (seq_items I S).2.2 e2 r2
        have h : false = b := by simpa [eqP] using h
        subst h
        exact ⟨EqAt.tuple_list h1 h2 hA, RcAt.tuple_list h1 h2 hA, RcNeAt.tuple_list h1 h2 hA⟩
      | dic _ _ => simp [eqP] at h
      | ref _ => simp [eqP] at h
      | adr _ => simp [eqP] at h
    | lst xs1 =>
      cases q with
      | non =>
        obtain ⟨l1, vs1, its1, rfl, h1, rv1, rs1, z1⟩ := (seq_items I S).2.1 e1 r1
        cases e2; cases r2
        have h : false = b := by simpa [eqP] using h
        subst h
        exact ⟨EqAt.list_none h1 hA, RcAt.list_none h1 hA, RcNeAt.list_none h1 hA⟩
      | bl b2 =>
        obtain ⟨l1, vs1, its1, rfl, h1, rv1, rs1, z1⟩ := (seq_items I S).2.1 e1 r1
        cases e2; cases r2
        have h : false = b := by simpa [eqP] using h
        subst h
        exact ⟨EqAt.list_bool b2 h1 hA, RcAt.list_bool b2 h1 hA, RcNeAt.list_bool b2 h1 hA⟩
      | int i2 =>
        obtain ⟨l1, vs1, its1, rfl, h1, rv1, rs1, z1⟩ := (seq_items I S).2.1 e1 r1
        cases e2; obtain ⟨t2, rfl⟩ := r2
        have h : false = b := by simpa [eqP] using h
        subst h
        exact ⟨EqAt.list_int i2 t2 h1 hA, RcAt.list_int i2 t2 h1 hA, RcNeAt.list_int i2 t2 h1 hA⟩
      | str x2 =>
        obtain ⟨l1, vs1, its1, rfl, h1, rv1, rs1, z1⟩ := (seq_items I S).2.1 e1 r1
        obtain ⟨e2, _⟩ := e2; cases e2; obtain ⟨t2, rfl⟩ := r2
        have h : false = b := by simpa [eqP] using h
        subst h
        exact ⟨EqAt.list_str ⟨x2.toArray⟩ t2 h1 hA, RcAt.list_str ⟨x2.toArray⟩ t2 h1 hA, RcNeAt.list_str ⟨x2.toArray⟩ t2 h1 hA⟩
      | tup xs2 =>
        obtain ⟨l1, vs1, its1, rfl, h1, rv1, rs1, z1⟩ := (seq_items I S).2.1 e1 r1
        obtain ⟨l2, vs2, its2, rfl, h2, rv2, rs2, z2⟩ := (seq_items I S).1 e2 r2
        have h : false = b := by simpa [eqP] using h
        subst h
        exact ⟨EqAt.list_tuple h1 h2 hA, RcAt.list_tuple h1 h2 hA, RcNeAt.list_tuple h1 h2 hA⟩
      | lst xs2 =>
        obtain ⟨l1, vs1, its1, rfl, h1, rv1, rs1, z1⟩ := (seq_items I S).2.1 e1 r1
        obtain ⟨l2, vs2, its2, rfl, h2, rv2, rs2, z2⟩ := (seq_items I S).2.1 e2 r2
        obtain ⟨e, k1, k2⟩ := eqL_spec (f := eqP n) (by simpa [eqP] using h)
        have he : ∀ j (j1 : j < its1.size) (j2 : j < its2.size), EqAt A.in1 s its1[j] its2[j] (e j) := fun j j1 j2 => by
          obtain ⟨p1, w1, a1, a2, a3⟩ := vals_at rv1 rs1 j j1
          obtain ⟨p2, w2, c1, c2, c3⟩ := vals_at rv2 rs2 j j2
          exact (ih p1 p2 (e j) w1 w2 _ _ hu1 (k1 j p1 p2 a1 c1) a2 c2 a3 c3).1
        have n1 : its1.size = xs1.length := by have a := rv1.length; have b := rs1.length; simp at a; omega
        have n2 : its2.size = xs2.length := by have a := rv2.length; have b := rs2.length; simp at a; omega
        rw [← n1, ← n2] at k2
        have rc : RcAt A s (.ref l1) (.ref l2) b ∧ RcNeAt A s (.ref l1) (.ref l2) (!b) := by
          by_cases hsz : its1.size = its2.size
          · rw [← hsz, Nat.min_self, beq_self_eq_true, Bool.and_true] at k2
            rw [k2]; exact ⟨RcAt.lists h1 h2 hsz hA he, RcNeAt.lists h1 h2 hsz hA he⟩
          · have : b = false := by rw [k2]; simp [hsz]
            subst this
            exact ⟨RcAt.lists_lengths h1 h2 (by simpa using hsz) hA, RcNeAt.lists_lengths h1 h2 (by simpa using hsz) hA⟩
        refine ⟨?_, rc.1, rc.2⟩
        have rc := rc.1
        by_cases hl : l1 = l2
        · subst hl
          -- the very object: equal, as its items are
          have hb : b = true := same (RelV.inj r1 r2)
          subst hb
          exact EqAt.same _
        · exact EqAt.of_refs hl rc
      | scr xs2 =>
        obtain ⟨l1, vs1, its1, rfl, h1, rv1, rs1, z1⟩ := (seq_items I S).2.1 e1 r1
        obtain ⟨l2, vs2, its2, rfl, h2, rv2, rs2, z2⟩ := (seq_items I S).2.2 e2 r2
        obtain ⟨e, k1, k2⟩ := eqL_spec (f := eqP n) (by simpa [eqP] using h)
        have he : ∀ j (j1 : j < its1.size) (j2 : j < its2.size), EqAt A.in1 s its1[j] its2[j] (e j) := fun j j1 j2 => by
          obtain ⟨p1, w1, a1, a2, a3⟩ := vals_at rv1 rs1 j j1
          obtain ⟨p2, w2, c1, c2, c3⟩ := vals_at rv2 rs2 j j2
          exact (ih p1 p2 (e j) w1 w2 _ _ hu1 (k1 j p1 p2 a1 c1) a2 c2 a3 c3).1
        have n1 : its1.size = xs1.length := by have a := rv1.length; have b := rs1.length; simp at a; omega
        have n2 : its2.size = xs2.length := by have a := rv2.length; have b := rs2.length; simp at a; omega
        rw [← n1, ← n2] at k2
        have rc : RcAt A s (.ref l1) (.ref l2) b ∧ RcNeAt A s (.ref l1) (.ref l2) (!b) := by
          by_cases hsz : its1.size = its2.size
          · rw [← hsz, Nat.min_self, beq_self_eq_true, Bool.and_true] at k2
            rw [k2]; exact ⟨RcAt.lists h1 h2 hsz hA he, RcNeAt.lists h1 h2 hsz hA he⟩
          · have : b = false := by rw [k2]; simp [hsz]
            subst this
            exact ⟨RcAt.lists_lengths h1 h2 (by simpa using hsz) hA, RcNeAt.lists_lengths h1 h2 (by simpa using hsz) hA⟩
        refine ⟨?_, rc.1, rc.2⟩
        have rc := rc.1
        by_cases hl : l1 = l2
        · subst hl
          -- the very object: equal, as its items are
          have hb : b = true := same (RelV.inj r1 r2)
          subst hb
          exact EqAt.same _
        · exact EqAt.of_refs hl rc
      | dic _ _ => simp [eqP] at h
      | ref _ => simp [eqP] at h
      | adr _ => simp [eqP] at h
    | scr xs1 =>
      cases q with
      | non =>
        obtain ⟨l1, vs1, its1, rfl, h1, rv1, rs1, z1⟩ := (seq_items I S).2.2 e1 r1
        cases e2; cases r2
        have h : false = b := by simpa [eqP] using h
        subst h
        exact ⟨EqAt.list_none h1 hA, RcAt.list_none h1 hA, RcNeAt.list_none h1 hA⟩
      | bl b2 =>
        obtain ⟨l1, vs1, its1, rfl, h1, rv1, rs1, z1⟩ := (seq_items I S).2.2 e1 r1
        cases e2; cases r2
        have h : false = b := by simpa [eqP] using h
        subst h
        exact ⟨EqAt.list_bool b2 h1 hA, RcAt.list_bool b2 h1 hA, RcNeAt.list_bool b2 h1 hA⟩
      | int i2 =>
        obtain ⟨l1, vs1, its1, rfl, h1, rv1, rs1, z1⟩ := (seq_items I S).2.2 e1 r1
        cases e2; obtain ⟨t2, rfl⟩ := r2
        have h : false = b := by simpa [eqP] using h
        subst h
        exact ⟨EqAt.list_int i2 t2 h1 hA, RcAt.list_int i2 t2 h1 hA, RcNeAt.list_int i2 t2 h1 hA⟩
      | str x2 =>
        obtain ⟨l1, vs1, its1, rfl, h1, rv1, rs1, z1⟩ := (seq_items I S).2.2 e1 r1
        obtain ⟨e2, _⟩ := e2; cases e2; obtain ⟨t2, rfl⟩ := r2
        have h : false = b := by simpa [eqP] using h
        subst h
        exact ⟨EqAt.list_str ⟨x2.toArray⟩ t2 h1 hA, RcAt.list_str ⟨x2.toArray⟩ t2 h1 hA, RcNeAt.list_str ⟨x2.toArray⟩ t2 h1 hA⟩
      | tup xs2 =>
        obtain ⟨l1, vs1, its1, rfl, h1, rv1, rs1, z1⟩ := (seq_items I S).2.2 e1 r1
        obtain ⟨l2, vs2, its2, rfl, h2, rv2, rs2, z2⟩ := (seq_items I S).1 e2 r2
        have h : false = b := by simpa [eqP] using h
        subst h
        exact ⟨EqAt.list_tuple h1 h2 hA, RcAt.list_tuple h1 h2 hA, RcNeAt.list_tuple h1 h2 hA⟩
      | lst xs2 =>
        obtain ⟨l1, vs1, its1, rfl, h1, rv1, rs1, z1⟩ := (seq_items I S).2.2 e1 r1
        obtain ⟨l2, vs2, its2, rfl, h2, rv2, rs2, z2⟩ := (seq_items I S).2.1 e2 r2
        obtain ⟨e, k1, k2⟩ := eqL_spec (f := eqP n) (by simpa [eqP] using h)
        have he : ∀ j (j1 : j < its1.size) (j2 : j < its2.size), EqAt A.in1 s its1[j] its2[j] (e j) := fun j j1 j2 => by
          obtain ⟨p1, w1, a1, a2, a3⟩ := vals_at rv1 rs1 j j1
          obtain ⟨p2, w2, c1, c2, c3⟩ := vals_at rv2 rs2 j j2
          exact (ih p1 p2 (e j) w1 w2 _ _ hu1 (k1 j p1 p2 a1 c1) a2 c2 a3 c3).1
        have n1 : its1.size = xs1.length := by have a := rv1.length; have b := rs1.length; simp at a; omega
        have n2 : its2.size = xs2.length := by have a := rv2.length; have b := rs2.length; simp at a; omega
        rw [← n1, ← n2] at k2
        have rc : RcAt A s (.ref l1) (.ref l2) b ∧ RcNeAt A s (.ref l1) (.ref l2) (!b) := by
          by_cases hsz : its1.size = its2.size
          · rw [← hsz, Nat.min_self, beq_self_eq_true, Bool.and_true] at k2
            rw [k2]; exact ⟨RcAt.lists h1 h2 hsz hA he, RcNeAt.lists h1 h2 hsz hA he⟩
          · have : b = false := by rw [k2]; simp [hsz]
            subst this
            exact ⟨RcAt.lists_lengths h1 h2 (by simpa using hsz) hA, RcNeAt.lists_lengths h1 h2 (by simpa using hsz) hA⟩
        refine ⟨?_, rc.1, rc.2⟩
        have rc := rc.1
        by_cases hl : l1 = l2
        · subst hl
          -- the very object: equal, as its items are
          have hb : b = true := same (RelV.inj r1 r2)
          subst hb
          exact EqAt.same _
        · exact EqAt.of_refs hl rc
      | scr xs2 =>
        obtain ⟨l1, vs1, its1, rfl, h1, rv1, rs1, z1⟩ := (seq_items I S).2.2 e1 r1
        obtain ⟨l2, vs2, its2, rfl, h2, rv2, rs2, z2⟩ := (seq_items I S).2.2 e2 r2
        obtain ⟨e, k1, k2⟩ := eqL_spec (f := eqP n) (by simpa [eqP] using h)
        have he : ∀ j (j1 : j < its1.size) (j2 : j < its2.size), EqAt A.in1 s its1[j] its2[j] (e j) := fun j j1 j2 => by
          obtain ⟨p1, w1, a1, a2, a3⟩ := vals_at rv1 rs1 j j1
          obtain ⟨p2, w2, c1, c2, c3⟩ := vals_at rv2 rs2 j j2
          exact (ih p1 p2 (e j) w1 w2 _ _ hu1 (k1 j p1 p2 a1 c1) a2 c2 a3 c3).1
        have n1 : its1.size = xs1.length := by have a := rv1.length; have b := rs1.length; simp at a; omega
        have n2 : its2.size = xs2.length := by have a := rv2.length; have b := rs2.length; simp at a; omega
        rw [← n1, ← n2] at k2
        have rc : RcAt A s (.ref l1) (.ref l2) b ∧ RcNeAt A s (.ref l1) (.ref l2) (!b) := by
          by_cases hsz : its1.size = its2.size
          · rw [← hsz, Nat.min_self, beq_self_eq_true, Bool.and_true] at k2
            rw [k2]; exact ⟨RcAt.lists h1 h2 hsz hA he, RcNeAt.lists h1 h2 hsz hA he⟩
          · have : b = false := by rw [k2]; simp [hsz]
            subst this
            exact ⟨RcAt.lists_lengths h1 h2 (by simpa using hsz) hA, RcNeAt.lists_lengths h1 h2 (by simpa using hsz) hA⟩
        refine ⟨?_, rc.1, rc.2⟩
        have rc := rc.1
        by_cases hl : l1 = l2
        · subst hl
          -- the very object: equal, as its items are
          have hb : b = true := same (RelV.inj r1 r2)
          subst hb
          exact EqAt.same _
        · exact EqAt.of_refs hl rc
      | dic _ _ => simp [eqP] at h
      | ref _ => simp [eqP] at h
      | adr _ => simp [eqP] at h
    | dic _ _ => simp [eqP] at h
    | ref _ => simp [eqP] at h
    | adr _ => simp [eqP] at h
end
end Pv
/-! Pv, part C: operations on pure values and their rules. -/
namespace Pv
open PySem PySem.Spec PyProof.Rows PySem.SeqAt L2

/-! ### what is wanted behind an answer -/
def Post (T : Txt) (W : Wd) (st : Store) (H : Hp) (z : PV) (Q : VK) : Prop := ∀ W' H', Go W H W' H' → Sim T W' st H' → ∀ w, Rep T.K W' z w → Q w H'
section
variable {T : Txt} {W : Wd} {st : Store} {H : Hp} {z : PV} {Q : VK}
theorem Post.here (k : Post T W st H z Q) (S : Sim T W st H) {w : V} (r : Rep T.K W z w) : Q w H := k W H (.refl W H) S w r
theorem Post.later (k : Post T W st H z Q) {W' : Wd} {H' : Hp} (g : Go W H W' H') : Post T W' st H' z Q := fun W2 H2 g2 => k W2 H2 (g.trans g2)
theorem Post.tup {xs : List PV} {vs : List V} (k : Post T W st H (.tup xs) Q) (S : Sim T W st H) (r : Reps T.K W xs vs) : ∀ p, H p = none → Q (.ref p) (upd H p (.tup vs)) := fun p hp => by
  obtain ⟨g, S'⟩ := S.laid hp (.tup vs)
  exact k _ _ g S' _ ⟨p, vs, rfl, SqT.of upd_same, r.up g.le⟩
theorem Post.lst {xs : List PV} {vs : List V} (k : Post T W st H (.lst xs) Q) (S : Sim T W st H) (r : Reps T.K W xs vs) : ∀ p, H p = none → Q (.ref p) (upd H p (.lst vs)) := fun p hp => by
  obtain ⟨g, S'⟩ := S.laid hp (.lst vs)
  exact k _ _ g S' _ ⟨p, vs, rfl, upd_same, r.up g.le⟩
end

/-! ### views -/
/-- a list's items, frozen or a cell's -/
def asL : PV → Store → Option (List PV)
  | .lst xs, _ => some xs
  | .ref n, st => match st[n]? with
    | some (.lst xs) => some xs
    | _ => none
  | _, _ => none
/-- .. to be read -/
def asR : PV → Store → Option (List PV)
  | .scr xs, _ => some xs
  | p, st => asL p st
/-- a list's or a tuple's items -/
def asQ : PV → Store → Option (List PV)
  | .tup xs, _ => some xs
  | p, st => asR p st
def asD : PV → Store → Option (List PV × List PV)
  | .dic ks vs, _ => some (ks, vs)
  | .ref n, st => match st[n]? with
    | some (.dic ks vs) => some (ks, vs)
    | some (.dlk ks vs) => some (ks, vs)
    | _ => none
  | _, _ => none
section
variable {T : Txt} {W : Wd} {st : Store} {H : Hp}
theorem asL_at (S : Sim T W st H) {p : PV} {v : V} (r : Rep T.K W p v) {xs : List PV} (h : asL p st = some xs) : ∃ a vs, v = .ref a ∧ H a = some (.lst vs) ∧ Reps T.K W xs vs := by
  cases p with
  | lst ys =>
    have h : ys = xs := by simpa [asL] using h
    subst h
    obtain ⟨a, vs, e, f, rs⟩ := r
    exact ⟨a, vs, e, S.sub _ _ f, rs⟩
  | ref n =>
    cases hc : st[n]? with
    | none => simp only [asL, hc] at h; cases h
    | some c =>
      simp only [asL, hc] at h
      cases c with
      | lst ys =>
        have h : ys = xs := by simpa using h
        subst h
        obtain ⟨a, e, rfl⟩ := r
        obtain ⟨vs, f, rs⟩ := S.cell n a _ e hc
        exact ⟨a, vs, rfl, f, rs⟩
      | _ => cases h
  | _ => simp [asL] at h
theorem asR_at (S : Sim T W st H) {p : PV} {v : V} (r : Rep T.K W p v) {xs : List PV} (h : asR p st = some xs) : ∃ a vs, v = .ref a ∧ SqL T.K H a vs ∧ Reps T.K W xs vs := by
  cases p with
  | scr ys =>
    have h : ys = xs := by simpa [asR] using h
    subst h
    obtain ⟨a, vs, e, f, rs⟩ := r
    exact ⟨a, vs, e, SqL.up f S.sub, rs⟩
  | lst ys =>
    obtain ⟨a, vs, e, f, rs⟩ := asL_at S r (by simpa [asR] using h)
    exact ⟨a, vs, e, SqL.of f, rs⟩
  | ref n =>
    obtain ⟨a, vs, e, f, rs⟩ := asL_at S r (by simpa [asR] using h)
    exact ⟨a, vs, e, SqL.of f, rs⟩
  | _ => simp [asR, asL] at h
theorem asQ_at (S : Sim T W st H) {p : PV} {v : V} (r : Rep T.K W p v) {xs : List PV} (h : asQ p st = some xs) : ∃ a vs, v = .ref a ∧ (SqL T.K H a vs ∨ SqT T.K H a vs) ∧ Reps T.K W xs vs := by
  cases p with
  | tup ys =>
    have h : ys = xs := by simpa [asQ] using h
    subst h
    obtain ⟨a, vs, e, f, rs⟩ := r
    exact ⟨a, vs, e, .inr (SqT.up f S.sub), rs⟩
  | _ =>
    obtain ⟨a, vs, e, f, rs⟩ := asR_at S r (by simpa [asQ] using h)
    exact ⟨a, vs, e, .inl f, rs⟩
theorem asD_at (S : Sim T W st H) {p : PV} {v : V} (r : Rep T.K W p v) {ks vs : List PV} (h : asD p st = some (ks, vs)) :
    ∃ a kvs, v = .ref a ∧ Rd H a (.dK kvs) ∧ RepK ks (kvs.map (·.1)) ∧ Reps T.K W vs (kvs.map (·.2)) := by
  cases p with
  | dic ks' vs' =>
    have h : ks' = ks ∧ vs' = vs := by simpa [asD] using h
    obtain ⟨rfl, rfl⟩ := h
    obtain ⟨a, kvs, e, f, rk, rs⟩ := r
    exact ⟨a, kvs, e, .inl (S.sub _ _ f), rk, rs⟩
  | ref n =>
    cases hc : st[n]? with
    | none => simp only [asD, hc] at h; cases h
    | some c =>
      simp only [asD, hc] at h
      obtain ⟨a, e, rfl⟩ := r
      cases c with
      | dic ks' vs' =>
        have h : ks' = ks ∧ vs' = vs := by simpa using h
        obtain ⟨rfl, rfl⟩ := h
        obtain ⟨kvs, f, rk, rs⟩ := S.cell n a _ e hc
        exact ⟨a, kvs, rfl, .inl f, rk, rs⟩
      | dlk ks' vs' =>
        have h : ks' = ks ∧ vs' = vs := by simpa using h
        obtain ⟨rfl, rfl⟩ := h
        obtain ⟨ob, kvs, f, rk, rs⟩ := S.cell n a _ e hc
        exact ⟨a, kvs, rfl, .inr ⟨ob, S.sub _ _ f⟩, rk, rs⟩
      | _ => cases h
  | _ => simp [asD] at h
end

/-! ### two-place operations: no new cell, nothing raised -/
def rP2 (T : Txt) (h : PV → PV → Store → Option PV) : R2 := fun v u H Q => ∃ W st p q z, Sim T W st H ∧ Rep T.K W p v ∧ Rep T.K W q u ∧ h p q st = some z ∧ Post T W st H z Q
def rP1 (T : Txt) (h : PV → Store → Option PV) : V → Hp → VK → Prop := fun v H Q => ∃ W st p z, Sim T W st H ∧ Rep T.K W p v ∧ h p st = some z ∧ Post T W st H z Q

def addP (p q : PV) (st : Store) : Option PV :=
  match p, q with
  | .int i, .int j => some (.int (i + j))
  | .str a, .str b => if a.length + b.length ≤ sizeLine then some (.str (a ++ b)) else none
  | .tup xs, .tup ys => if xs.length + ys.length ≤ sizeLine then some (.tup (xs ++ ys)) else none
  | p, q => match asL p st, asL q st with
    | some xs, some ys => if xs.length + ys.length ≤ sizeLine then some (.lst (xs ++ ys)) else none
    | _, _ => none
def subP (p q : PV) (_ : Store) : Option PV := match p, q with
  | .int i, .int j => some (.int (i - j))
  | _, _ => none
def mulP (p q : PV) (_ : Store) : Option PV := match p, q with
  | .int i, .int j => if (-(2 ^ 64) < i ∧ i < 2 ^ 64) ∨ (-(2 ^ 64) < j ∧ j < 2 ^ 64) then some (.int (i * j)) else none
  | .str [c], .int j => if 2 ≤ j ∧ j ≤ 1000 then some (.str (List.replicate j.toNat c)) else none
  | _, _ => none
def divP (p q : PV) (_ : Store) : Option PV := match p, q with
  | .int i, .int j => if 0 < j ∧ j < 1073741824 then some (.int (i / j)) else none
  | _, _ => none
def modP (p q : PV) (_ : Store) : Option PV := match p, q with
  | .int i, .int j => if 0 < j then some (.int (i % j)) else none
  | _, _ => none
def powP (p q : PV) (_ : Store) : Option PV := match p, q with
  | .int i, .int j => if 0 ≤ j ∧ j ≤ 1000000 ∧ i.natAbs < 2 ^ 64 then some (.int (i ^ j.toNat)) else none
  | _, _ => none
def negP (p : PV) (_ : Store) : Option PV := match p with
  | .int i => some (.int (-i))
  | _ => none

theorem str_app (a b : List Nat) : ((⟨a.toArray⟩ : Str) ++ ⟨b.toArray⟩) = ⟨(a ++ b).toArray⟩ := by
  show (⟨a.toArray ++ b.toArray⟩ : Str) = _
  simp
theorem str_len (a : List Nat) : (⟨a.toArray⟩ : Str).length = a.length := by
  show a.toArray.size = _
  simp

section
variable {X : Cx} {T : Txt}
theorem opAdd (hK : T.K = X.K) : OpR X (binaryOp .Add) (rP2 T addP) := by
  obtain ⟨K, cl⟩ := T
  have hK : K = X.K := hK
  subst hK
  rintro pins s σ H x y v u Q I rx ry ⟨W, st, p, q, z, S, rp, rq, h, k⟩
  have lists : ∀ {xs ys : List PV}, asL p st = some xs → asL q st = some ys → xs.length + ys.length ≤ sizeLine → z = .lst (xs ++ ys) → wpAny (model X.prog X.w) X.A (binaryOp .Add v u) (EP X pins σ Q) X.xe s := fun {xs ys} h1 h2 hz e => by
    subst e
    obtain ⟨a, vs, rfl, e1, r1⟩ := asL_at S rp h1
    obtain ⟨b, us, rfl, e2, r2⟩ := asL_at S rq h2
    exact op_cat pins s σ H _ _ v u Q I rx ry ⟨a, b, vs, us, rfl, rfl, e1, e2, by rw [Reps.length r1, Reps.length r2]; exact hz, k.lst S (r1.app r2)⟩
  have rest : (match asL p st, asL q st with | some xs, some ys => if xs.length + ys.length ≤ sizeLine then some (PV.lst (xs ++ ys)) else none | _, _ => none) = some z → wpAny (model X.prog X.w) X.A (binaryOp .Add v u) (EP X pins σ Q) X.xe s := fun h => by
    cases h1 : asL p st with
    | none => rw [h1] at h; cases h
    | some xs =>
      cases h2 : asL q st with
      | none => rw [h1, h2] at h; cases h
      | some ys =>
        rw [h1, h2] at h
        have h : (if xs.length + ys.length ≤ sizeLine then some (PV.lst (xs ++ ys)) else none) = some z := h
        by_cases hz : xs.length + ys.length ≤ sizeLine
        · rw [if_pos hz] at h
          exact lists h1 h2 hz (Option.some.inj h).symm
        · rw [if_neg hz] at h; cases h
  cases p with
  | int i =>
    cases q with
    | int j =>
      have h : PV.int (i + j) = z := by simpa [addP] using h
      subst h; cases rp; cases rq
      exact op_add pins s σ H _ _ v u Q I rx ry ⟨i, j, rfl, rfl, k.here S rfl⟩
    | _ => simp [addP, asL] at h
  | str a =>
    cases q with
    | str b =>
      unfold addP at h
      by_cases hz : a.length + b.length ≤ sizeLine
      · have h : PV.str (a ++ b) = z := by simpa [hz] using h
        subst h
        obtain ⟨rfl, _⟩ := rp; obtain ⟨rfl, _⟩ := rq
        refine op_add_str pins s σ H _ _ v u Q I rx ry ⟨_, _, rfl, rfl, by rw [str_len, str_len]; exact hz, k.here S ?_⟩
        rw [str_app]
        exact ⟨rfl, by rw [List.length_append]; exact hz⟩
      · simp [hz] at h
    | _ => simp [addP, asL] at h
  | tup xs =>
    cases q with
    | tup ys =>
      unfold addP at h
      by_cases hz : xs.length + ys.length ≤ sizeLine
      · have h : PV.tup (xs ++ ys) = z := by simpa [hz] using h
        subst h
        obtain ⟨a, vs, rfl, q1, r1⟩ := rp
        obtain ⟨b, us, rfl, q2, r2⟩ := rq
        refine op_catA pins s σ H _ _ v u Q I rx ry ⟨a, b, vs, us, rfl, rfl, SqT.up q1 S.sub, SqT.up q2 S.sub, by rw [Reps.length r1, Reps.length r2]; exact hz, fun e => ?_, fun e1 e2 => ?_, fun _ _ => k.tup S (r1.app r2)⟩
        · subst e
          have : xs = [] := by have := Reps.length r1; simp at this; exact List.length_eq_zero_iff.mp this.symm
          subst this
          exact k.here S ⟨b, us, rfl, q2, r2⟩
        · subst e2
          have : ys = [] := by have := Reps.length r2; simp at this; exact List.length_eq_zero_iff.mp this.symm
          subst this
          exact k.here S ⟨a, vs, rfl, q1, by simpa using r1⟩
      · simp [hz] at h
    | _ => simp [addP, asL] at h
  | lst xs => exact rest (by cases q <;> simpa [addP] using h)
  | ref n => exact rest (by cases q <;> simpa [addP] using h)
  | _ => cases q <;> simp [addP, asL] at h

theorem opSub (hK : T.K = X.K) : OpR X (binaryOp .Sub) (rP2 T subP) := by
  rintro pins s σ H x y v u Q I rx ry ⟨W, st, p, q, z, S, rp, rq, h, k⟩
  cases p <;> cases q <;> simp [subP] at h
  subst h; cases rp; cases rq
  exact op_sub pins s σ H _ _ v u Q I rx ry ⟨_, _, rfl, rfl, k.here S rfl⟩
theorem rep_fold (c : Nat) : ∀ (k : Nat) (acc : Array Nat), (List.replicate k #[c]).foldl (· ++ ·) acc = acc ++ (List.replicate k c).toArray
  | 0, acc => by simp
  | k + 1, acc => by
    rw [List.replicate_succ, List.foldl_cons, rep_fold c k, List.replicate_succ]
    apply Array.ext'
    simp
theorem op_mul_str {X : Cx} : OpR X (binaryOp .Mult) (fun x y H Q => ∃ (c : Nat) (n : Int), x = .str ⟨#[c]⟩ ∧ y = .int n ∧ 2 ≤ n ∧ n ≤ 1000 ∧ Q (.str ⟨(List.replicate n.toNat c).toArray⟩) H) := by
  intro pins s σ H x y v u Q I rx ry h
  obtain ⟨c, n, rfl, rfl, h2, hm, q⟩ := h
  obtain ⟨t, rfl⟩ := rx
  obtain ⟨t', rfl⟩ := ry
  have e1 : (⟨#[c]⟩ : Str).length = 1 := rfl
  refine PySem.P.mul_str (by simp; omega) (fun _ _ => ?_) (fun _ _ => ?_) ?_
  · rw [e1]
    have : (1 : Int) ≤ (2 ^ 63 - 1) / n := Int.le_ediv_of_mul_le (by omega) (by omega)
    omega
  · rw [e1]
    unfold Builtin.Str.tooLong
    simp [sizeLine_eq]
    omega
  · rw [if_neg (by omega), if_neg (by simp [e1]; omega), rep_fold]
    refine ⟨?_, .str _, H, I.tok _, ⟨s.toks, by simp⟩, q⟩
    simp [Str.length, sizeLine_eq]
    omega
theorem opMul (hK : T.K = X.K) : OpR X (binaryOp .Mult) (rP2 T mulP) := by
  rintro pins s σ H x y v u Q I rx ry ⟨W, st, p, q, z, S, rp, rq, h, k⟩
  cases p with
  | int i =>
    cases q with
    | int j =>
      unfold mulP at h
      by_cases hc : (-(2 ^ 64) < i ∧ i < 2 ^ 64) ∨ (-(2 ^ 64) < j ∧ j < 2 ^ 64)
      · have h : PV.int (i * j) = z := by simpa only [if_pos hc, Option.some.injEq] using h
        subst h; cases rp; cases rq
        exact op_mul pins s σ H _ _ v u Q I rx ry ⟨i, j, rfl, rfl, hc, k.here S rfl⟩
      · simp only [if_neg hc] at h; cases h
    | _ => simp [mulP] at h
  | str a =>
    cases a with
    | nil => simp [mulP] at h
    | cons c r =>
      cases r with
      | cons _ _ => simp [mulP] at h
      | nil =>
        cases q with
        | int j =>
          unfold mulP at h
          by_cases hc : 2 ≤ j ∧ j ≤ 1000
          · have h : PV.str (List.replicate j.toNat c) = z := by simpa only [if_pos hc, Option.some.injEq] using h
            subst h
            obtain ⟨rfl, _⟩ := rp; cases rq
            exact op_mul_str pins s σ H _ _ v u Q I rx ry ⟨c, j, rfl, rfl, hc.1, hc.2, k.here S ⟨rfl, by rw [List.length_replicate, sizeLine_eq]; omega⟩⟩
          · simp only [if_neg hc] at h; cases h
        | _ => simp [mulP] at h
  | _ => simp [mulP] at h
theorem opDiv (hK : T.K = X.K) : OpR X (binaryOp .FloorDiv) (rP2 T divP) := by
  rintro pins s σ H x y v u Q I rx ry ⟨W, st, p, q, z, S, rp, rq, h, k⟩
  cases p with
  | int i =>
    cases q with
    | int j =>
      unfold divP at h
      by_cases hc : 0 < j ∧ j < 1073741824
      · have h : PV.int (i / j) = z := by simpa only [if_pos hc, Option.some.injEq] using h
        subst h; cases rp; cases rq
        exact op_fdiv pins s σ H _ _ v u Q I rx ry ⟨i, j, rfl, rfl, hc, k.here S rfl⟩
      · simp only [if_neg hc] at h; cases h
    | _ => simp [divP] at h
  | _ => simp [divP] at h
theorem opMod (hK : T.K = X.K) : OpR X (binaryOp .Mod) (rP2 T modP) := by
  rintro pins s σ H x y v u Q I rx ry ⟨W, st, p, q, z, S, rp, rq, h, k⟩
  cases p with
  | int i =>
    cases q with
    | int j =>
      unfold modP at h
      by_cases hc : 0 < j
      · have h : PV.int (i % j) = z := by simpa only [if_pos hc, Option.some.injEq] using h
        subst h; cases rp; cases rq
        exact op_mod pins s σ H _ _ v u Q I rx ry ⟨i, j, rfl, rfl, hc, k.here S rfl⟩
      · simp only [if_neg hc] at h; cases h
    | _ => simp [modP] at h
  | _ => simp [modP] at h
theorem opPow (hK : T.K = X.K) : OpR X (binaryOp .Pow) (rP2 T powP) := by
  rintro pins s σ H x y v u Q I rx ry ⟨W, st, p, q, z, S, rp, rq, h, k⟩
  cases p with
  | int i =>
    cases q with
    | int j =>
      unfold powP at h
      by_cases hc : 0 ≤ j ∧ j ≤ 1000000 ∧ i.natAbs < 2 ^ 64
      · have h : PV.int (i ^ j.toNat) = z := by simpa only [if_pos hc, Option.some.injEq] using h
        subst h; cases rp; cases rq
        exact op_pow pins s σ H _ _ v u Q I rx ry ⟨i, j, rfl, rfl, hc, k.here S rfl⟩
      · simp only [if_neg hc] at h; cases h
    | _ => simp [powP] at h
  | _ => simp [powP] at h
theorem unNeg (hK : T.K = X.K) : UnR X (unaryOp .USub) (rP1 T negP) := by
  rintro pins s σ H x v Q I rx ⟨W, st, p, z, S, rp, h, k⟩
  cases p <;> simp [negP] at h
  subst h; cases rp
  exact un_neg pins s σ H _ v Q I rx ⟨_, rfl, k.here S rfl⟩

/-! ### comparisons -/
/-- a list in a cell, seen as a value; the store where it is frozen -/
def dreP (p : PV) (st : Store) : PV := match p with
  | .ref n => match st[n]? with
    | some (.lst xs) => .lst xs
    | _ => p
  | _ => p
def dreS (p : PV) (st : Store) : Store := match p with
  | .ref n => match st[n]? with
    | some (.lst _) => st.set n .dead
    | _ => st
  | _ => st
theorem dre_at {W : Wd} {st : Store} {H : Hp} (S : Sim T W st H) {p : PV} {v : V} (r : Rep T.K W p v) : ∃ W', W.Le W' ∧ Sim T W' (dreS p st) H ∧ Rep T.K W' (dreP p st) v := by
  cases p with
  | ref n =>
    cases hc : st[n]? with
    | none => exact ⟨W, .refl W, by simp only [dreS, hc]; exact S, by simp only [dreP, hc]; exact r⟩
    | some c =>
      cases c with
      | lst xs =>
        obtain ⟨a, e, rfl⟩ := r
        obtain ⟨vs, f, rs⟩ := S.cell n a _ e hc
        obtain ⟨g, S'⟩ := S.froze e hc rfl f
        exact ⟨_, g.le, by simp only [dreS, hc]; exact S', by simp only [dreP, hc]; exact ⟨a, vs, rfl, upd_same, rs.up g.le⟩⟩
      | _ => exact ⟨W, .refl W, by simp only [dreS, hc]; exact S, by simp only [dreP, hc]; exact r⟩
  | _ => exact ⟨W, .refl W, S, r⟩
def eqB (p q : PV) (st : Store) : Option Bool := eqP 200 (dreP p st) (dreP q (dreS p st))
def eqC (p q : PV) (st : Store) : Option PV := (eqB p q st).map .bl
def neC (p q : PV) (st : Store) : Option PV := (eqB p q st).map fun b => .bl (!b)
theorem dre2_at {W : Wd} {st : Store} {H : Hp} (S : Sim T W st H) {p q : PV} {v u : V} (r : Rep T.K W p v) (r' : Rep T.K W q u) : ∃ W' st', Sim T W' st' H ∧ Rep T.K W' (dreP p st) v ∧ Rep T.K W' (dreP q (dreS p st)) u := by
  obtain ⟨W1, l1, S1, r1⟩ := dre_at S r
  obtain ⟨W2, l2, S2, r2⟩ := dre_at S1 (r'.up l1)
  exact ⟨W2, _, S2, r1.up l2, r2⟩
theorem opEq (hK : T.K = X.K) (hu : X.A.units + 200 < cLine) : OpR X (compareOp .Eq) (rP2 T eqC) := by
  obtain ⟨K, cl⟩ := T
  have hK : K = X.K := hK
  subst hK
  rintro pins s σ H x y v u Q I rx ry ⟨W, st, p, q, z, S, rp, rq, h, k⟩
  obtain ⟨b, e, rfl⟩ := Option.map_eq_some_iff.mp h
  obtain ⟨W2, st2, S2, rp2, rq2⟩ := dre2_at S rp rq
  exact (eq_at I S2.sub 200 X.A _ _ b x y v u hu e rp2 rq2 rx ry).2.1 X.prog X.w _ _ ⟨.bl b, H, I, rfl, k.here S rfl⟩
theorem opNe (hK : T.K = X.K) (hu : X.A.units + 200 < cLine) : OpR X (compareOp .NotEq) (rP2 T neC) := by
  obtain ⟨K, cl⟩ := T
  have hK : K = X.K := hK
  subst hK
  rintro pins s σ H x y v u Q I rx ry ⟨W, st, p, q, z, S, rp, rq, h, k⟩
  obtain ⟨b, e, rfl⟩ := Option.map_eq_some_iff.mp h
  obtain ⟨W2, st2, S2, rp2, rq2⟩ := dre2_at S rp rq
  exact (eq_at I S2.sub 200 X.A _ _ b x y v u hu e rp2 rq2 rx ry).2.2 X.prog X.w _ _ ⟨.bl (!b), H, I, rfl, k.here S rfl⟩

def ltN : List Nat → List Nat → Bool
  | [], [] => false
  | [], _ :: _ => true
  | _ :: _, [] => false
  | x :: xs, y :: ys => if x < y then true else if y < x then false else ltN xs ys
theorem ltN_eq : ∀ a b : List Nat, ltN a b = decide (a < b)
  | [], [] => by simp [ltN]
  | [], y :: ys => by simp [ltN]
  | x :: xs, [] => by simp [ltN]
  | x :: xs, y :: ys => by
    unfold ltN
    rw [ltN_eq xs ys]
    by_cases h1 : x < y
    · rw [if_pos h1]
      exact (decide_eq_true (List.cons_lt_cons_iff.mpr (.inl h1))).symm
    · rw [if_neg h1]
      by_cases h2 : y < x
      · rw [if_pos h2]
        exact (decide_eq_false fun z => (List.cons_lt_cons_iff.mp z).elim (fun a => h1 a) fun a => by omega).symm
      · rw [if_neg h2]
        have e : x = y := by omega
        subst e
        exact decide_eq_decide.mpr ⟨fun a => List.cons_lt_cons_iff.mpr (.inr ⟨rfl, a⟩), fun a => (List.cons_lt_cons_iff.mp a).elim (fun z => absurd z h1) fun z => z.2⟩
def ltC (p q : PV) (_ : Store) : Option PV := match p, q with
  | .int i, .int j => some (.bl (decide (i < j)))
  | .str a, .str b => some (.bl (ltN a b))
  | _, _ => none
def leC (p q : PV) (_ : Store) : Option PV := match p, q with
  | .int i, .int j => some (.bl (decide (i ≤ j)))
  | _, _ => none
def gtC (p q : PV) (_ : Store) : Option PV := match p, q with
  | .int i, .int j => some (.bl (decide (j < i)))
  | _, _ => none
def geC (p q : PV) (_ : Store) : Option PV := match p, q with
  | .int i, .int j => some (.bl (decide (j ≤ i)))
  | _, _ => none
theorem opLt (hK : T.K = X.K) : OpR X (compareOp .Lt) (rP2 T ltC) := by
  rintro pins s σ H x y v u Q I rx ry ⟨W, st, p, q, z, S, rp, rq, h, k⟩
  cases p with
  | int i =>
    cases q <;> simp [ltC] at h
    subst h; cases rp; cases rq
    exact op_lt pins s σ H _ _ v u Q I rx ry ⟨_, _, rfl, rfl, k.here S rfl⟩
  | str a =>
    cases q <;> simp [ltC] at h
    subst h
    obtain ⟨rfl, _⟩ := rp; obtain ⟨rfl, _⟩ := rq
    refine op_lt_str pins s σ H _ _ v u Q I rx ry ⟨_, _, rfl, rfl, k.here S ?_⟩
    rw [ltN_eq]
    exact rfl
  | _ => simp [ltC] at h
theorem opLe (hK : T.K = X.K) : OpR X (compareOp .LtE) (rP2 T leC) := by
  rintro pins s σ H x y v u Q I rx ry ⟨W, st, p, q, z, S, rp, rq, h, k⟩
  cases p <;> cases q <;> simp [leC] at h
  subst h; cases rp; cases rq
  exact op_le pins s σ H _ _ v u Q I rx ry ⟨_, _, rfl, rfl, k.here S rfl⟩
theorem opGt (hK : T.K = X.K) : OpR X (compareOp .Gt) (rP2 T gtC) := by
  rintro pins s σ H x y v u Q I rx ry ⟨W, st, p, q, z, S, rp, rq, h, k⟩
  cases p <;> cases q <;> simp [gtC] at h
  subst h; cases rp; cases rq
  exact op_gt pins s σ H _ _ v u Q I rx ry ⟨_, _, rfl, rfl, k.here S rfl⟩
theorem opGe (hK : T.K = X.K) : OpR X (compareOp .GtE) (rP2 T geC) := by
  rintro pins s σ H x y v u Q I rx ry ⟨W, st, p, q, z, S, rp, rq, h, k⟩
  cases p <;> cases q <;> simp [geC] at h
  subst h; cases rp; cases rq
  exact op_ge pins s σ H _ _ v u Q I rx ry ⟨_, _, rfl, rfl, k.here S rfl⟩
/-- is None -/
def isNon : PV → Bool
  | .non => true
  | _ => false
theorem rep_non {K : PySem.W.Frag} {W : Wd} {p : PV} {v : V} (r : Rep K W p v) : isNon p = decide (v = .non) := by
  cases p with
  | non => cases r; rfl
  | bl _ => cases r; rfl
  | int _ => cases r; rfl
  | str _ => obtain ⟨rfl, _⟩ := r; rfl
  | tup _ => obtain ⟨_, _, rfl, _⟩ := r; rfl
  | lst _ => obtain ⟨_, _, rfl, _⟩ := r; rfl
  | scr _ => obtain ⟨_, _, rfl, _⟩ := r; rfl
  | dic _ _ => obtain ⟨_, _, rfl, _⟩ := r; rfl
  | adr _ => cases r; rfl
  | ref _ => obtain ⟨_, _, rfl⟩ := r; rfl
def isC (p q : PV) (_ : Store) : Option PV := match q with
  | .non => some (.bl (isNon p))
  | _ => none
def isntC (p q : PV) (_ : Store) : Option PV := match q with
  | .non => some (.bl (!isNon p))
  | _ => none
theorem opIs (hK : T.K = X.K) : OpR X (compareOp .Is) (rP2 T isC) := by
  rintro pins s σ H x y v u Q I rx ry ⟨W, st, p, q, z, S, rp, rq, h, k⟩
  cases q <;> simp [isC] at h
  subst h; cases rq
  exact op_isN pins s σ H _ _ v u Q I rx ry ⟨rfl, k.here S (by rw [rep_non rp]; exact rfl)⟩
theorem opIsnt (hK : T.K = X.K) : OpR X (compareOp .IsNot) (rP2 T isntC) := by
  rintro pins s σ H x y v u Q I rx ry ⟨W, st, p, q, z, S, rp, rq, h, k⟩
  cases q <;> simp [isntC] at h
  subst h; cases rq
  exact op_notN pins s σ H _ _ v u Q I rx ry ⟨rfl, k.here S (by rw [rep_non rp]; exact rfl)⟩
end
end Pv
/-! Pv, part D: membership, subscripts, slices, truth, built-ins, methods. -/
namespace Pv
open PySem PySem.Spec PyProof.Rows PySem.SeqAt L2

/-! ### flat values, keys -/
def flat : PV → Bool
  | .non => true | .bl _ => true | .int _ => true | .str _ => true | _ => false
def eqF : PV → PV → Bool
  | .non, .non => true
  | .bl a, .bl b => a == b
  | .bl a, .int b => (if a then 1 else 0) == b
  | .int a, .bl b => a == (if b then 1 else 0)
  | .int a, .int b => a == b
  | .str a, .str b => a == b
  | _, _ => false
theorem flat_V {K : PySem.W.Frag} {W : Wd} {p : PV} {v : V} (r : Rep K W p v) (h : flat p = true) : flatV v = true := by
  cases p with
  | non => cases r; rfl
  | bl _ => cases r; rfl
  | int _ => cases r; rfl
  | str _ => obtain ⟨rfl, _⟩ := r; rfl
  | _ => cases h
theorem eqF_V {K : PySem.W.Frag} {W : Wd} {p q : PV} {v u : V} (r : Rep K W p v) (r' : Rep K W q u) (h : flat p = true) (h' : flat q = true) : eqV v u = eqF p q := by
  cases p with
  | non => cases q <;> first | (cases r; cases r'; rfl) | (cases r; obtain ⟨rfl, _⟩ := r'; rfl) | (cases h'; done)
  | bl _ => cases q <;> first | (cases r; cases r'; rfl) | (cases r; obtain ⟨rfl, _⟩ := r'; rfl) | (cases h'; done)
  | int _ => cases q <;> first | (cases r; cases r'; rfl) | (cases r; obtain ⟨rfl, _⟩ := r'; rfl) | (cases h'; done)
  | str _ => cases q <;> first | (obtain ⟨rfl, _⟩ := r; cases r'; rfl) | (obtain ⟨rfl, _⟩ := r; obtain ⟨rfl, _⟩ := r'; exact str_eq_iff _ _) | (cases h'; done)
  | _ => cases h
theorem flats_V {K : PySem.W.Frag} {W : Wd} : ∀ {ps : List PV} {vs : List V}, Reps K W ps vs → ps.all flat = true → vs.all flatV = true
  | [], _, h, _ => by cases h; rfl
  | p :: ps, _, ⟨v, r, e, a, b⟩, h => by
    subst e
    rw [List.all_cons, Bool.and_eq_true] at h
    rw [List.all_cons, flat_V a h.1, flats_V b h.2]; rfl
theorem inV_any {K : PySem.W.Frag} {W : Wd} {q : PV} {u : V} (r' : Rep K W q u) (h' : flat q = true) : ∀ {ps : List PV} {vs : List V}, Reps K W ps vs → ps.all flat = true → inV u vs = ps.any (eqF · q)
  | [], _, h, _ => by cases h; rfl
  | p :: ps, _, ⟨v, r, e, a, b⟩, h => by
    subst e
    rw [List.all_cons, Bool.and_eq_true] at h
    have ih := inV_any r' h' b h.2
    show ((v :: r).any fun y => eqV y u) = _
    rw [List.any_cons, List.any_cons, eqF_V a r' h.1 h', ← ih]
    rfl
def keyOf : PV → Option Key
  | .int i => some (.inl i)
  | .str s => some (.inr ⟨s.toArray⟩)
  | _ => none
def keyEq : PV → PV → Bool
  | .int i, .int j => i == j
  | .str a, .str b => a == b
  | _, _ => false
theorem keyOf_V {K : PySem.W.Frag} {W : Wd} {p : PV} {v : V} {k : Key} (r : Rep K W p v) (h : keyOf p = some k) : v = kV k := by
  cases p with
  | int i => cases h; exact r
  | str s => cases h; exact r.1
  | _ => cases h
theorem repK1_of {K : PySem.W.Frag} {W : Wd} {p : PV} {v : V} {k : Key} (r : Rep K W p v) (h : keyOf p = some k) : RepK1 p k := by
  cases p with
  | int i => cases h; rfl
  | str s => cases h; exact ⟨rfl, r.2⟩
  | _ => cases h
theorem rep_of_key {K : PySem.W.Frag} {W : Wd} {p : PV} {k : Key} (h : RepK1 p k) : Rep K W p (kV k) := by
  cases p with
  | int i => cases h; rfl
  | str s => obtain ⟨rfl, hz⟩ := h; exact ⟨rfl, hz⟩
  | _ => cases h
theorem keyEq_iff {p q : PV} {k j : Key} (h : RepK1 p k) (h' : RepK1 q j) : keyEq p q = decide (k = j) := by
  cases p with
  | int i =>
    cases h
    cases q with
    | int j => cases h'; rw [Bool.eq_iff_iff]; simp [keyEq]
    | str s => obtain ⟨rfl, _⟩ := h'; simp [keyEq]
    | _ => cases h'
  | str i =>
    obtain ⟨rfl, _⟩ := h
    cases q with
    | int j => cases h'; simp [keyEq]
    | str s => obtain ⟨rfl, _⟩ := h'; rw [Bool.eq_iff_iff]; simp [keyEq]
    | _ => cases h'
  | _ => cases h
def lookD (k : PV) : List PV → List PV → Option PV
  | k' :: ks, v :: vs => if keyEq k' k then some v else lookD k ks vs
  | _, _ => none
def repD (k v : PV) : List PV → List PV → List PV
  | k' :: ks, v' :: vs => (if keyEq k' k then v else v') :: repD k v ks vs
  | _, _ => []
def hasD (k : PV) (ks : List PV) : Bool := ks.any (keyEq · k)
def putDk (k : PV) (ks : List PV) : List PV := if hasD k ks then ks else ks ++ [k]
def putDv (k v : PV) (ks vs : List PV) : List PV := if hasD k ks then repD k v ks vs else vs ++ [v]
theorem lookD_at {K : PySem.W.Frag} {W : Wd} {p : PV} {k : Key} (hk : RepK1 p k) : ∀ {ks vs : List PV} {kvs : List (Key × V)}, RepK ks (kvs.map (·.1)) → Reps K W vs (kvs.map (·.2)) →
    (lookD p ks vs = none ∧ valV kvs k = none) ∨ ∃ z u, lookD p ks vs = some z ∧ valV kvs k = some u ∧ Rep K W z u
  | [], vs, [], _, _ => .inl ⟨by cases vs <;> rfl, rfl⟩
  | [], _, _ :: _, h, _ => by cases h
  | _ :: _, _, [], ⟨_, _, e, _⟩, _ => by cases e
  | k' :: ks, [], _ :: _, _, h => by cases h
  | k' :: ks, v' :: vs, (j, u) :: r, ⟨j', r', e, a, b⟩, ⟨u', s', e', c, d⟩ => by
    cases e; cases e'
    have q := keyEq_iff a hk
    by_cases h : j = k
    · right
      refine ⟨v', u, ?_, valV_pos (p := (j, u)) h, c⟩
      unfold lookD
      rw [q, decide_eq_true h, if_pos rfl]
    · have h1 : lookD p (k' :: ks) (v' :: vs) = lookD p ks vs := by
        show (if keyEq k' p = true then some v' else lookD p ks vs) = _
        rw [q, decide_eq_false h, if_neg Bool.false_ne_true]
      rw [h1, valV_neg (p := (j, u)) h]
      exact lookD_at hk b d
theorem hasD_at {p : PV} {k : Key} (hk : RepK1 p k) : ∀ {ks : List PV} {kvs : List (Key × V)}, RepK ks (kvs.map (·.1)) → (kvs.any fun kv => decide (kv.1 = k)) = hasD p ks
  | [], [], _ => rfl
  | [], _ :: _, h => by cases h
  | _ :: _, [], ⟨_, _, e, _⟩ => by cases e
  | k' :: ks, (j, u) :: r, ⟨j', r', e, a, b⟩ => by
    cases e
    have ih := hasD_at hk b
    unfold hasD at ih ⊢
    rw [List.any_cons, List.any_cons, keyEq_iff a hk, ih]
theorem repD_at {K : PySem.W.Frag} {W : Wd} {p z : PV} {k : Key} {u : V} (hk : RepK1 p k) (rz : Rep K W z u) : ∀ {ks vs : List PV} {kvs : List (Key × V)}, RepK ks (kvs.map (·.1)) → Reps K W vs (kvs.map (·.2)) →
    Reps K W (repD p z ks vs) ((kvs.map fun kv => if kv.1 = k then (kv.1, u) else kv).map (·.2))
  | [], vs, [], _, _ => by cases vs <;> rfl
  | [], _, _ :: _, h, _ => by cases h
  | _ :: _, _, [], ⟨_, _, e, _⟩, _ => by cases e
  | k' :: ks, [], _ :: _, _, h => by cases h
  | k' :: ks, v' :: vs, (j, w) :: r, ⟨j', r', e, a, b⟩, ⟨u', s', e', c, d⟩ => by
    cases e; cases e'
    have q := keyEq_iff a hk
    have ih := repD_at hk rz b d
    refine ⟨_, _, rfl, ?_, ih⟩
    show Rep K W (if keyEq k' p = true then z else v') (if j = k then (j, u) else (j, w)).2
    rw [q]
    by_cases h : j = k
    · rw [decide_eq_true h, if_pos rfl, if_pos h]; exact rz
    · rw [decide_eq_false h, if_neg Bool.false_ne_true, if_neg h]; exact c
theorem RepK.app : ∀ {ks js : List PV} {a b : List Key}, RepK ks a → RepK js b → RepK (ks ++ js) (a ++ b)
  | [], _, _, _, h, s => by cases h; exact s
  | _ :: _, _, _, _, ⟨v, r, e, h, t⟩, s => by subst e; exact ⟨v, _, rfl, h, RepK.app t s⟩
theorem putD_at {K : PySem.W.Frag} {W : Wd} {p z : PV} {k : Key} {u : V} (hk : RepK1 p k) (rz : Rep K W z u) {ks vs : List PV} {kvs : List (Key × V)} (h1 : RepK ks (kvs.map (·.1))) (h2 : Reps K W vs (kvs.map (·.2))) :
    RepK (putDk p ks) ((putK kvs k u).map (·.1)) ∧ Reps K W (putDv p z ks vs) ((putK kvs k u).map (·.2)) := by
  have hh := hasD_at hk h1
  unfold putDk putDv putK
  cases hc : hasD p ks with
  | true =>
    rw [hh, hc, if_pos rfl, if_pos rfl, if_pos rfl]
    refine ⟨?_, repD_at hk rz h1 h2⟩
    have : ((kvs.map fun kv => if kv.1 = k then (kv.1, u) else kv).map (·.1)) = kvs.map (·.1) := by
      rw [List.map_map]
      refine List.map_congr_left fun x _ => ?_
      show (if x.1 = k then (x.1, u) else x).1 = x.1
      split <;> rfl
    rw [this]; exact h1
  | false =>
    rw [hh, hc, if_neg Bool.false_ne_true, if_neg Bool.false_ne_true, if_neg Bool.false_ne_true]
    rw [List.map_append, List.map_append]
    exact ⟨h1.app ⟨k, [], rfl, hk, rfl⟩, h2.app ⟨u, [], rfl, rz, rfl⟩⟩

/-! ### in, not in -/
def inB (p q : PV) (st : Store) : Option Bool :=
  match q with
  | .str b => match p with
    | .str [c] => some (b.contains c)
    | _ => none
  | q => match asQ q st with
    | some xs => if flat p && xs.all flat then some (xs.any (eqF · p)) else none
    | none => match asD q st with
      | some (ks, _) => (keyOf p).map fun _ => hasD p ks
      | none => none
def inC (p q : PV) (st : Store) : Option PV := (inB p q st).map .bl
def ninC (p q : PV) (st : Store) : Option PV := (inB p q st).map fun b => .bl (!b)
theorem opIn_core {X : Cx} {T : Txt} (hK : T.K = X.K) (hu : X.A.units + 1 < cLine) (neg : Bool) : OpR X (compareOp (if neg then .NotIn else .In)) (rP2 T fun p q st => (inB p q st).map fun b => .bl (if neg then !b else b)) := by
  obtain ⟨K, cl⟩ := T
  have hK : K = X.K := hK
  subst hK
  rintro pins s σ H x y v u Q I rx ry ⟨W, st, p, q, z, S, rp, rq, h, k⟩
  obtain ⟨b, e, rfl⟩ := Option.map_eq_some_iff.mp h
  have seqs : ∀ xs, asQ q st = some xs → (flat p && xs.all flat) = true → xs.any (eqF · p) = b → wpAny (model X.prog X.w) X.A (compareOp (if neg then .NotIn else .In) v u) (EP X pins σ Q) X.xe s := fun xs h1 h2 h3 => by
    rw [Bool.and_eq_true] at h2
    obtain ⟨a, vs, rfl, e1, r1⟩ := asQ_at S rq h1
    have e2 := inV_any rp h2.1 r1 h2.2
    rw [h3] at e2
    cases neg with
    | true => exact op_notIn_seq pins s σ H _ _ v u Q I rx ry ⟨a, vs, rfl, e1, flat_V rp h2.1, flats_V r1 h2.2, k.here S (by rw [e2]; exact rfl)⟩
    | false => exact op_in_seq pins s σ H _ _ v u Q I rx ry ⟨a, vs, rfl, e1, flat_V rp h2.1, flats_V r1 h2.2, k.here S (by rw [e2]; exact rfl)⟩
  have dicts : ∀ ks vs, asD q st = some (ks, vs) → (keyOf p).map (fun _ => hasD p ks) = some b → wpAny (model X.prog X.w) X.A (compareOp (if neg then .NotIn else .In) v u) (EP X pins σ Q) X.xe s := fun ks vs h1 h2 => by
    obtain ⟨ky, hk, hb⟩ := Option.map_eq_some_iff.mp h2
    obtain ⟨a, kvs, rfl, e1, r1, r2⟩ := asD_at S rq h1
    cases (show u = Value.ref a from ry)
    have hk1 := repK1_of rp hk
    have hv := keyOf_V rp hk
    have g : DGet H a x (valV kvs ky) := .inl ⟨kvs, ky, e1, hv, rfl⟩
    have hh := hasD_at hk1 r1
    rw [valV_any, hb] at hh
    cases neg with
    | true => exact d_notIn hu I g rx fun s3 I3 => ⟨.bl (!(valV kvs ky).isSome), H, I3, rfl, k.here S (by rw [hh]; exact rfl)⟩
    | false => exact d_in hu I g rx fun s3 I3 => ⟨.bl (valV kvs ky).isSome, H, I3, rfl, k.here S (by rw [hh]; exact rfl)⟩
  have other : (match asQ q st with
    | some xs => if flat p && xs.all flat then some (xs.any (eqF · p)) else none
    | none => match asD q st with
      | some (ks, _) => (keyOf p).map fun _ => hasD p ks
      | none => none) = some b → wpAny (model X.prog X.w) X.A (compareOp (if neg then .NotIn else .In) v u) (EP X pins σ Q) X.xe s := fun e => by
    cases h1 : asQ q st with
    | some xs =>
      simp only [h1] at e
      by_cases h2 : (flat p && xs.all flat) = true
      · rw [if_pos h2] at e; exact seqs xs h1 h2 (Option.some.inj e)
      · rw [if_neg h2] at e; cases e
    | none =>
      simp only [h1] at e
      cases h2 : asD q st with
      | none => simp only [h2] at e; cases e
      | some kv => obtain ⟨ks, vs⟩ := kv; simp only [h2] at e; exact dicts ks vs h2 e
  cases q with
  | str bs =>
    cases p with
    | str cs =>
      cases cs with
      | nil => cases e
      | cons c r =>
        cases r with
        | cons _ _ => cases e
        | nil =>
          have e : bs.contains c = b := by simpa [inB] using e
          obtain ⟨rfl, _⟩ := rp; obtain ⟨rfl, _⟩ := rq
          have ed : decide (c ∈ (⟨bs.toArray⟩ : Str).cps.toList) = b := by rw [← e, Bool.eq_iff_iff]; simp
          cases neg with
          | true => exact op_notIn_sign pins s σ H _ _ v u Q I rx ry ⟨c, ⟨bs.toArray⟩, rfl, rfl, k.here S (by rw [ed]; exact rfl)⟩
          | false => exact op_in_sign pins s σ H _ _ v u Q I rx ry ⟨c, ⟨bs.toArray⟩, rfl, rfl, k.here S (by rw [ed]; exact rfl)⟩
    | _ => cases e
  | _ => exact other e
theorem opIn {X : Cx} {T : Txt} (hK : T.K = X.K) (hu : X.A.units + 1 < cLine) : OpR X (compareOp .In) (rP2 T inC) := opIn_core hK hu false
theorem opNin {X : Cx} {T : Txt} (hK : T.K = X.K) (hu : X.A.units + 1 < cLine) : OpR X (compareOp .NotIn) (rP2 T ninC) := opIn_core hK hu true

/-! ### subscripts -/
def idxQ (p q : PV) (st : Store) : Option PV :=
  match asQ p st with
  | some xs => match q with
    | .int i => atI xs i
    | _ => none
  | none => match asD p st with
    | some (ks, vs) => (keyOf q).bind fun _ => lookD q ks vs
    | none => none
def idxP (p q : PV) (st : Store) : Option PV :=
  match p with
  | .str a => match q with
    | .int i => (atI a i).map fun c => .str [c]
    | _ => none
  | p => idxQ p q st
theorem Reps.atI {K : PySem.W.Frag} {W : Wd} {ps : List PV} {vs : List V} {i : Int} {p : PV} (r : Reps K W ps vs) (h : L2.atI ps i = some p) : ∃ v, L2.atI vs i = some v ∧ Rep K W p v := by
  unfold L2.atI at h ⊢
  rw [r.length]
  cases e : ixN ps.length i with
  | none => rw [e] at h; cases h
  | some j => rw [e] at h; exact r.get h
theorem ixP {X : Cx} {T : Txt} (hK : T.K = X.K) (hu : X.A.units + 1 < cLine) : IxR X (rP2 T idxP) := by
  obtain ⟨K, cl⟩ := T
  have hK : K = X.K := hK
  subst hK
  rintro value slice pins s σ H x y v u Q I rx ry ⟨W, st, p, q, z, S, rp, rq, h, k⟩ hs
  have other : idxQ p q st = some z → wpAny (model X.prog X.w) X.A (subscriptTail value slice v u) (EP X pins σ Q) X.xe s := fun e => by
    unfold idxQ at e
    cases h1 : asQ p st with
    | some xs =>
      simp only [h1] at e
      cases q with
      | int i =>
        obtain ⟨a, vs, rfl, e1, r1⟩ := asQ_at S rp h1
        obtain ⟨w, hw, rw'⟩ := r1.atI e
        cases rq
        rcases e1 with e1 | e1
        · exact ix_list value slice pins s σ H _ _ v u Q I rx ry ⟨a, vs, i, w, rfl, rfl, e1, hw, k.here S rw'⟩ hs
        · exact ix_tup value slice pins s σ H _ _ v u Q I rx ry ⟨a, vs, i, w, rfl, rfl, e1, hw, k.here S rw'⟩ hs
      | _ => cases e
    | none =>
      simp only [h1] at e
      cases h2 : asD p st with
      | none => simp only [h2] at e; cases e
      | some kv =>
        obtain ⟨ks, vs⟩ := kv
        simp only [h2] at e
        obtain ⟨ky, hk, hz⟩ := Option.bind_eq_some_iff.mp e
        obtain ⟨a, kvs, rfl, e1, r1, r2⟩ := asD_at S rp h2
        cases (show v = Value.ref a from rx)
        have hk1 := repK1_of rq hk
        have hv := keyOf_V rq hk
        rcases lookD_at hk1 r1 r2 with ⟨q1, _⟩ | ⟨z', w, q1, q2, q3⟩
        · rw [q1] at hz; cases hz
        · rw [q1] at hz; cases hz
          have g : DGet H a y (some w) := .inl ⟨kvs, ky, e1, hv, q2.symm⟩
          exact tail_any (dict_typeIs I g) PySem.F.slot_dict_getitem.lookup (d_getItem hu I g ry fun w' s3 I3 rw' => ⟨w, H, I3, rw', k.here S q3⟩) hs
  cases p with
  | str a =>
    cases q with
    | int i =>
      have h : (L2.atI a i).map (fun c => PV.str [c]) = some z := h
      obtain ⟨c, hc, rfl⟩ := Option.map_eq_some_iff.mp h
      obtain ⟨rfl, hz⟩ := rp
      cases rq
      exact ix_str value slice pins s σ H _ _ v u Q I rx ry ⟨⟨a.toArray⟩, i, c, rfl, rfl, by rw [str_len]; exact hz, by simpa using hc, k.here S ⟨by simp [strV], by rw [sizeLine_eq, List.length_singleton]; decide⟩⟩ hs
    | _ => cases h
  | _ => exact other h

/-! ### slices -/
def cutP {α : Type} (xs : List α) (lo hi : Option Int) : List α := (xs.drop (HT.sIx xs.length 0 lo)).take (HT.sIx xs.length xs.length hi - HT.sIx xs.length 0 lo)
theorem cutP_length {α : Type} (xs : List α) (lo hi : Option Int) : (cutP xs lo hi).length ≤ xs.length := by
  unfold cutP
  rw [List.length_take, List.length_drop]
  omega
theorem Reps.cut {K : PySem.W.Frag} {W : Wd} {ps : List PV} {vs : List V} (lo hi : Option Int) (r : Reps K W ps vs) : Reps K W (cutP ps lo hi) (cutV vs lo hi) := by
  unfold cutP cutV
  rw [r.length]
  exact (r.drop _).take _
def slcP (p : PV) (lo hi : Option Int) (st : Store) : Option PV :=
  match p with
  | .str a => some (.str (cutP a lo hi))
  | .tup xs => some (.tup (cutP xs lo hi))
  | p => (asR p st).map fun xs => .lst (cutP xs lo hi)
def rPS (T : Txt) : V → Option Int → Option Int → Hp → VK → Prop := fun v lo hi H Q => ∃ W st p z, Sim T W st H ∧ Rep T.K W p v ∧ slcP p lo hi st = some z ∧ Post T W st H z Q
theorem slP {X : Cx} {T : Txt} (hK : T.K = X.K) : SlR X (rPS T) := by
  obtain ⟨K, cl⟩ := T
  have hK : K = X.K := hK
  subst hK
  rintro pins s σ H x v vl vu lo hi sl Q I rx hs pl pu ⟨W, st, p, z, S, rp, h, k⟩
  have lists : (asR p st).map (fun xs => PV.lst (cutP xs lo hi)) = some z → ∃ T id, typeLookup (.type T) "__getitem__" = pure (some (.builtin id)) ∧ s.TypeIs v T ∧ wpAny (model X.prog X.w) X.A (getItem v (.ref sl)) (EP X pins σ Q) X.xe s := fun e => by
    obtain ⟨xs, h1, rfl⟩ := Option.map_eq_some_iff.mp e
    obtain ⟨a, vs, rfl, e1, r1⟩ := asR_at S rp h1
    exact sl_list pins s σ H _ v vl vu lo hi sl Q I rx hs pl pu ⟨a, vs, rfl, e1, k.lst S (r1.cut lo hi)⟩
  cases p with
  | str a =>
    have h : PV.str (cutP a lo hi) = z := Option.some.inj h
    subst h
    obtain ⟨rfl, hz⟩ := rp
    refine sl_str pins s σ H _ v vl vu lo hi sl Q I rx hs pl pu ⟨⟨a.toArray⟩, rfl, by rw [str_len]; exact hz, k.here S ⟨?_, Nat.le_trans (cutP_length _ _ _) hz⟩⟩
    unfold cutS cutP strV
    rw [str_len]
  | tup xs =>
    have h : PV.tup (cutP xs lo hi) = z := Option.some.inj h
    subst h
    obtain ⟨a, vs, rfl, q1, r1⟩ := rp
    refine sl_tupA pins s σ H _ v vl vu lo hi sl Q I rx hs pl pu ⟨a, vs, rfl, SqT.up q1 S.sub, fun e => ?_, fun _ => k.tup S (r1.cut lo hi)⟩
    refine k.here S ⟨a, vs, rfl, q1, ?_⟩
    have : cutP xs lo hi = xs := by
      unfold cutP
      rw [← r1.length, e.1, e.2]
      simp [r1.length]
    rw [this]; exact r1
  | _ => exact lists h

/-! ### truth -/
def truP (p : PV) (st : Store) : Option Bool :=
  match p with
  | .non => some false
  | .bl b => some b
  | .int i => some (i != 0)
  | .str a => some (!a.isEmpty)
  | .dic ks _ => some (!ks.isEmpty)
  | p => match asQ p st with
    | some xs => some (!xs.isEmpty)
    | none => match p with
      | .ref n => match st[n]? with
        | some (.dic ks _) => some (!ks.isEmpty)
        | _ => none
      | _ => none
theorem reps_empty {K : PySem.W.Frag} {W : Wd} {ps : List PV} {vs : List V} (r : Reps K W ps vs) : vs.isEmpty = ps.isEmpty := by
  have h := r.length
  cases ps <;> cases vs <;> simp at h ⊢
theorem repK_empty {ps : List PV} {kvs : List (Key × V)} (r : RepK ps (kvs.map (·.1))) : kvs.isEmpty = ps.isEmpty := by
  have h := r.length
  cases ps <;> cases kvs <;> simp at h ⊢
theorem truP_at {T : Txt} {W : Wd} {st : Store} {H : Hp} (S : Sim T W st H) {p : PV} {v : V} (r : Rep T.K W p v) {b : Bool} (h : truP p st = some b) : TruV T.K v H b := by
  have seqs : ∀ xs, asQ p st = some xs → (!xs.isEmpty) = b → TruV T.K v H b := fun xs h1 h2 => by
    obtain ⟨a, vs, rfl, e1, r1⟩ := asQ_at S r h1
    rcases e1 with e1 | e1
    · exact .inl ⟨vs, e1, by rw [reps_empty r1]; exact h2.symm⟩
    · exact .inr (.inl ⟨vs, e1, by rw [reps_empty r1]; exact h2.symm⟩)
  cases p with
  | non => cases r; exact (Option.some.inj h).symm
  | bl _ => cases r; exact (Option.some.inj h).symm
  | int _ => cases r; exact (Option.some.inj h).symm
  | str a =>
    obtain ⟨rfl, hz⟩ := r
    refine ⟨by rw [str_len]; exact hz, ?_⟩
    rw [← Option.some.inj h, str_len]
    cases a with
    | nil => rfl
    | cons c r => rw [Bool.eq_iff_iff]; simp; omega
  | dic ks vs =>
    obtain ⟨a, kvs, rfl, f, rk, rs⟩ := r
    exact .inr (.inr ⟨kvs, S.sub _ _ f, by rw [repK_empty rk]; exact (Option.some.inj h).symm⟩)
  | adr _ => cases h
  | ref n =>
    cases h1 : asQ (.ref n) st with
    | some xs => simp only [truP, h1] at h; exact seqs xs h1 (Option.some.inj h)
    | none =>
      simp only [truP, h1] at h
      cases hc : st[n]? with
      | none => simp only [hc] at h; cases h
      | some c =>
        simp only [hc] at h
        cases c with
        | dic ks vs =>
          obtain ⟨a, e, rfl⟩ := r
          obtain ⟨kvs, f, rk, rs⟩ := S.cell n a _ e hc
          exact .inr (.inr ⟨kvs, f, by rw [repK_empty rk]; exact (Option.some.inj h).symm⟩)
        | _ => cases h
  | tup xs => exact seqs xs rfl (Option.some.inj h)
  | lst xs => exact seqs xs rfl (Option.some.inj h)
  | scr xs => exact seqs xs rfl (Option.some.inj h)
end Pv
/-! Pv, part E: built-ins and methods. -/
namespace Pv
open PySem PySem.Spec PyProof.Rows PySem.SeqAt L2

/-- a new list: frozen, or a cell -/
def newL (bx : Bool) (xs : List PV) (st : Store) : PV × Store := if bx then (.ref st.length, st ++ [.lst xs]) else (.lst xs, st)
def newD (bx : Bool) (ks vs : List PV) (st : Store) : PV × Store := if bx then (.ref st.length, st ++ [.dic ks vs]) else (.dic ks vs, st)
/-- a call's answer -/
def PostS (T : Txt) (W : Wd) (H : Hp) (r : PV × Store) (Q : VK) : Prop := ∀ W' H', Go W H W' H' → Sim T W' r.2 H' → ∀ w, Rep T.K W' r.1 w → Q w H'
section
variable {T : Txt} {W : Wd} {st : Store} {H : Hp} {Q : VK}
theorem PostS.here {z : PV} (k : PostS T W H (z, st) Q) (S : Sim T W st H) {w : V} (r : Rep T.K W z w) : Q w H := k W H (.refl W H) S w r
theorem PostS.newL {bx : Bool} {xs : List PV} {vs : List V} (k : PostS T W H (newL bx xs st) Q) (S : Sim T W st H) (r : Reps T.K W xs vs) : ∀ p, H p = none → Q (.ref p) (upd H p (.lst vs)) := fun p hp => by
  cases bx with
  | false =>
    obtain ⟨g, S'⟩ := S.laid hp (.lst vs)
    exact k _ _ g S' _ ⟨p, vs, rfl, upd_same, r.up g.le⟩
  | true =>
    obtain ⟨g, S', e⟩ := S.boxed hp (.lst vs) (c := .lst xs) ⟨vs, upd_same, r⟩
    exact k _ _ g S' _ ⟨p, e, rfl⟩
theorem PostS.newD {bx : Bool} {ks vs : List PV} {kvs : List (Key × V)} (k : PostS T W H (newD bx ks vs st) Q) (S : Sim T W st H) (rk : RepK ks (kvs.map (·.1))) (r : Reps T.K W vs (kvs.map (·.2))) : ∀ p, H p = none → Q (.ref p) (upd H p (.dK kvs)) := fun p hp => by
  cases bx with
  | false =>
    obtain ⟨g, S'⟩ := S.laid hp (.dK kvs)
    exact k _ _ g S' _ ⟨p, kvs, rfl, upd_same, rk, r.up g.le⟩
  | true =>
    obtain ⟨g, S', e⟩ := S.boxed hp (.dK kvs) (c := .dic ks vs) ⟨kvs, upd_same, rk, r⟩
    exact k _ _ g S' _ ⟨p, e, rfl⟩
theorem PostS.tup {xs : List PV} {vs : List V} (k : PostS T W H (.tup xs, st) Q) (S : Sim T W st H) (r : Reps T.K W xs vs) : ∀ p, H p = none → Q (.ref p) (upd H p (.tup vs)) := fun p hp => by
  obtain ⟨g, S'⟩ := S.laid hp (.tup vs)
  exact k _ _ g S' _ ⟨p, vs, rfl, SqT.of upd_same, r.up g.le⟩
end
def rC (T : Txt) (h : List PV → Store → Option (PV × Store)) : List V → Hp → VK → Prop := fun xs H Q => ∃ W st ps z, Sim T W st H ∧ Reps T.K W ps xs ∧ h ps st = some z ∧ PostS T W H z Q
def rM (T : Txt) (h : PV → List PV → Store → Option (PV × Store)) : V → List V → Hp → VK → Prop := fun x xs H Q => ∃ W st p ps z, Sim T W st H ∧ Rep T.K W p x ∧ Reps T.K W ps xs ∧ h p ps st = some z ∧ PostS T W H z Q

theorem reps1 {K : PySem.W.Frag} {W : Wd} {p : PV} {xs : List V} (r : Reps K W [p] xs) : ∃ v, xs = [v] ∧ Rep K W p v := by
  obtain ⟨v, t, rfl, h, rfl⟩ := r
  exact ⟨v, rfl, h⟩
theorem reps2 {K : PySem.W.Frag} {W : Wd} {p q : PV} {xs : List V} (r : Reps K W [p, q] xs) : ∃ v u, xs = [v, u] ∧ Rep K W p v ∧ Rep K W q u := by
  obtain ⟨v, t, rfl, h, u, t', rfl, h', rfl⟩ := r
  exact ⟨v, u, rfl, h, h'⟩

/-- a dict that is not walked just now -/
def asDw : PV → Store → Option (List PV × List PV)
  | .dic ks vs, _ => some (ks, vs)
  | .ref n, st => match st[n]? with
    | some (.dic ks vs) => some (ks, vs)
    | _ => none
  | _, _ => none
theorem asDw_at {T : Txt} {W : Wd} {st : Store} {H : Hp} (S : Sim T W st H) {p : PV} {v : V} (r : Rep T.K W p v) {ks vs : List PV} (h : asDw p st = some (ks, vs)) :
    ∃ a kvs, v = .ref a ∧ H a = some (.dK kvs) ∧ RepK ks (kvs.map (·.1)) ∧ Reps T.K W vs (kvs.map (·.2)) := by
  cases p with
  | dic ks' vs' =>
    have h : ks' = ks ∧ vs' = vs := by simpa [asDw] using h
    obtain ⟨rfl, rfl⟩ := h
    obtain ⟨a, kvs, e, f, rk, rs⟩ := r
    exact ⟨a, kvs, e, S.sub _ _ f, rk, rs⟩
  | ref n =>
    cases hc : st[n]? with
    | none => simp only [asDw, hc] at h; cases h
    | some c =>
      simp only [asDw, hc] at h
      obtain ⟨a, e, rfl⟩ := r
      cases c with
      | dic ks' vs' =>
        have h : ks' = ks ∧ vs' = vs := by simpa using h
        obtain ⟨rfl, rfl⟩ := h
        obtain ⟨kvs, f, rk, rs⟩ := S.cell n a _ e hc
        exact ⟨a, kvs, rfl, f, rk, rs⟩
      | _ => cases h
  | _ => simp [asDw] at h
/-! ### len, str, int, abs, min, max -/
def lenB : List PV → Store → Option (PV × Store)
  | [.str a], st => some (.int a.length, st)
  | [p], st => match asQ p st with
    | some xs => some (.int xs.length, st)
    | none => match asDw p st with
      | some (ks, _) => some (.int ks.length, st)
      | none => none
  | _, _ => none
def strI (i : Int) : List Nat := if 0 ≤ i then (Nat.toDigits 10 i.natAbs).map Char.toNat else 45 :: (Nat.toDigits 10 i.natAbs).map Char.toNat
def strB : List PV → Store → Option (PV × Store)
  | [.str a], st => some (.str a, st)
  | [.int i], st => if i.natAbs < 1000000000000 then some (.str (strI i), st) else none
  | _, _ => none
def intB : List PV → Store → Option (PV × Store)
  | [.int i], st => some (.int i, st)
  | [.bl b], st => some (.int (if b then 1 else 0), st)
  | [.str a], st => if a.length ≤ 640 then (PySem.intText? ⟨a.toArray⟩).map fun n => (.int n, st) else none
  | _, _ => none
def absB : List PV → Store → Option (PV × Store)
  | [.int i], st => some (.int (if i < 0 then -i else i), st)
  | _, _ => none
def maxB : List PV → Store → Option (PV × Store)
  | [.int i, .int j], st => some (.int (if j > i then j else i), st)
  | _, _ => none
def minB : List PV → Store → Option (PV × Store)
  | [.int i, .int j], st => some (.int (if j < i then j else i), st)
  | _, _ => none
/-! ### tuple, list, all, any -/
def tupB : List PV → Store → Option (PV × Store)
  | [.tup xs], st => some (.tup xs, st)
  | [p], st => (asR p st).map fun xs => (.tup xs, st)
  | _, _ => none
def lstB (bx : Bool) : List PV → Store → Option (PV × Store)
  | [p], st => match asQ p st with
    | some xs => some (newL bx xs st)
    | none => none
  | _, _ => none
def boolL : List PV → Option (List Bool)
  | [] => some []
  | .bl b :: r => (boolL r).map (b :: ·)
  | _ :: _ => none
def allB : List PV → Store → Option (PV × Store)
  | [p], st => ((asR p st).bind boolL).map fun bs => (.bl (bs.all id), st)
  | _, _ => none
def anyB : List PV → Store → Option (PV × Store)
  | [p], st => ((asR p st).bind boolL).map fun bs => (.bl (bs.any id), st)
  | _, _ => none
theorem bools_at {K : PySem.W.Frag} {W : Wd} : ∀ {ps : List PV} {vs : List V} {bs : List Bool}, Reps K W ps vs → boolL ps = some bs → vs = bs.map V.bl
  | [], _, _, h, e => by cases h; cases e; rfl
  | p :: ps, _, bs, ⟨v, r, e, a, b⟩, h => by
    subst e
    cases p with
    | bl c =>
      obtain ⟨cs, h1, rfl⟩ := Option.map_eq_some_iff.mp h
      cases a
      rw [bools_at b h1]; rfl
    | _ => cases h

theorem str_toString (i : Int) : (Str.ofString (toString i)) = ⟨(strI i).toArray⟩ := by
  have key : (Str.ofString (toString i)).cps.toList = strI i := by
    unfold strI
    by_cases h : 0 ≤ i
    · rw [if_pos h]
      obtain ⟨m, rfl⟩ := Int.eq_ofNat_of_zero_le h
      exact PySem.W.KIN.signs_num m
    · rw [if_neg h, toString_neg (by omega)]
      obtain ⟨m, hm⟩ := Int.eq_ofNat_of_zero_le (show (0 : Int) ≤ 0 - i by omega)
      have e : i.natAbs = m := by omega
      rw [hm, e, signs_ofString, String.toList_append, List.map_append]
      have e2 := PySem.W.KIN.signs_num m
      rw [signs_ofString] at e2
      rw [e2]
      rfl
  have e : (Str.ofString (toString i)).cps = (strI i).toArray := by
    rw [← key]
  generalize Str.ofString (toString i) = x at e ⊢
  cases x
  exact congrArg _ e
theorem log2_small {n : Nat} (h : n < 1000000000000) : n.log2 < 1920 := by
  by_cases h0 : n = 0
  · subst h0; decide
  · exact (Nat.log2_lt h0).mpr (Nat.lt_of_lt_of_le h (Nat.le_trans (by decide : 1000000000000 ≤ 2 ^ 40) (Nat.pow_le_pow_right (by decide) (by decide))))
theorem strI_length (i : Int) (h : i.natAbs < 1000000000000) : (strI i).length ≤ sizeLine := by
  have h1 := int_text_len_1921 (log2_small h)
  rw [str_toString, str_len] at h1
  rw [sizeLine_eq]; omega

section
variable {X : Cx} {T : Txt}
theorem biLen (hK : T.K = X.K) : CallR X (.builtin "len") (rC T lenB) := by
  obtain ⟨K, cl⟩ := T
  have hK : K = X.K := hK
  subst hK
  rintro pins s σ H xs us Q I r ⟨W, st, ps, z, S, rs, h, k⟩
  match ps, h with
  | [p], h =>
    obtain ⟨v, rfl, rp⟩ := reps1 rs
    have seqs : ∀ ys, asQ p st = some ys → z = (.int ys.length, st) → wpAny (model X.prog X.w) X.A (call (.builtin "len") us) (EP X pins σ Q) X.xe s := fun ys h1 h2 => by
      subst h2
      obtain ⟨a, vs, rfl, e1, r1⟩ := asQ_at S rp h1
      refine call_len pins s σ H _ us Q I r ⟨_, vs.length, rfl, ?_, k.here S (by rw [Reps.length r1]; exact rfl)⟩
      rcases e1 with e1 | e1
      · exact .inl ⟨vs, e1, rfl⟩
      · exact .inr ⟨vs, e1, rfl⟩
    have other : (match asQ p st with
        | some xs => some (PV.int xs.length, st)
        | none => match asDw p st with
          | some (ks, _) => some (PV.int ks.length, st)
          | none => none) = some z → wpAny (model X.prog X.w) X.A (call (.builtin "len") us) (EP X pins σ Q) X.xe s := fun e => by
      cases h1 : asQ p st with
      | some ys => simp only [h1] at e; exact seqs ys h1 (Option.some.inj e).symm
      | none =>
        simp only [h1] at e
        cases h2 : asDw p st with
        | none => simp only [h2] at e; cases e
        | some kv =>
          obtain ⟨ks, vs⟩ := kv
          simp only [h2] at e
          have e := Option.some.inj e
          subst e
          obtain ⟨a, kvs, rfl, e1, r1, r2⟩ := asDw_at S rp h2
          have hl : kvs.length = ks.length := by have := r1.length; simpa using this
          exact call_lenD pins s σ H _ us Q I r ⟨a, kvs, rfl, e1, k.here S (by rw [hl]; exact rfl)⟩
    cases p with
    | str a =>
      have h : (PV.int a.length, st) = z := Option.some.inj h
      subst h
      obtain ⟨rfl, hz⟩ := rp
      exact call_len pins s σ H _ us Q I r ⟨_, a.length, rfl, ⟨by rw [str_len]; exact hz, (str_len a).symm⟩, k.here S rfl⟩
    | _ => exact other h
  | [], h => cases h
  | _ :: _ :: _, h => unfold lenB at h; split at h <;> simp_all
theorem biStr (hK : T.K = X.K) : CallR X (.type "str") (rC T strB) := by
  rintro pins s σ H xs us Q I r ⟨W, st, ps, z, S, rs, h, k⟩
  match ps, h with
  | [.str a], h =>
    obtain ⟨v, rfl, rp⟩ := reps1 rs
    have h : (PV.str a, st) = z := Option.some.inj h
    subst h
    obtain ⟨rfl, hz⟩ := rp
    exact SkE.call_str_str pins s σ H _ us Q I r ⟨_, rfl, k.here S ⟨rfl, hz⟩⟩
  | [.int i], h =>
    obtain ⟨v, rfl, rp⟩ := reps1 rs
    have h : (if i.natAbs < 1000000000000 then some (PV.str (strI i), st) else none) = some z := h
    by_cases hz : i.natAbs < 1000000000000
    · rw [if_pos hz] at h
      have h : (PV.str (strI i), st) = z := Option.some.inj h
      subst h
      cases rp
      refine call_str_int pins s σ H _ us Q I r ⟨i, rfl, log2_small hz, k.here S ⟨?_, strI_length i hz⟩⟩
      rw [str_toString]; rfl
    · rw [if_neg hz] at h; cases h
theorem biInt (hK : T.K = X.K) : CallR X (.type "int") (rC T intB) := by
  rintro pins s σ H xs us Q I r ⟨W, st, ps, z, S, rs, h, k⟩
  match ps, h with
  | [.int i], h =>
    obtain ⟨v, rfl, rp⟩ := reps1 rs
    have h : (PV.int i, st) = z := Option.some.inj h
    subst h; cases rp
    exact call_int1 pins s σ H _ us Q I r (.inl ⟨i, rfl, k.here S rfl⟩)
  | [.bl b], h =>
    obtain ⟨v, rfl, rp⟩ := reps1 rs
    have h : (PV.int (if b then 1 else 0), st) = z := Option.some.inj h
    subst h; cases rp
    exact call_int1 pins s σ H _ us Q I r (.inr ⟨b, rfl, k.here S rfl⟩)
  | [.str a], h =>
    obtain ⟨v, rfl, rp⟩ := reps1 rs
    have h : (if a.length ≤ 640 then (PySem.intText? ⟨a.toArray⟩).map fun n => (PV.int n, st) else none) = some z := h
    by_cases hz : a.length ≤ 640
    · rw [if_pos hz] at h
      obtain ⟨n, hn, h⟩ := Option.map_eq_some_iff.mp h
      subst h
      obtain ⟨rfl, _⟩ := rp
      exact call_int_str pins s σ H _ us Q I r ⟨_, n, rfl, hn, by rw [str_len]; exact hz, k.here S rfl⟩
    · rw [if_neg hz] at h; cases h
theorem biAbs (hK : T.K = X.K) : CallR X (.builtin "abs") (rC T absB) := by
  rintro pins s σ H xs us Q I r ⟨W, st, ps, z, S, rs, h, k⟩
  match ps, h with
  | [.int i], h =>
    obtain ⟨v, rfl, rp⟩ := reps1 rs
    have h : (PV.int (if i < 0 then -i else i), st) = z := Option.some.inj h
    subst h; cases rp
    exact call_abs pins s σ H _ us Q I r ⟨i, rfl, k.here S rfl⟩
theorem biMax (hK : T.K = X.K) (hc : X.calm = true) : CallR X (.builtin "max") (rC T maxB) := by
  rintro pins s σ H xs us Q I r ⟨W, st, ps, z, S, rs, h, k⟩
  match ps, h with
  | [.int i, .int j], h =>
    obtain ⟨v, u, rfl, rp, rq⟩ := reps2 rs
    have h : (PV.int (if j > i then j else i), st) = z := Option.some.inj h
    subst h; cases rp; cases rq
    exact call_max2 hc pins s σ H _ us Q I r ⟨i, j, rfl, k.here S rfl⟩
theorem biMin (hK : T.K = X.K) (hc : X.calm = true) : CallR X (.builtin "min") (rC T minB) := by
  rintro pins s σ H xs us Q I r ⟨W, st, ps, z, S, rs, h, k⟩
  match ps, h with
  | [.int i, .int j], h =>
    obtain ⟨v, u, rfl, rp, rq⟩ := reps2 rs
    have h : (PV.int (if j < i then j else i), st) = z := Option.some.inj h
    subst h; cases rp; cases rq
    exact call_min2 hc pins s σ H _ us Q I r ⟨i, j, rfl, k.here S rfl⟩
theorem biTup (hK : T.K = X.K) : CallR X (.type "tuple") (rC T tupB) := by
  obtain ⟨K, cl⟩ := T
  have hK : K = X.K := hK
  subst hK
  rintro pins s σ H xs us Q I r ⟨W, st, ps, z, S, rs, h, k⟩
  match ps, h with
  | [p], h =>
    obtain ⟨v, rfl, rp⟩ := reps1 rs
    have other : (asR p st).map (fun ys => (PV.tup ys, st)) = some z → wpAny (model X.prog X.w) X.A (call (.type "tuple") us) (EP X pins σ Q) X.xe s := fun e => by
      obtain ⟨ys, h1, rfl⟩ := Option.map_eq_some_iff.mp e
      obtain ⟨a, vs, rfl, e1, r1⟩ := asR_at S rp h1
      exact call_tuple_of pins s σ H _ us Q I r ⟨a, vs, rfl, .inl ⟨e1, k.tup S r1⟩⟩
    cases p with
    | tup ys =>
      have h : (PV.tup ys, st) = z := Option.some.inj h
      subst h
      obtain ⟨a, vs, rfl, q1, r1⟩ := rp
      exact call_tuple_of pins s σ H _ us Q I r ⟨a, vs, rfl, .inr ⟨SqT.up q1 S.sub, k.here S ⟨a, vs, rfl, q1, r1⟩⟩⟩
    | _ => exact other h
  | [], h => cases h
  | _ :: _ :: _, h => unfold tupB at h; split at h <;> simp_all
theorem biLst (hK : T.K = X.K) (bx : Bool) : CallR X (.type "list") (rC T (lstB bx)) := by
  obtain ⟨K, cl⟩ := T
  have hK : K = X.K := hK
  subst hK
  rintro pins s σ H xs us Q I r ⟨W, st, ps, z, S, rs, h, k⟩
  match ps, h with
  | [p], h =>
    obtain ⟨v, rfl, rp⟩ := reps1 rs
    cases h1 : asQ p st with
    | none => simp only [lstB, h1] at h; cases h
    | some ys =>
      simp only [lstB, h1] at h
      have h := Option.some.inj h
      subst h
      obtain ⟨a, vs, rfl, e1, r1⟩ := asQ_at S rp h1
      exact call_list_of pins s σ H _ us Q I r ⟨a, vs, rfl, e1, k.newL S r1⟩
  | [], h => cases h
  | _ :: _ :: _, h => cases h
theorem biAll (hK : T.K = X.K) (hc : X.calm = true) : CallR X (.builtin "all") (rC T allB) := by
  obtain ⟨K, cl⟩ := T
  have hK : K = X.K := hK
  subst hK
  rintro pins s σ H xs us Q I r ⟨W, st, ps, z, S, rs, h, k⟩
  match ps, h with
  | [p], h =>
    obtain ⟨v, rfl, rp⟩ := reps1 rs
    obtain ⟨bs, h1, rfl⟩ := Option.map_eq_some_iff.mp h
    obtain ⟨ys, h2, h3⟩ := Option.bind_eq_some_iff.mp h1
    obtain ⟨a, vs, rfl, e1, r1⟩ := asR_at S rp h2
    have e := bools_at r1 h3
    subst e
    exact cr_all hc pins s σ H _ us Q I r ⟨a, bs, rfl, e1, k.here S rfl⟩
theorem biAny (hK : T.K = X.K) (hc : X.calm = true) : CallR X (.builtin "any") (rC T anyB) := by
  obtain ⟨K, cl⟩ := T
  have hK : K = X.K := hK
  subst hK
  rintro pins s σ H xs us Q I r ⟨W, st, ps, z, S, rs, h, k⟩
  match ps, h with
  | [p], h =>
    obtain ⟨v, rfl, rp⟩ := reps1 rs
    obtain ⟨bs, h1, rfl⟩ := Option.map_eq_some_iff.mp h
    obtain ⟨ys, h2, h3⟩ := Option.bind_eq_some_iff.mp h1
    obtain ⟨a, vs, rfl, e1, r1⟩ := asR_at S rp h2
    have e := bools_at r1 h3
    subst e
    exact cr_any hc pins s σ H _ us Q I r ⟨a, bs, rfl, e1, k.here S rfl⟩
end

/-! ### sorted: texts (fewer than 64), intL -/
def insS (x : List Nat) : List (List Nat) → List (List Nat)
  | [] => [x]
  | y :: r => if ltN y x then y :: insS x r else x :: y :: r
def srtS : List (List Nat) → List (List Nat)
  | [] => []
  | x :: r => insS x (srtS r)
def insI (x : Int) : List Int → List Int
  | [] => [x]
  | y :: r => if y < x then y :: insI x r else x :: y :: r
def srtI : List Int → List Int
  | [] => []
  | x :: r => insI x (srtI r)
theorem insS_perm (x : List Nat) : ∀ l, (insS x l).Perm (x :: l)
  | [] => .refl _
  | y :: r => by
    unfold insS
    split
    · exact (List.Perm.cons y (insS_perm x r)).trans (List.Perm.swap x y r)
    · exact .refl _
theorem srtS_perm : ∀ l, (srtS l).Perm l
  | [] => .refl _
  | x :: r => (insS_perm x _).trans (List.Perm.cons x (srtS_perm r))
theorem insI_perm (x : Int) : ∀ l, (insI x l).Perm (x :: l)
  | [] => .refl _
  | y :: r => by
    unfold insI
    split
    · exact (List.Perm.cons y (insI_perm x r)).trans (List.Perm.swap x y r)
    · exact .refl _
theorem srtI_perm : ∀ l, (srtI l).Perm l
  | [] => .refl _
  | x :: r => (insI_perm x _).trans (List.Perm.cons x (srtI_perm r))
theorem insI_sorted (x : Int) : ∀ l : List Int, l.Pairwise (· ≤ ·) → (insI x l).Pairwise (· ≤ ·)
  | [], _ => by simp [insI]
  | y :: r, h => by
    obtain ⟨h1, h2⟩ := List.pairwise_cons.mp h
    unfold insI
    split
    · rename_i hlt
      refine List.pairwise_cons.mpr ⟨fun z hz => ?_, insI_sorted x r h2⟩
      rcases List.mem_cons.mp ((insI_perm x r).mem_iff.mp hz) with rfl | hz
      · omega
      · exact h1 z hz
    · rename_i hlt
      refine List.pairwise_cons.mpr ⟨fun z hz => ?_, h⟩
      rcases List.mem_cons.mp hz with rfl | hz
      · omega
      · have := h1 z hz; omega
theorem srtI_sorted : ∀ l, (srtI l).Pairwise (· ≤ ·)
  | [] => .nil
  | x :: r => insI_sorted x _ (srtI_sorted r)
theorem insS_sorted (x : List Nat) : ∀ l : List (List Nat), l.Pairwise (· ≤ ·) → (insS x l).Pairwise (· ≤ ·)
  | [], _ => by simp [insS]
  | y :: r, h => by
    obtain ⟨h1, h2⟩ := List.pairwise_cons.mp h
    unfold insS
    split
    · rename_i hlt
      rw [ltN_eq, decide_eq_true_eq] at hlt
      refine List.pairwise_cons.mpr ⟨fun z hz => ?_, insS_sorted x r h2⟩
      rcases List.mem_cons.mp ((insS_perm x r).mem_iff.mp hz) with rfl | hz
      · exact List.le_of_lt hlt
      · exact h1 z hz
    · rename_i hlt
      rw [ltN_eq, decide_eq_true_eq] at hlt
      have hle : x ≤ y := List.not_lt.mp hlt
      refine List.pairwise_cons.mpr ⟨fun z hz => ?_, h⟩
      rcases List.mem_cons.mp hz with rfl | hz
      · exact hle
      · exact List.le_trans hle (h1 z hz)
theorem srtS_sorted : ∀ l, (srtS l).Pairwise (· ≤ ·)
  | [] => .nil
  | x :: r => insS_sorted x _ (srtS_sorted r)
def strL : List PV → Option (List (List Nat))
  | [] => some []
  | .str a :: r => (strL r).map (a :: ·)
  | _ :: _ => none
def intL : List PV → Option (List Int)
  | [] => some []
  | .int a :: r => (intL r).map (a :: ·)
  | _ :: _ => none
def srtB (bx : Bool) : List PV → Store → Option (PV × Store)
  | [p], st => match asR p st with
    | some xs => match strL xs with
      | some ss => if ss.length < 64 then some (newL bx ((srtS ss).map .str) st) else none
      | none => match intL xs with
        | some ns => some (newL bx ((srtI ns).map .int) st)
        | none => none
    | none => none
  | _, _ => none

theorem strs_at {K : PySem.W.Frag} {W : Wd} : ∀ {ps : List PV} {vs : List V} {ss : List (List Nat)}, Reps K W ps vs → strL ps = some ss → vs = ss.map strV ∧ ps = ss.map .str ∧ ∀ x ∈ ss, x.length ≤ sizeLine
  | [], _, _, h, e => by cases h; cases e; exact ⟨rfl, rfl, by simp⟩
  | p :: ps, _, ss, ⟨v, r, e, a, b⟩, h => by
    subst e
    cases p with
    | str c =>
      obtain ⟨cs, h1, rfl⟩ := Option.map_eq_some_iff.mp h
      obtain ⟨rfl, hz⟩ := a
      obtain ⟨e1, e2, e3⟩ := strs_at b h1
      refine ⟨by rw [e1]; rfl, by rw [e2]; rfl, fun x hx => ?_⟩
      rcases List.mem_cons.mp hx with rfl | hx
      · exact hz
      · exact e3 x hx
    | _ => cases h
theorem ints_at {K : PySem.W.Frag} {W : Wd} : ∀ {ps : List PV} {vs : List V} {ns : List Int}, Reps K W ps vs → intL ps = some ns → vs = ns.map V.int
  | [], _, _, h, e => by cases h; cases e; rfl
  | p :: ps, _, _, ⟨v, r, e, a, b⟩, h => by
    subst e
    cases p with
    | int c =>
      obtain ⟨cs, h1, rfl⟩ := Option.map_eq_some_iff.mp h
      cases a
      rw [ints_at b h1]; rfl
    | _ => cases h
theorem reps_strs {K : PySem.W.Frag} {W : Wd} : ∀ {ss : List (List Nat)}, (∀ x ∈ ss, x.length ≤ sizeLine) → Reps K W (ss.map .str) (ss.map strV)
  | [], _ => rfl
  | x :: r, h => ⟨_, _, rfl, ⟨rfl, h x (by simp)⟩, reps_strs fun y hy => h y (by simp [hy])⟩
theorem reps_ints {K : PySem.W.Frag} {W : Wd} : ∀ (ns : List Int), Reps K W (ns.map .int) (ns.map V.int)
  | [] => rfl
  | x :: r => ⟨_, _, rfl, rfl, reps_ints r⟩
theorem ltCps_ltN : ∀ a b : List Nat, ltCps a b = ltN a b
  | [], [] => rfl
  | [], _ :: _ => rfl
  | _ :: _, [] => rfl
  | x :: xs, y :: ys => by
    have ih := ltCps_ltN xs ys
    by_cases h1 : x < y
    · simp [ltCps, ltN, h1]
    · by_cases h2 : y < x
      · have h3 : x ≠ y := by omega
        simp [ltCps, ltN, h1, h2, h3]
      · have h3 : x = y := by omega
        subst h3
        simp [ltCps, ltN, ih]
theorem sortedS_pair : ∀ {ys : List Str}, sortedS ys = true → (ys.map fun y => y.cps.toList).Pairwise (· ≤ ·)
  | [], _ => .nil
  | x :: r, h => by
    have go : ∀ (r : List Str) (x : Str), risingS x r = true → ((x :: r).map fun y => y.cps.toList).Pairwise (· ≤ ·) := by
      intro r
      induction r with
      | nil => intro x _; simp
      | cons y r ih =>
        intro x h
        unfold risingS at h
        rw [Bool.and_eq_true] at h
        obtain ⟨h1, h2⟩ := h
        have p := ih y h2
        have hxy : x.cps.toList ≤ y.cps.toList := by
          refine List.not_lt.mp fun z => ?_
          have : ltCps y.cps.toList x.cps.toList = true := by rw [ltCps_ltN, ltN_eq]; exact decide_eq_true z
          rw [this] at h1; cases h1
        rw [List.map_cons]
        refine List.pairwise_cons.mpr ⟨fun z hz => ?_, p⟩
        rw [List.map_cons] at hz p
        rcases List.mem_cons.mp hz with rfl | hz
        · exact hxy
        · exact List.le_trans hxy ((List.pairwise_cons.mp p).1 z hz)
    exact go r x h
theorem biSrt {X : Cx} {T : Txt} (hK : T.K = X.K) (hc : X.calm = true) (bx : Bool) : CallR X (.builtin "sorted") (rC T (srtB bx)) := by
  obtain ⟨K, cl⟩ := T
  have hK : K = X.K := hK
  subst hK
  rintro pins s σ H xs us Q I r ⟨W, st, ps, z, S, rs, h, k⟩
  match ps, h with
  | [p], h =>
    obtain ⟨v, rfl, rp⟩ := reps1 rs
    cases h1 : asR p st with
    | none => simp only [srtB, h1] at h; cases h
    | some ys =>
      simp only [srtB, h1] at h
      obtain ⟨a, vs, rfl, e1, r1⟩ := asR_at S rp h1
      cases h2 : strL ys with
      | some ss =>
        simp only [h2] at h
        by_cases h64 : ss.length < 64
        · rw [if_pos h64] at h
          have h := Option.some.inj h
          subst h
          obtain ⟨rfl, _, hz⟩ := strs_at r1 h2
          refine cr_sortedS pins s σ H _ us Q I r ⟨a, ss.map fun x => ⟨x.toArray⟩, rfl, by rw [List.map_map]; exact e1, by simpa using h64, fun zs p hp hs hn => ?_⟩
          have same : zs = (srtS ss).map fun x => (⟨x.toArray⟩ : Str) := by
            have q1 : (zs.map fun y => y.cps.toList).Perm ss := by
              have := hp.map fun y : Str => y.cps.toList
              rw [List.map_map] at this
              simpa [Function.comp_def] using this
            have q2 : (zs.map fun y => y.cps.toList) = srtS ss :=
              List.Perm.eq_of_pairwise (fun _ _ _ _ h1 h2 => List.le_antisymm h1 h2) (sortedS_pair hs) (srtS_sorted ss) (q1.trans (srtS_perm ss).symm)
            rw [← q2, List.map_map]
            have : ((fun x : List Nat => (⟨x.toArray⟩ : Str)) ∘ fun y : Str => y.cps.toList) = id := by
              funext y; cases y; simp
            rw [this, List.map_id]
          subst same
          rw [List.map_map]
          exact k.newL S (reps_strs fun x hx => hz x ((srtS_perm ss).mem_iff.mp hx)) p hn
        · rw [if_neg h64] at h; cases h
      | none =>
        simp only [h2] at h
        cases h3 : intL ys with
        | none => simp only [h3] at h; cases h
        | some ns =>
          simp only [h3] at h
          have h := Option.some.inj h
          subst h
          have e := ints_at r1 h3
          subst e
          refine cr_sortedI pins s σ H _ us Q I r ⟨a, ns, rfl, e1, fun zs p hp hs hn => ?_⟩
          have same : zs = srtI ns := List.Perm.eq_of_pairwise (fun _ _ _ _ h1 h2 => Int.le_antisymm h1 h2) hs (srtI_sorted ns) (hp.trans (srtI_perm ns).symm)
          subst same
          exact k.newL S (reps_ints _) p hn
  | [], h => cases h
  | _ :: _ :: _, h => cases h
end Pv
/-! Pv, part F: isinstance, methods of built-in types. -/
namespace Pv
open PySem PySem.Spec PyProof.Rows PySem.SeqAt L2

/-! ### isinstance -/
inductive Ty where
  | non | bool | int | str | tuple | list | dict
  deriving DecidableEq
def Ty.name : Ty → String
  | .non => "NoneType" | .bool => "bool" | .int => "int" | .str => "str" | .tuple => "tuple" | .list => "list" | .dict => "dict"
def isI (t c : Ty) : Bool := decide (t = c) || (decide (t = .bool) && decide (c = .int))
theorem isI_kit (t c : Ty) (hc : c ≠ .non) : kitB t.name c.name = some (isI t c) := by
  cases c <;> first | exact absurd rfl hc | (cases t <;> decide +kernel)
def tyP (p : PV) (st : Store) : Option Ty :=
  match p with
  | .non => some .non | .bl _ => some .bool | .int _ => some .int | .str _ => some .str | .tup _ => some .tuple | .lst _ => some .list | .scr _ => none | .adr _ => none | .dic _ _ => some .dict
  | .ref n => match st[n]? with
    | some (.lst _) => some .list
    | some (.dic _ _) => some .dict
    | some (.dlk _ _) => some .dict
    | _ => none
theorem tyP_at {T : Txt} {W : Wd} {st : Store} {H : Hp} (S : Sim T W st H) {p : PV} {v : V} (r : Rep T.K W p v) {t : Ty} (h : tyP p st = some t) : TyX T.K H v (.type t.name) := by
  cases p with
  | non => cases h; cases r; exact .base .non
  | bl b => cases h; cases r; exact .base (.bl b)
  | int i => cases h; cases r; exact .base (.int i)
  | str s => cases h; obtain ⟨rfl, _⟩ := r; exact .base (.str _)
  | tup xs =>
    cases h
    obtain ⟨a, vs, rfl, q, _⟩ := r
    rcases SqT.up q S.sub with (q | ⟨o, q⟩) | ⟨o, its, n, hk, hc, _⟩
    · exact .base (.tup q)
    · exact .fTuple q
    · exact .kTuple hk hc
  | lst xs =>
    cases h
    obtain ⟨a, vs, rfl, q, _⟩ := r
    exact .base (.lst (S.sub _ _ q))
  | scr xs => cases h
  | dic ks vs =>
    cases h
    obtain ⟨a, kvs, rfl, q, _⟩ := r
    exact .base (.dK (S.sub _ _ q))
  | adr _ => cases h
  | ref n =>
    cases hc : st[n]? with
    | none => simp only [tyP, hc] at h; cases h
    | some c =>
      simp only [tyP, hc] at h
      obtain ⟨a, e, rfl⟩ := r
      have z := S.cell n a _ e hc
      cases c with
      | lst xs => cases h; obtain ⟨vs, f, _⟩ := z; exact .base (.lst f)
      | dic ks vs => cases h; obtain ⟨kvs, f, _⟩ := z; exact .base (.dK f)
      | dlk ks vs => cases h; obtain ⟨ob, kvs, f, _⟩ := z; exact .fDict (S.sub _ _ f)
      | ins _ _ => cases h
      | dead => cases h
      | ptp xs => cases h

/-! ### a list's methods -/
def appM (p : PV) (ps : List PV) (st : Store) : Option (PV × Store) :=
  match p, ps with
  | .ref n, [q] => match st[n]? with
    | some (.lst xs) => if xs.length < sizeLine then some (.non, st.set n (.lst (xs ++ [q]))) else none
    | _ => none
  | _, _ => none
def popM (p : PV) (ps : List PV) (st : Store) : Option (PV × Store) :=
  match p with
  | .ref n => match st[n]? with
    | some (.lst xs) => match ps with
      | [] => xs[xs.length - 1]?.map fun q => (q, st.set n (.lst xs.dropLast))
      | [.int i] => match ixN xs.length i with
        | some k => if xs.length < 2 ^ 62 then xs[k]?.map fun q => (q, st.set n (.lst (xs.eraseIdx k))) else none
        | none => none
      | _ => none
    | _ => none
  | _ => none
def extM (p : PV) (ps : List PV) (st : Store) : Option (PV × Store) :=
  match p, ps with
  | .ref n, [q] => match st[n]? with
    | some (.lst xs) => match asL q st with
      | some ys => if xs.length + ys.length ≤ sizeLine then some (.non, st.set n (.lst (xs ++ ys))) else none
      | none => none
    | _ => none
  | _, _ => none
def joinL (sep : List Nat) : List (List Nat) → List Nat
  | [] => []
  | [x] => x
  | x :: r => x ++ sep ++ joinL sep r
def joinM (p : PV) (ps : List PV) (st : Store) : Option (PV × Store) :=
  match p, ps with
  | .str a, [q] => match (asQ q st).bind strL with
    | some ss => if (ss.map (·.length)).sum + ss.length * a.length ≤ 16777216 then some (.str (joinL a ss), st) else none
    | none => none
  | _, _ => none
theorem joinL_eq (sep : List Nat) : ∀ ss : List (List Nat), Txt.join ⟨sep.toArray⟩ (ss.map fun x => ⟨x.toArray⟩) = ⟨(joinL sep ss).toArray⟩ := by
  intro ss
  show Builtin.Str.glued ⟨sep.toArray⟩ _ = _
  rw [PySem.StrLaws.glued_eq_join]
  induction ss with
  | nil => rfl
  | cons x r ih =>
    cases r with
    | nil => rfl
    | cons y r =>
      show (⟨x.toArray⟩ : Str) ++ ⟨sep.toArray⟩ ++ Str.join ⟨sep.toArray⟩ ((y :: r).map fun x => (⟨x.toArray⟩ : Str)) = ⟨(x ++ sep ++ joinL sep (y :: r)).toArray⟩
      rw [ih, str_app, str_app]
theorem joinL_length (sep : List Nat) : ∀ ss : List (List Nat), (joinL sep ss).length ≤ (ss.map (·.length)).sum + ss.length * sep.length
  | [] => by simp [joinL]
  | [x] => by simp [joinL]
  | x :: y :: r => by
    have ih := joinL_length sep (y :: r)
    simp only [joinL, List.length_append, List.map_cons, List.sum_cons, List.length_cons] at ih ⊢
    have e1 : (r.length + 1) * sep.length = r.length * sep.length + sep.length := by rw [Nat.add_mul, Nat.one_mul]
    have e2 : (r.length + 1 + 1) * sep.length = r.length * sep.length + sep.length + sep.length := by rw [Nat.add_mul, Nat.one_mul, e1]
    rw [e1] at ih
    rw [e2]
    omega
section
variable {X : Cx} {T : Txt}
theorem meApp (hK : T.K = X.K) : MtR X "list.append" (rM T appM) := by
  rintro pins s σ H x xs v us Q I rx rs ⟨W, st, p, ps, z, S, rp, rps, h, k⟩
  match p, ps, h with
  | .ref n, [q], h =>
    obtain ⟨u, rfl, rq⟩ := reps1 rps
    cases hc : st[n]? with
    | none => simp only [appM, hc] at h; cases h
    | some c =>
      simp only [appM, hc] at h
      cases c with
      | lst ys =>
        have h : (if ys.length < sizeLine then some (PV.non, st.set n (.lst (ys ++ [q]))) else none) = some z := h
        by_cases hz : ys.length < sizeLine
        · rw [if_pos hz] at h
          have h := Option.some.inj h
          subst h
          obtain ⟨a, e, rfl⟩ := rp
          obtain ⟨vs, f, r1⟩ := S.cell n a _ e hc
          refine mt_append pins s σ H _ _ v us Q I rx rs ⟨a, vs, u, rfl, rfl, f, by rw [Reps.length r1]; exact hz, ?_⟩
          obtain ⟨g, S'⟩ := S.write e hc rfl (.lst (vs ++ [u])) (c' := .lst (ys ++ [q])) ⟨_, upd_same, r1.app (Reps.one rq)⟩
          exact k _ _ g S' _ rfl
        · rw [if_neg hz] at h; cases h
      | _ => cases h
theorem mePop (hK : T.K = X.K) : MtR X "list.pop" (rM T popM) := by
  rintro pins s σ H x xs v us Q I rx rs ⟨W, st, p, ps, z, S, rp, rps, h, k⟩
  cases p with
  | ref n =>
    cases hc : st[n]? with
    | none => simp only [popM, hc] at h; cases h
    | some c =>
      simp only [popM, hc] at h
      cases c with
      | lst ys =>
        obtain ⟨a, e, rfl⟩ := rp
        obtain ⟨vs, f, r1⟩ := S.cell n a _ e hc
        match ps, h with
        | [], h =>
          cases rps
          obtain ⟨q, hq, rfl⟩ := Option.map_eq_some_iff.mp h
          obtain ⟨w, hw, rw'⟩ := r1.get hq
          refine mt_pop pins s σ H _ _ v us Q I rx rs ⟨a, vs, w, rfl, rfl, f, by rw [Reps.length r1]; exact hw, ?_⟩
          have r2 : Reps T.K W ys.dropLast vs.dropLast := by
            rw [List.dropLast_eq_take, List.dropLast_eq_take, Reps.length r1]; exact r1.take _
          obtain ⟨g, S'⟩ := S.write e hc rfl (.lst vs.dropLast) (c' := .lst ys.dropLast) ⟨_, upd_same, r2⟩
          exact k _ _ g S' _ rw'
        | [.int i], h =>
          obtain ⟨u, rfl, rq⟩ := reps1 rps
          cases rq
          have h : (match ixN ys.length i with
            | some k => if ys.length < 2 ^ 62 then ys[k]?.map fun q => (q, st.set n (Cell.lst (ys.eraseIdx k))) else none
            | none => none) = some z := h
          cases hi : ixN ys.length i with
          | none => simp only [hi] at h; cases h
          | some j =>
            simp only [hi] at h
            by_cases hz : ys.length < 2 ^ 62
            · rw [if_pos hz] at h
              obtain ⟨q, hq, rfl⟩ := Option.map_eq_some_iff.mp h
              obtain ⟨w, hw, rw'⟩ := r1.get hq
              obtain ⟨k1, k2, k3, k4⟩ := ixN_seq hi
              refine mt_popAt pins s σ H _ _ v us Q I rx rs ⟨a, vs, i, j, w, rfl, rfl, f, by omega, by omega, by rw [Reps.length r1]; exact k1, hw, ?_⟩
              obtain ⟨g, S'⟩ := S.write e hc rfl (.lst (vs.eraseIdx j)) (c' := .lst (ys.eraseIdx j)) ⟨_, upd_same, r1.erase j⟩
              exact k _ _ g S' _ rw'
            · rw [if_neg hz] at h; cases h
      | _ => cases h
  | _ => cases h
theorem meExt (hK : T.K = X.K) : MtR X "list.extend" (rM T extM) := by
  rintro pins s σ H x xs v us Q I rx rs ⟨W, st, p, ps, z, S, rp, rps, h, k⟩
  match p, ps, h with
  | .ref n, [q], h =>
    obtain ⟨u, rfl, rq⟩ := reps1 rps
    cases hc : st[n]? with
    | none => simp only [extM, hc] at h; cases h
    | some c =>
      simp only [extM, hc] at h
      cases c with
      | lst ys =>
        cases hq : asL q st with
        | none => simp only [hq] at h; cases h
        | some ws =>
          simp only [hq] at h
          by_cases hz : ys.length + ws.length ≤ sizeLine
          · rw [if_pos hz] at h
            have h := Option.some.inj h
            subst h
            obtain ⟨a, e, rfl⟩ := rp
            obtain ⟨vs, f, r1⟩ := S.cell n a _ e hc
            obtain ⟨b, us', rfl, f2, r2⟩ := asL_at S rq hq
            refine mt_extend pins s σ H _ _ v us Q I rx rs ⟨a, b, vs, us', rfl, rfl, f, f2, by rw [Reps.length r1, Reps.length r2]; exact hz, ?_⟩
            obtain ⟨g, S'⟩ := S.write e hc rfl (.lst (vs ++ us')) (c' := .lst (ys ++ ws)) ⟨_, upd_same, r1.app r2⟩
            exact k _ _ g S' _ rfl
          · rw [if_neg hz] at h; cases h
      | _ => cases h
theorem meJoin (hK : T.K = X.K) : MtR X "str.join" (rM T joinM) := by
  obtain ⟨K, cl⟩ := T
  have hK : K = X.K := hK
  subst hK
  rintro pins s σ H x xs v us Q I rx rs ⟨W, st, p, ps, z, S, rp, rps, h, k⟩
  match p, ps, h with
  | .str a, [q], h =>
    obtain ⟨u, rfl, rq⟩ := reps1 rps
    have h : (match (asQ q st).bind strL with
      | some ss => if (ss.map (·.length)).sum + ss.length * a.length ≤ 16777216 then some (PV.str (joinL a ss), st) else none
      | none => none) = some z := h
    cases hq : (asQ q st).bind strL with
    | none => simp only [hq] at h; cases h
    | some ss =>
      simp only [hq] at h
      by_cases hz : (ss.map (·.length)).sum + ss.length * a.length ≤ 16777216
      · rw [if_pos hz] at h
        have h := Option.some.inj h
        subst h
        obtain ⟨ys, h1, h2⟩ := Option.bind_eq_some_iff.mp hq
        obtain ⟨b, vs, rfl, e1, r1⟩ := asQ_at S rq h1
        obtain ⟨rfl, _, _⟩ := strs_at r1 h2
        obtain ⟨rfl, _⟩ := rp
        refine mt_join pins s σ H _ _ v us Q I rx rs ⟨⟨a.toArray⟩, b, ss.map fun x => ⟨x.toArray⟩, rfl, rfl, by rw [List.map_map]; exact e1, ?_, k.here S ?_⟩
        · rw [List.map_map, List.length_map, str_len]
          have : ((fun x : Str => x.length) ∘ fun x : List Nat => (⟨x.toArray⟩ : Str)) = fun x => x.length := by funext x; exact str_len x
          rw [this]; exact hz
        · rw [joinL_eq]
          exact ⟨rfl, Nat.le_trans (joinL_length a ss) (by rw [sizeLine_eq]; exact hz)⟩
      · rw [if_neg hz] at h; cases h
end
end Pv
set_option maxHeartbeats 4000000
/-! Pv, part R: sorted() of tuples whose first words rise already. -/
namespace Pv
open PySem PySem.Spec PyProof.Rows PySem.SeqAt L2

def keyT : PV → Option (List Nat)
  | .tup (.str s :: _) => some s
  | _ => none
def keysT : List PV → Option (List (List Nat))
  | [] => some []
  | p :: ps => (keyT p).bind fun k => (keysT ps).map fun ks => k :: ks
def ascN : List (List Nat) → Bool
  | a :: b :: r => decide (a < b) && ascN (b :: r)
  | _ => true
def srtT (bx : Bool) (ps : List PV) (st : Store) : Option (PV × Store) := match srtB bx ps st with
  | some z => some z
  | none => match ps with
    | [p] => (asR p st).bind fun xs => (keysT xs).bind fun ks => if ascN ks then some (newL bx xs st) else none
    | _ => none
theorem ascN_pair : ∀ {l : List (List Nat)}, ascN l = true → l.Pairwise (· < ·)
  | [], _ => .nil
  | [a], _ => List.pairwise_singleton _ _
  | a :: b :: r, h => by
    unfold ascN at h
    rw [Bool.and_eq_true] at h
    have ih := ascN_pair h.2
    have hab : a < b := of_decide_eq_true h.1
    refine List.pairwise_cons.mpr ⟨fun z hz => ?_, ih⟩
    rcases List.mem_cons.mp hz with rfl | hz
    · exact hab
    · exact List.lt_trans hab ((List.pairwise_cons.mp ih).1 z hz)
/-- a tuple at v whose first item is the text s -/
def Tk (h : Heap) (v : Value) (s : List Nat) : Prop := ∃ a o items t r n, v = .ref a ∧ h.get? a = some o ∧ o.cls = .type "tuple" ∧ o.data = .seq items n ∧ items.toList = .str ⟨s.toArray⟩ t :: r
theorem Tk.uniq {h : Heap} {v : Value} {s s' : List Nat} (a : Tk h v s) (b : Tk h v s') : s = s' := by
  obtain ⟨a, o, it, t, r, n, rfl, e1, _, d1, l1⟩ := a
  obtain ⟨a', o', it', t', r', n', e, e2, _, d2, l2⟩ := b
  cases e
  rw [e1] at e2; cases e2
  rw [d1] at d2; cases d2
  rw [l1] at l2
  cases l2
  rfl
open Classical in
noncomputable def keyV (h : Heap) (v : Value) : List Nat := if q : ∃ s, Tk h v s then q.choose else []
theorem keyV_of {h : Heap} {v : Value} {s : List Nat} (t : Tk h v s) : keyV h v = s := by
  unfold keyV
  have q : ∃ s, Tk h v s := ⟨s, t⟩
  rw [dif_pos q]
  exact q.choose_spec.uniq t
noncomputable def ltK (h : Heap) (v u : Value) : Bool := decide (keyV h v < keyV h u)
theorem swoK (h : Heap) : SrtO.Swo (ltK h) := ⟨fun x y e => by
    unfold ltK at e ⊢
    exact decide_eq_false (List.lt_asymm (of_decide_eq_true e)), fun x y z e1 e2 => by
    unfold ltK at e1 e2 ⊢
    exact decide_eq_false (List.not_lt.mpr (List.le_trans (List.not_lt.mp (of_decide_eq_false e1)) (List.not_lt.mp (of_decide_eq_false e2))))⟩
theorem pair_inj {α : Type} {f : α → List Nat} : ∀ {l : List α}, (l.map f).Pairwise (· < ·) → ∀ {a b : α}, a ∈ l → b ∈ l → f a = f b → a = b
  | [], _, _, _, h, _, _ => absurd h (by simp)
  | x :: r, p, a, b, ha, hb, e => by
    rw [List.map_cons, List.pairwise_cons] at p
    rcases List.mem_cons.mp ha with ea | ha'
    · rcases List.mem_cons.mp hb with eb | hb'
      · rw [ea, eb]
      · exact absurd (p.1 _ (List.mem_map_of_mem hb')) (by rw [← e, ea]; exact List.lt_irrefl _)
    · rcases List.mem_cons.mp hb with eb | hb'
      · exact absurd (p.1 _ (List.mem_map_of_mem ha')) (by rw [e, eb]; exact List.lt_irrefl _)
      · exact pair_inj p.2 ha' hb' e
/-- what the items are -/
def Tks (h : Heap) : List Value → List (List Nat) → Prop
  | [], ks => ks = []
  | v :: r, ks => ∃ k t, ks = k :: t ∧ Tk h v k ∧ Tks h r t
theorem Tks.mem {h : Heap} : ∀ {vs : List Value} {ks : List (List Nat)}, Tks h vs ks → ∀ v ∈ vs, ∃ s, Tk h v s
  | [], _, _, v, hv => absurd hv (by simp)
  | x :: r, _, ⟨k, t, _, a, b⟩, v, hv => by
    rcases List.mem_cons.mp hv with rfl | hv
    · exact ⟨k, a⟩
    · exact b.mem v hv
theorem Tks.map {h : Heap} : ∀ {vs : List Value} {ks : List (List Nat)}, Tks h vs ks → vs.map (keyV h) = ks
  | [], _, e => by cases e; rfl
  | x :: r, _, ⟨k, t, e, a, b⟩ => by rw [List.map_cons, keyV_of a, b.map, e]
theorem Tks.firsts {h : Heap} : ∀ {vs : List Value} {ks : List (List Nat)}, Tks h vs ks → ∃ fs, PySem.W.KatTups h vs fs ∧ fs.length = vs.length ∧ ∀ f ∈ fs, ∃ s t, f = Value.str s t
  | [], _, _ => ⟨[], .nil, rfl, fun _ h => absurd h (by simp)⟩
  | x :: r, _, ⟨k, t, _, tk, b⟩ => by
    obtain ⟨a, o, it, tt, rr, n, rfl, e1, c1, d1, l1⟩ := tk
    obtain ⟨fs, h1, h2, h3⟩ := b.firsts
    refine ⟨_ :: fs, .cons e1 c1 d1 (f := .str ⟨k.toArray⟩ tt) (by rw [← Array.getElem?_toList, l1]; rfl) h1, by simp [h2], fun f hf => ?_⟩
    rcases List.mem_cons.mp hf with rfl | hf
    · exact ⟨_, _, rfl⟩
    · exact h3 f hf
theorem Tk.keeps {h h' : Heap} {v : Value} {s : List Nat} (t : Tk h v s) (k : ∀ b o, v = .ref b → h.get? b = some o → h'.get? b = some o) : Tk h' v s := by
  obtain ⟨a, o, it, tt, r, n, e, e1, c1, d1, l1⟩ := t
  exact ⟨a, o, it, tt, r, n, e, k a o e e1, c1, d1, l1⟩
section
variable {prog : Program} {w : World} {A : Around} {s : Shared}
theorem lex_self {b fin : Bool} {Q : Bool → Shared → Prop} (h : Q fin s) : ∀ (l : List Value) (i : Nat), PySem.W.KatLex prog w A b fin Q (l.zip l) i s
  | [], i => PySem.W.kat_nil h
  | v :: r, i => PySem.W.kat_cons (EqAt.same v prog w _ _ (PySem.W.kat_yes (lex_self h r (i + 1))))
theorem cmpK {h0 : Heap} {vs : List Value} {ks : List (List Nat)} (hk : Tks h0 vs ks) (hp : ks.Pairwise (· < ·)) (keep : ∀ v ∈ vs, ∀ k, Tk h0 v k → Tk s.heap v k) : SrtO.Cmp prog w A s (tuples' true) (fun p => p.1 ∈ vs) (SrtO.lt2 (ltK h0)) := by
  intro p q hm hm'
  have inj := @pair_inj _ (keyV h0) vs (by rw [hk.map]; exact hp)
  obtain ⟨k1, t1⟩ := hk.mem _ hm
  obtain ⟨k2, t2⟩ := hk.mem _ hm'
  have e1 := keyV_of t1
  have e2 := keyV_of t2
  show wpAny (model prog w) A (keyLt' (tuples' true) p.1 q.1) (fun r s' => s' = s ∧ r = ltK h0 p.1 q.1) (fun _ _ => False) s
  obtain ⟨a, o, it, t, r, n, ea, ho, hc, hd, l1⟩ := keep _ hm _ t1
  obtain ⟨a', o', it', t', r', n', ea', ho', hc', hd', l2⟩ := keep _ hm' _ t2
  by_cases hpq : p.1 = q.1
  · rw [← hpq, ea]
    refine PySem.W.kat_lt ho hd ho hd (lex_self ⟨rfl, ?_⟩ _ _)
    unfold ltK
    rw [decide_eq_false (Nat.lt_irrefl _), decide_eq_false (List.lt_irrefl _)]
  · have hne : k1 ≠ k2 := fun e => hpq (inj hm hm' (by rw [e1, e2, e]))
    unfold ltK
    rw [e1, e2, ea, ea']
    refine PySem.W.kat_lt ho hd ho' hd' ?_
    rw [l1, l2]
    refine PySem.W.kat_cons (SeqAt.EqAt.str_str _ _ _ _ prog w _ _ ?_)
    have hb : ((⟨k1.toArray⟩ : PySem.Str) == ⟨k2.toArray⟩) = false := beq_eq_false_iff_ne.mpr fun e => hne (by injection e with e; simpa using e)
    rw [hb]
    exact PySem.W.kat_no (oneLt_str ⟨rfl, by simp⟩)
theorem sortK {h0 : Heap} {a : Addr} {vs : List Value} {ks : List (List Nat)} (hk : Tks h0 vs ks) (k0 : ∀ v k, Tk h0 v k → Tk s.heap v k) (hp : ks.Pairwise (· < ·)) (h2 : 2 ≤ vs.length) (ha : ∀ o, s.heap.get? a = some o → o.cls ≠ .type "tuple") : SrtO.SortableO prog w A s a vs (ltK h0) := by
  intro h' keep
  have kk : ∀ v ∈ vs, ∀ k, Tk h0 v k → Tk h' v k := fun v _ k t => by
    obtain ⟨b, o, it, t, r, n, e, e1, c1, d1, l1⟩ := k0 v k t
    exact ⟨b, o, it, t, r, n, e, keep b o (fun z => by subst z; exact ha o e1 c1) e1, c1, d1, l1⟩
  have kks : ∀ {vs : List Value} {ks : List (List Nat)}, (∀ v ∈ vs, ∀ k, Tk h0 v k → Tk h' v k) → Tks h0 vs ks → Tks h' vs ks := fun {vs} => by
    induction vs with
    | nil => exact fun _ h => h
    | cons x r ih => exact fun kk ⟨k, t, e, a, b⟩ => ⟨k, t, e, kk x List.mem_cons_self k a, ih (fun v hv => kk v (List.mem_cons_of_mem _ hv)) b⟩
  obtain ⟨fs, h1, h2', h3⟩ := (kks kk hk).firsts
  refine ⟨tuples' true, fun Q E hq => ?_, cmpK (s := { s with heap := h' }) hk hp kk⟩
  refine PySem.W.kat_kind (T := .type "str") h1 (by omega) (fun f hm => ?_) (by rfl) ?_
  · obtain ⟨x, t, rfl⟩ := h3 f hm
    exact PySem.W.Looks.now
  · have e : (Value.type "str" != Value.type "tuple") = true := by first | decide +kernel | rfl | decide
    rw [e]
    exact hq
end
theorem tks_of {X : Cx} {pins : List (Addr × Obj)} {σ : L2.St} {H : Hp} {s : Shared} {W : Wd} (I : Inv X pins σ H s) (S : ∀ a o, W.F a = some o → H a = some o) : ∀ {xs : List PV} {vs : List V} {us : List Value} {ks : List (List Nat)}, Reps X.K W xs vs → Vals vs us → keysT xs = some ks → Tks s.heap us ks
  | [], _, _, _, r, q, e => by cases r; cases q; cases e; rfl
  | p :: ps, _, _, ks, ⟨v, r, e0, rp, rr⟩, q, e => by
    subst e0
    cases q with
    | @cons _ u _ us ru rs =>
      obtain ⟨k, h1, e⟩ := Option.bind_eq_some_iff.mp (show (keyT p).bind (fun k => (keysT ps).map fun ks => k :: ks) = some ks from e)
      obtain ⟨t, h2, e⟩ := Option.map_eq_some_iff.mp e
      subst e
      refine ⟨k, t, rfl, ?_, tks_of I S rr rs h2⟩
      unfold keyT at h1
      split at h1
      · cases h1
        obtain ⟨l, ws, its, rfl, ⟨o, ho, hc, n, hd⟩, rv, rw', _⟩ := (seq_items I S).1 rp ru
        obtain ⟨w1, wr, rfl, ⟨rfl, _⟩, _⟩ := rw'
        generalize hit : its.toList = L at rv
        cases rv with
        | cons z zs =>
          obtain ⟨tk, rfl⟩ := z
          exact ⟨l, o, its, tk, _, n, rfl, ho, hc, hd, hit⟩
      · cases h1
theorem biSrtT {X : Cx} {T : Txt} (hK : T.K = X.K) (hc : X.calm = true) (bx : Bool) : CallR X (.builtin "sorted") (rC T (srtT bx)) := by
  rintro pins s σ H xs us Q I r ⟨W, st, ps, z, S, rs, h, k⟩
  unfold srtT at h
  cases h0 : srtB bx ps st with
  | some z' =>
    simp only [h0] at h
    cases h
    exact biSrt hK hc bx pins s σ H xs us Q I r ⟨W, st, ps, z, S, rs, h0, k⟩
  | none =>
    simp only [h0] at h
    obtain ⟨K, cl⟩ := T
    have hK : K = X.K := hK
    subst hK
    match ps, h with
    | [p], h =>
      obtain ⟨ys, h1, h⟩ := Option.bind_eq_some_iff.mp h
      obtain ⟨ks, h2, h⟩ := Option.bind_eq_some_iff.mp h
      by_cases ha : ascN ks = true
      rotate_left
      · rw [if_neg ha] at h; cases h
      rw [if_pos ha] at h
      have h := Option.some.inj h
      subst h
      obtain ⟨v, rfl, rp⟩ := reps1 rs
      obtain ⟨a, vs, rfl, e1, r1⟩ := asR_at S rp h1
      obtain ⟨its, rv, hl, hz⟩ := I.list e1
      rw [Vals.ref1 r]
      have tk := tks_of I S.sub r1 rv h2
      have hp := ascN_pair ha
      refine SrtO.sorted_ord (swoK s.heap) hl.isList (by rw [← rv.length]; exact hz) (fun h2 h₁ a' ha' kp => ?_) fun out h1 h2 => ?_
      · exact sortK (s := { s with heap := h₁ }) tk (fun v k t => t.keeps fun b o _ e => (kp b o e).2) hp h2 fun o e => by
          have e' : some o = some (seqObj "list" its.toArray 0) := e.symm.trans ha'
          cases e'
          intro c
          exact absurd (Value.type.inj c) (by decide)
      · have inj := @pair_inj _ (keyV s.heap) its (by rw [tk.map]; exact hp)
        have e : out = its := by
          refine List.Perm.eq_of_pairwise (le := fun x y => ltK s.heap y x = false) (fun x y hx hy e1 e2 => inj (h2.perm.mem_iff.mp hx) hy ?_) h1 ?_ h2.perm
          · unfold ltK at e1 e2
            exact List.le_antisymm (List.not_lt.mp (of_decide_eq_false e1)) (List.not_lt.mp (of_decide_eq_false e2))
          · have p2 : (its.map (keyV s.heap)).Pairwise (· < ·) := by rw [tk.map]; exact hp
            refine (List.pairwise_map.mp p2).imp fun {x y} h => ?_
            unfold ltK
            exact decide_eq_false (List.lt_asymm h)
        subst e
        obtain ⟨ep, he'⟩ := PyProof.Rows.sortedAll_at s.heap out out.toArray
        exact ⟨.ref _, upd H (s.heap.objs.size + 1) (.lst vs), I.laid (t' := s.toks) (fun _ _ => PyProof.Rows.sortedAll_old) (Nat.le_succ _) ⟨hz, out, ep, rv, he'⟩, rfl, k.newL S r1 _ (I.hok.fresh (Nat.le_succ _))⟩
    | [], h => cases h
    | _ :: _ :: _, h => cases h
end Pv
/-! Pv, part Z: zip of a list and a tuple (any mixture), as a walk and as what dict() takes. -/
namespace Pv
open PySem PySem.Spec PyProof.Rows PySem.SeqAt L2

/-! ### a list or a tuple (true: a tuple), its walker -/
def AsX : Bool → Heap → Addr → Array Value → Prop
  | true, h, a, xs => h.IsTuple a xs
  | false, h, a, xs => h.IsList a xs
def ItX : Bool → Heap → Addr → Addr → Nat → Prop
  | true, h, i, l, k => h.IsTupleIter i l k
  | false, h, i, l, k => h.IsListIter i l k
def SqX (t : Bool) (K : PySem.W.Frag) (H : Hp) (a : Addr) (vs : List V) : Prop := if t then SqT K H a vs else SqL K H a vs
def nmX (t : Bool) : String := if t then "tuple_iterator" else "list_iterator"
theorem AsX.keep {t : Bool} {h h' : Heap} {a : Addr} {xs : Array Value} (x : AsX t h a xs) (e : ∀ o, h.get? a = some o → h'.get? a = some o) : AsX t h' a xs := by
  cases t
  · exact Heap.IsList.at x e
  · exact Heap.IsTuple.at x e
theorem ItX.keep {t : Bool} {h h' : Heap} {i a : Addr} {k : Nat} (x : ItX t h i a k) (e : ∀ o, h.get? i = some o → h'.get? i = some o) : ItX t h' i a k := by
  cases t
  · exact Heap.IsListIter.at x e
  · exact Heap.IsTupleIter.at x e
theorem AsX.here {t : Bool} {h : Heap} {a : Addr} {xs : Array Value} (x : AsX t h a xs) : ∃ o, h.get? a = some o := by
  cases t
  · obtain ⟨o, e, _⟩ := (show h.IsList a xs from x); exact ⟨o, e⟩
  · obtain ⟨o, e, _⟩ := (show h.IsTuple a xs from x); exact ⟨o, e⟩
theorem ItX.here {t : Bool} {h : Heap} {i a : Addr} {k : Nat} (x : ItX t h i a k) : ∃ o, h.get? i = some o ∧ ∀ v, o.data ≠ .cell v := by
  cases t
  · obtain ⟨o, e, _, d⟩ := (show h.IsListIter i a k from x); exact ⟨o, e, fun v q => by rw [d] at q; cases q⟩
  · obtain ⟨o, e, _, d⟩ := (show h.IsTupleIter i a k from x); exact ⟨o, e, fun v q => by rw [d] at q; cases q⟩
theorem drawsX {prog : Program} {w : World} {A : Around} (t : Bool) (hh : A.handled = none) (it l : Addr) (hne : l ≠ it) (items : Array Value) :
    Draws prog w A it [it, l] items.size (fun i v => items[i]? = some v) (fun i h => ItX t h it l i ∧ AsX t h l items) := by
  cases t
  · exact Draws.list hh it l hne items
  · exact {
      live := fun _ _ st => let ⟨o, e, _⟩ := st.1; ⟨o, e⟩
      frame := fun _ h h' st k => ⟨ItX.keep st.1 fun o e => k it (by simp) o e, AsX.keep st.2 fun o e => k l (by simp) o e⟩
      item := fun i s Q E hi st q => RZ.nextOf_tuple_item st.1 st.2 (x := items[i]) (by simp [hi]) fun h' it' sb =>
        q _ h' s.toks (by simp [hi]) ⟨it', AsX.keep (t := true) st.2 fun o e => sb.extBut l o hne e⟩ sb
      done := fun s Q E st q => RZ.nextOf_tuple_end hh st.1 st.2 (by simp) q }
theorem sepX {z TI TO i1 i2 l1 l2 : Addr} (D : ZipApart z TI TO i1 i2 l1 l2) : ZipSep2 z TI TO i1 i2 [i1, l1] [i2, l2] where
  TIz := D.TIz
  TOz := D.TOz
  TITO := D.TITO
  TIi1 := D.TIi1
  mem1 := by simp
  zf1 := by simp only [List.mem_cons, List.not_mem_nil, or_false, not_or]; exact ⟨D.i1z.symm, D.l1z.symm⟩
  Tf1 := by simp only [List.mem_cons, List.not_mem_nil, or_false, not_or]; exact ⟨D.TOi1, D.l1TO.symm⟩
  TIi2 := D.TIi2
  mem2 := by simp
  zf2 := by simp only [List.mem_cons, List.not_mem_nil, or_false, not_or]; exact ⟨D.i2z.symm, D.l2z.symm⟩
  Tf2 := by simp only [List.mem_cons, List.not_mem_nil, or_false, not_or]; exact ⟨D.TOi2, D.l2TO.symm⟩
  sep1_2 := by simp only [List.mem_cons, List.not_mem_nil, or_false, not_or]; exact ⟨D.i12, D.l2i1.symm⟩
  sep2_1 := by simp only [List.mem_cons, List.not_mem_nil, or_false, not_or]; exact ⟨D.i12.symm, D.l1i2.symm⟩
/-! ### zip(..) is made -/
def itO (t : Bool) (l : Addr) : Obj := { cls := .type (nmX t), data := .fields #[.ref l, .int 0 0] }
def m1 (h : Heap) (t : Bool) (l1 : Addr) : Heap := h.push (itO t l1)
def m2 (h : Heap) (t u : Bool) (l1 l2 : Addr) : Heap := (m1 h t l1).push (itO u l2)
def m3 (h : Heap) (t u : Bool) (l1 l2 : Addr) : Heap := (m2 h t u l1 l2).push { cls := .type "tuple", data := .seq #[.ref h.objs.size, .ref (m1 h t l1).objs.size] }
def m4 (h : Heap) (t u : Bool) (l1 l2 : Addr) : Heap := (m3 h t u l1 l2).push { cls := .type "tuple", data := .seq #[.none, .none] }
def m5 (h : Heap) (t u : Bool) (l1 l2 : Addr) : Heap := (m4 h t u l1 l2).push { cls := .type "zip", data := .fields #[.none, .bool false, .bool false, .ref (m2 h t u l1 l2).objs.size, .ref (m3 h t u l1 l2).objs.size] }
theorem newX (t u : Bool) (l1 l2 : Addr) (xs ys : Array Value) : Meets (Builtin.«zip.__new__» ⟨[.type "zip", .ref l1, .ref l2], []⟩) (fun _ R s => AsX t s.heap l1 xs ∧ AsX u s.heap l2 ys ∧ R (.ok (.ret (.ref (m4 s.heap t u l1 l2).objs.size))) { s with heap := m5 s.heap t u l1 l2 }) :=
  .of_wp fun prog w A R s h => by
    obtain ⟨hp, g, d, tk, os⟩ := s
    obtain ⟨a1, a2, h⟩ := h
    have z0 := sub_zip
    have b2 : AsX u (Shared.heap ⟨hp.push (itO t l1), g, d, tk, os⟩) l2 ys := a2.keep fun o e => Heap.get?_push_of_some _ e
    cases t <;> cases u
    · have c1 : Heap.IsList (Shared.heap ⟨hp, g, d, tk, os⟩) l1 xs := a1
      have c2 : Heap.IsList (Shared.heap ⟨hp.push { cls := .type "list_iterator", data := .fields #[.ref l1, .int 0 0] }, g, d, tk, os⟩) l2 ys := b2
      wp_walk using wpAny_pyIter_list c1, wpAny_pyIter_list c2
      exact ⟨_, rfl, h⟩
    · have c1 : Heap.IsList (Shared.heap ⟨hp, g, d, tk, os⟩) l1 xs := a1
      have c2 : Heap.IsTuple (Shared.heap ⟨hp.push { cls := .type "list_iterator", data := .fields #[.ref l1, .int 0 0] }, g, d, tk, os⟩) l2 ys := b2
      wp_walk using wpAny_pyIter_list c1, wpAny_pyIter_tuple c2
      exact ⟨_, rfl, h⟩
    · have c1 : Heap.IsTuple (Shared.heap ⟨hp, g, d, tk, os⟩) l1 xs := a1
      have c2 : Heap.IsList (Shared.heap ⟨hp.push { cls := .type "tuple_iterator", data := .fields #[.ref l1, .int 0 0] }, g, d, tk, os⟩) l2 ys := b2
      wp_walk using wpAny_pyIter_tuple c1, wpAny_pyIter_list c2
      exact ⟨_, rfl, h⟩
    · have c1 : Heap.IsTuple (Shared.heap ⟨hp, g, d, tk, os⟩) l1 xs := a1
      have c2 : Heap.IsTuple (Shared.heap ⟨hp.push { cls := .type "tuple_iterator", data := .fields #[.ref l1, .int 0 0] }, g, d, tk, os⟩) l2 ys := b2
      wp_walk using wpAny_pyIter_tuple c1, wpAny_pyIter_tuple c2
      exact ⟨_, rfl, h⟩
section
variable {prog : Program} {w : World} {A : Around} {E : Value → Shared → Prop} {s : Shared}
theorem itO_at {h : Heap} {t : Bool} {i l : Addr} (e : h.get? i = some (itO t l)) : ItX t h i l 0 := by
  cases t
  · exact ⟨_, e, rfl, rfl⟩
  · exact ⟨_, e, rfl, rfl⟩
theorem callX {t u : Bool} {l1 l2 : Addr} {xs ys : Array Value} {Q : Value → Shared → Prop} (a1 : AsX t s.heap l1 xs) (a2 : AsX u s.heap l2 ys)
    (k : ∀ h', IsZip h' (s.heap.objs.size + 4) (s.heap.objs.size + 2) (s.heap.objs.size + 3) .none → IsPair h' (s.heap.objs.size + 2) (.ref s.heap.objs.size) (.ref (s.heap.objs.size + 1)) → IsPair h' (s.heap.objs.size + 3) .none .none →
      ItX t h' s.heap.objs.size l1 0 → ItX u h' (s.heap.objs.size + 1) l2 0 → (∀ c o, s.heap.get? c = some o → h'.get? c = some o) → Q (.ref (s.heap.objs.size + 4)) { s with heap := h' }) :
    wpAny (model prog w) A (call (.type "zip") [.ref l1, .ref l2]) Q E s := by
  refine callType_new F.called_zip (by decide) (F.typeCall_zip_2 _ _) (F.newCall_zip_2 _ _) (fun obj => F.args_object_init_3 obj _ _) F.entry_zip_new (newX t u l1 l2 xs ys) ⟨a1, a2, ?_⟩
  have n1 : (m1 s.heap t l1).objs.size = s.heap.objs.size + 1 := Heap.size_push ..
  have n2 : (m2 s.heap t u l1 l2).objs.size = s.heap.objs.size + 2 := by unfold m2; rw [Heap.size_push, n1]
  have n3 : (m3 s.heap t u l1 l2).objs.size = s.heap.objs.size + 3 := by unfold m3; rw [Heap.size_push, n2]
  have n4 : (m4 s.heap t u l1 l2).objs.size = s.heap.objs.size + 4 := by unfold m4; rw [Heap.size_push, n3]
  have up4 : ∀ {c o}, (m4 s.heap t u l1 l2).get? c = some o → (m5 s.heap t u l1 l2).get? c = some o := fun e => Heap.get?_push_of_some _ e
  have up3 : ∀ {c o}, (m3 s.heap t u l1 l2).get? c = some o → (m5 s.heap t u l1 l2).get? c = some o := fun e => up4 (Heap.get?_push_of_some _ e)
  have up2 : ∀ {c o}, (m2 s.heap t u l1 l2).get? c = some o → (m5 s.heap t u l1 l2).get? c = some o := fun e => up3 (Heap.get?_push_of_some _ e)
  have up1 : ∀ {c o}, (m1 s.heap t l1).get? c = some o → (m5 s.heap t u l1 l2).get? c = some o := fun e => up2 (Heap.get?_push_of_some _ e)
  have g5 : (m5 s.heap t u l1 l2).get? (s.heap.objs.size + 4) = some { cls := .type "zip", data := .fields #[.none, .bool false, .bool false, .ref (s.heap.objs.size + 2), .ref (s.heap.objs.size + 3)] } := by
    have e : m5 s.heap t u l1 l2 = (m4 s.heap t u l1 l2).push { cls := .type "zip", data := .fields #[.none, .bool false, .bool false, .ref (s.heap.objs.size + 2), .ref (s.heap.objs.size + 3)] } := by unfold m5; rw [n2, n3]
    rw [e, ← n4]; exact Heap.get?_push_size _ rfl
  have g4 : (m5 s.heap t u l1 l2).get? (s.heap.objs.size + 3) = some { cls := .type "tuple", data := .seq #[.none, .none] } := by
    rw [← n3]; exact up4 (Heap.get?_push_size _ rfl)
  have g3 : (m5 s.heap t u l1 l2).get? (s.heap.objs.size + 2) = some { cls := .type "tuple", data := .seq #[.ref s.heap.objs.size, .ref (s.heap.objs.size + 1)] } := by
    rw [← n2, ← n1]; exact up3 (Heap.get?_push_size _ rfl)
  have g2 : (m5 s.heap t u l1 l2).get? (s.heap.objs.size + 1) = some (itO u l2) := by
    rw [← n1]; exact up2 (Heap.get?_push_size _ (by cases u <;> rfl))
  have g1 : (m5 s.heap t u l1 l2).get? s.heap.objs.size = some (itO t l1) := up1 (Heap.get?_push_size _ (by cases t <;> rfl))
  show _ ∧ _
  rw [n4]
  exact ⟨⟨_, g5, rfl⟩, k _ g5 g3 g4 (itO_at g1) (itO_at g2) fun c o e => up1 (Heap.get?_push_of_some _ e)⟩
end
end Pv
/-! Pv, part Z2: zip of any mixture walked; dict(zip(..)). -/
namespace Pv
open PySem PySem.Spec PyProof.Rows PySem.SeqAt L2

def ItzM (t u : Bool) (K : PySem.W.Frag) (a b : Addr) : It where
  go := fun i H => ∃ (xs ys : List V) (x y : V), SqX t K H a xs ∧ SqX u K H b ys ∧ xs[i]? = some x ∧ ys[i]? = some y
  yld := fun i H v H' => ∃ T x y, v = .ref T ∧ H T = none ∧ H' = upd H T (.tup [x, y]) ∧ (∀ xs, SqX t K H a xs → xs[i]? = some x) ∧ ∀ ys, SqX u K H b ys → ys[i]? = some y
  stop := fun i H => ∃ xs ys : List V, SqX t K H a xs ∧ SqX u K H b ys ∧ (xs.length ≤ i ∨ ys.length ≤ i) ∧ i ≤ xs.length ∧ i ≤ ys.length
theorem sqX_at {X : Cx} {pins : List (Addr × Obj)} {σ : L2.St} {H : Hp} {s : Shared} (I : Inv X pins σ H s) {t : Bool} {a : Addr} {xs : List V} (h : SqX t X.K H a xs) : ∃ its : List Value, Vals xs its ∧ AsX t s.heap a its.toArray ∧ xs.length ≤ sizeLine := by
  cases t
  · obtain ⟨its, r, p, z⟩ := I.list (show SqL X.K H a xs from h)
    exact ⟨its, r, p.isList, z⟩
  · obtain ⟨its, r, p, z⟩ := I.tuple (show SqT X.K H a xs from h)
    exact ⟨its, r, p, z⟩
theorem sqX_inj {X : Cx} {pins : List (Addr × Obj)} {σ : L2.St} {H : Hp} {s : Shared} (I : Inv X pins σ H s) {t : Bool} {a : Addr} {xs ys : List V} (h : SqX t X.K H a xs) (h' : SqX t X.K H a ys) : xs = ys := by
  cases t
  · exact I.list_inj (show SqL X.K H a xs from h) h'
  · exact I.tuple_inj (show SqT X.K H a xs from h) h'
/-- the cells of a zip -/
structure ZipSt (t u : Bool) (z TI TO i1 i2 a b : Addr) (i : Nat) (h : Heap) : Prop where
  z : IsZip h z TI TO .none
  ti : IsPair h TI (.ref i1) (.ref i2)
  tO : ∃ x y, IsPair h TO x y
  one : ItX t h i1 a i
  two : ItX u h i2 b i
theorem mem5 {c z TI TO i1 i2 : Addr} (h : c ∈ [z, TI, TO, i1, i2]) : c = z ∨ c = TI ∨ c = TO ∨ c = i1 ∨ c = i2 := by simpa using h
theorem ZipSt.at5 {t u : Bool} {z TI TO i1 i2 a b : Addr} {i : Nat} {h : Heap} (st : ZipSt t u z TI TO i1 i2 a b i h) {c : Addr} (hc : c ∈ [z, TI, TO, i1, i2]) : ∃ o, h.get? c = some o ∧ ∀ v, o.data ≠ .cell v := by
  obtain ⟨x, y, hTO⟩ := st.tO
  rcases mem5 hc with rfl | rfl | rfl | rfl | rfl
  · exact ⟨_, st.z, fun v q => nomatch q⟩
  · exact ⟨_, st.ti, fun v q => nomatch q⟩
  · exact ⟨_, hTO, fun v q => nomatch q⟩
  · exact st.one.here
  · exact st.two.here
theorem turnX {P : Program} {w : World} {K : PySem.W.Frag} {elts : List Expr} {kk : Nat} {tpos : Pos} {t u : Bool} {a b z TI TO i1 i2 : Addr} (D : ZipApart z TI TO i1 i2 a b) :
    Turn P w K (.Tuple elts kk tpos) (ItzM t u K a b) [z, TI, TO, i1, i2] z (ZipSt t u z TI TO i1 i2 a b) where
  mem := by simp
  obj := fun i h st c hc => st.at5 hc
  keep := fun i h h' st k => by
    obtain ⟨x, y, hTO⟩ := st.tO
    exact ⟨k z (by simp) _ st.z, k TI (by simp) _ st.ti, ⟨x, y, k TO (by simp) _ hTO⟩, st.one.keep fun o e => k i1 (by simp) o e, st.two.keep fun o e => k i2 (by simp) o e⟩
  self := fun A i s Q E st q => wpAny_pyIter_zip st.z q
  done := by
    rintro X rfl rfl rfl hc i pins s σ H E I hf st ⟨xs, ys, qx, qy, hend, l1, l2⟩
    obtain ⟨its, rv, p, _⟩ := sqX_at I qx
    obtain ⟨its2, rv2, p2, _⟩ := sqX_at I qy
    obtain ⟨x0, y0, hTO⟩ := st.tO
    have n1 : its.toArray.size = xs.length := by rw [List.size_toArray, rv.length]
    have n2 : its2.toArray.size = ys.length := by rw [List.size_toArray, rv2.length]
    have D1 := drawsX (prog := X.prog) (w := X.w) (A := X.A.in1) t (I.ok.hd hc) i1 a D.l1i1 its.toArray
    have D2 := drawsX (prog := X.prog) (w := X.w) (A := X.A.in1) u (I.ok.hd hc) i2 b D.l2i2 its2.toArray
    refine wpAny_pyNext_zipD2_end (sepX D) D1 D2 st.z st.ti hTO ⟨st.one, p⟩ ⟨st.two, p2⟩ (by omega) (by omega) (by omega) fun h' tk hk => ⟨rfl, ?_⟩
    exact I.turnedL (ch := [z, TI, TO, i1, i2]) (fun c o hb q => hk c o (fun e => hb (by simp [e])) (fun e => hb (by simp [e])) (fun e => hb (by simp [e])) (fun e => hb (by simp [e])) q) hf
  item := by
    rintro X rfl rfl rfl hc i pins s σ H E I hf st ⟨xs, ys, x, y, qx, qy, hx, hy⟩
    obtain ⟨its, rv, p, _⟩ := sqX_at I qx
    obtain ⟨its2, rv2, p2, _⟩ := sqX_at I qy
    obtain ⟨v, hv, ru⟩ := rv.get hx
    obtain ⟨v2, hv2, ru2⟩ := rv2.get hy
    obtain ⟨x0, y0, hTO⟩ := st.tO
    have hzl : z < s.heap.objs.size := Heap.lt_size st.z
    have n1 : i < its.toArray.size := by rw [List.size_toArray]; exact (List.getElem?_eq_some_iff.mp hv).1
    have n2 : i < its2.toArray.size := by rw [List.size_toArray]; exact (List.getElem?_eq_some_iff.mp hv2).1
    have D1 := drawsX (prog := X.prog) (w := X.w) (A := X.A.in1) t (I.ok.hd hc) i1 a D.l1i1 its.toArray
    have D2 := drawsX (prog := X.prog) (w := X.w) (A := X.A.in1) u (I.ok.hd hc) i2 b D.l2i2 its2.toArray
    refine wpAny_pyNext_zipD2_item (sepX D) D1 D2 st.z st.ti hTO ⟨st.one, p⟩ ⟨st.two, p2⟩ n1 n2 fun w1 w2 h' tk e1 e2 z' TO' s1 s2 hT hsz hk => ?_
    have f1 : w1 = v := by
      have : its.toArray[i]? = some v := by simpa using hv
      rw [this] at e1; exact (Option.some.inj e1).symm
    have f2 : w2 = v2 := by
      have : its2.toArray[i]? = some v2 := by simpa using hv2
      rw [this] at e2; exact (Option.some.inj e2).symm
    subst f1; subst f2
    refine ⟨_, rfl, wpAny_letOwnedTupleGo_zip z' fun h'' z'' sb => ?_⟩
    have hT2 : h''.get? s.heap.objs.size = some { cls := .type "tuple", data := .seq #[w1, w2] } := (sb.2 _ (Nat.ne_of_gt hzl)).trans hT
    have new : ObjOk X.prog X.w (upd H s.heap.objs.size (.tup [x, y])) h'' s.heap.objs.size (.tup [x, y]) := ⟨by show 2 ≤ sizeLine; rw [sizeLine_eq]; decide, [w1, w2], .cons ru (.cons ru2 .nil), ⟨_, hT2, rfl, _, rfl⟩⟩
    have I1 : Inv X pins σ (upd H s.heap.objs.size (.tup [x, y])) { s with heap := h'', toks := tk } :=
      I.turnedNew (ch := [z, TI, TO, i1, i2]) (fun c o hb q => (sb.2 c fun e => hb (by simp [e])).trans (hk c o (fun e => hb (by simp [e])) (fun e => hb (by simp [e])) (fun e => hb (by simp [e])) (fun e => hb (by simp [e])) q)) hf (Nat.le_refl _) new
    refine ⟨.ref s.heap.objs.size, _, I1, rfl, ⟨_, x, y, rfl, I.hok.fresh (Nat.le_refl _), rfl, fun l hl => by rw [sqX_inj I hl qx]; exact hx, fun l hl => by rw [sqX_inj I hl qy]; exact hy⟩, ⟨z'', ?_, ⟨w1, w2, ?_⟩, ?_, ?_⟩, fun c hcm => ?_⟩
    · exact (sb.2 _ D.TIz).trans (hk _ _ D.TIz D.TITO D.TIi1 D.TIi2 st.ti)
    · exact (sb.2 _ D.TOz).trans TO'
    · exact s1.1.keep fun o q => (sb.2 _ D.i1z).trans q
    · exact s2.1.keep fun o q => (sb.2 _ D.i2z).trans q
    · obtain ⟨o, e, _⟩ := st.at5 hcm
      rw [upd_ne (Nat.ne_of_lt (Heap.lt_size e))]
      exact (hf c hcm).1
theorem news5 {X : Cx} {pins : List (Addr × Obj)} {σ : L2.St} {H : Hp} {s : Shared} (I : Inv X pins σ H s) : ∀ c ∈ [s.heap.objs.size + 4, s.heap.objs.size + 2, s.heap.objs.size + 3, s.heap.objs.size, s.heap.objs.size + 1], FpOk X pins H c := fun c hc => by
  have hle : s.heap.objs.size ≤ c := by rcases mem5 hc with e | e | e | e | e <;> (rw [e]; first | exact Nat.le_add_right _ _ | exact Nat.le_refl _)
  exact I.fpOk hle (I.hok.fresh hle)
/-- zip(a, b) as what is walked -/
def iZipM (K : PySem.W.Frag) (ta : TA) : TI := fun σ H R => ta σ H fun vs H1 => ∃ a b xs ys t u, vs = [.ref a, .ref b] ∧ SqX t K H1 a xs ∧ SqX u K H1 b ys ∧ R (ItzM t u K a b) H1
theorem pi_zipM {X : Cx} {e e2 : Expr} {ta : TA} {p pos tpos : Pos} {elts : List Expr} {kk : Nat} (hg : Gl X "zip") (hm : X.mg "zip" = none) (ha : PA X [e, e2] ta)
    (hs : starEach [e, e2] X.env = (false, eval e X.env) :: starEach [e2] X.env := by rfl) (hpl : (backTo pos (starEach [e2] X.env)).any (·.1) = false := by rfl) :
    PI X (.Tuple elts kk tpos) (.Call (.Name "zip" p) [e, e2] [] pos) (iZipM X.K ta) := by
  refine ⟨fun pins s σ H R I h => ?_⟩
  refine Call_ (ld_blt I hg hm PyProof.Rows.boot_zip (PyProof.Rows.callWith_type1 (thn (ha.run pos pins s σ H _ I h) fun us s1 ⟨vs, H1, I1, r1, q1⟩ => ?_) hs hpl))
  obtain ⟨a, b, xs, ys, t, u, rfl, qx, qy, q⟩ := q1
  obtain ⟨u1, u2, rfl, r, r'⟩ : ∃ u1 u2, us = [u1, u2] ∧ RelV (.ref a) u1 ∧ RelV (.ref b) u2 := by
    cases r1 with
    | cons r rr => cases rr with
      | cons r' rr => cases rr; exact ⟨_, _, rfl, r, r'⟩
  cases r
  cases r'
  obtain ⟨its, rv, p1, _⟩ := sqX_at I1 qx
  obtain ⟨its2, rv2, p2, _⟩ := sqX_at I1 qy
  obtain ⟨o1, h1⟩ := p1.here
  obtain ⟨o2, h2⟩ := p2.here
  refine callX p1 p2 fun h' hz hTI hTO s1' s2' hk => wpAny_pyIter_zip hz ?_
  exact ⟨_, _, _, _, H1, rfl, I1.kept (t' := s1.toks) hk, turnX (PySem.W.ktu_apart s1.heap.objs.size a b (Heap.lt_size h1) (Heap.lt_size h2)), ⟨hz, hTI, ⟨_, _, hTO⟩, s1', s2'⟩, news5 I1, q⟩
end Pv
/-! Pv, part Z3: dict(zip(..)). -/
namespace Pv
open PySem PySem.Spec PyProof.Rows PySem.SeqAt L2

section
variable {prog : Program} {w : World} {A : Around} {E : Value → Shared → Prop} {s : Shared} {z TI TO i1 i2 T : Addr} {fp1 fp2 : List Addr} {n1 n2 i : Nat} {P1 P2 : Nat → Value → Prop} {St1 St2 : Nat → Heap → Prop} {f : Bool} {oT : Obj}
/-- the next pair, while the pair before is still held -/
theorem heldX {Q : Option Value → Shared → Prop} (S : ZipSep2 z TI TO i1 i2 fp1 fp2) (D1 : Draws prog w A.in1 i1 fp1 n1 P1 St1) (D2 : Draws prog w A.in1 i2 fp2 n2 P2 St2) (hz : IsZipHeld s.heap z TI TO T f) (hT : s.heap.get? T = some oT) (hTI : IsPair s.heap TI (.ref i1) (.ref i2))
    (a1 : St1 i s.heap) (a2 : St2 i s.heap) (b1 : i < n1) (b2 : i < n2)
    (k : ∀ x1 x2 h' tk, P1 i x1 → P2 i x2 → IsZipHeld h' z TI TO T true → St1 (i + 1) h' → St2 (i + 1) h' → IsPair h' s.heap.objs.size x1 x2 → (∀ c o, c ≠ z → c ≠ i1 → c ≠ i2 → s.heap.get? c = some o → h'.get? c = some o) → Q (some (.ref s.heap.objs.size)) { s with heap := h', toks := tk }) :
    wpAny (model prog w) A (pyNext (.ref z)) Q E s := by
  have ty : s.TypeIs (.ref z) "zip" := ⟨_, hz, rfl⟩
  obtain ⟨hp, g, d, tk0, os⟩ := s
  unfold pyNext
  refine wpAny_bind (wpAny_attempt (wpAny_callSpecial?_slot (name := Str.ofString "__next__") ty F.slot_zip_next (wpAny_call_entry F.slot_zip_next ty F.entry_zip_next ?_ (F.args_zip_next_1 _))))
  refine (show wpAny _ _ (field (.ref z) 2 >>= _) _ _ _ from wpAny_bind (wpAny_field hz rfl (x := .bool false) rfl ?_))
  refine (show wpAny _ _ (field (.ref z) 3 >>= _) _ _ _ from wpAny_bind (wpAny_field hz rfl (x := .ref TI) rfl (wpAny_bind (wpAny_seqItems hTI rfl ?_))))
  refine (show wpAny _ _ (Builtin.SmallTypes.ownedTupleIsFree (.ref z) >>= _) _ _ _ from wpAny_bind (wpAny_tupleHeld_zip hz hT fun q1 z1 c1 => ?_))
  simp only [Bool.false_eq_true, if_false, ← Array.forIn_toList, List.forIn_cons, List.forIn_nil]
  refine wpAny_bind (wpAny_bind (wpAny_bind (wpAny_holding ?_)))
  refine (show wpAny _ _ (Builtin.SmallTypes.nextOf (.ref i1) >>= _) _ _ _ from wpAny_bind (D1.item i ⟨q1, g, d, tk0, os⟩ _ _ b1 (D1.over a1 c1 S.zf1) fun x1 q2 t2 p1 s1 c2 => wpAny_pure (wpAny_pure (wpAny_bind (wpAny_bind (wpAny_holding ?_))))))
  refine (show wpAny _ _ (Builtin.SmallTypes.nextOf (.ref i2) >>= _) _ _ _ from wpAny_bind (D2.item i ⟨q2, g, d, t2, os⟩ _ _ b2 (D2.over (D2.over a2 c1 S.zf2) c2 S.sep1_2) fun x2 q3 t3 p2 s2 c3 => wpAny_pure (wpAny_pure (wpAny_pure ?_))))
  refine (show wpAny _ _ (newTuple [x1, x2] >>= _) _ _ _ from wpAny_bind (wpAny_newTuple ?_))
  replace c1 : Heap.SameBut z hp q1 := c1
  replace c2 : Heap.SameBut i1 q1 q2 := c2
  replace c3 : Heap.SameBut i2 q2 q3 := c3
  have hsz : q3.objs.size = hp.objs.size := by rw [c3.1, c2.1, c1.1]
  have z3 : IsZipHeld q3 z TI TO T true := c3.extBut _ _ S.zi2 (c2.extBut _ _ S.zi1 z1)
  have hk : ∀ c o, c ≠ z → c ≠ i1 → c ≠ i2 → hp.get? c = some o → q3.get? c = some o := fun c o e1 e2 e3 e => c3.extBut _ _ e3 (c2.extBut _ _ e2 (c1.extBut _ _ e1 e))
  refine wpAny_pure ⟨_, rfl, wpAny_pure ?_⟩
  have hp' : IsPair (q3.push { cls := .type "tuple", data := .seq #[x1, x2] }) q3.objs.size x1 x2 := Heap.get?_push_size _ rfl
  show Q (some (.ref q3.objs.size)) _
  rw [hsz] at hp' ⊢
  exact k x1 x2 _ t3 p1 p2 (Heap.get?_push_of_some _ z3) (D1.frame _ _ _ (D1.over s1 c3 S.sep2_1) fun b _ o e => Heap.get?_push_of_some _ e) (D2.frame _ _ _ s2 fun b _ o e => Heap.get?_push_of_some _ e) hp' fun c o e1 e2 e3 e => Heap.get?_push_of_some _ (hk c o e1 e2 e3 e)
theorem heldEnd {Q : Option Value → Shared → Prop} (S : ZipSep2 z TI TO i1 i2 fp1 fp2) (D1 : Draws prog w A.in1 i1 fp1 n1 P1 St1) (D2 : Draws prog w A.in1 i2 fp2 n2 P2 St2) (hz : IsZipHeld s.heap z TI TO T f) (hT : s.heap.get? T = some oT) (hTI : IsPair s.heap TI (.ref i1) (.ref i2))
    (a1 : St1 i s.heap) (a2 : St2 i s.heap) (b1 : i ≤ n1) (b2 : i ≤ n2) (hend : i = n1 ∨ i = n2)
    (k : ∀ h' tk, (∀ c o, c ≠ z → c ≠ i1 → c ≠ i2 → s.heap.get? c = some o → h'.get? c = some o) → Q none { s with heap := h', toks := tk }) :
    wpAny (model prog w) A (pyNext (.ref z)) Q E s := by
  have ty : s.TypeIs (.ref z) "zip" := ⟨_, hz, rfl⟩
  obtain ⟨hp, g, d, tk0, os⟩ := s
  unfold pyNext
  refine wpAny_bind (wpAny_attempt (wpAny_callSpecial?_slot (name := Str.ofString "__next__") ty F.slot_zip_next (wpAny_call_entry F.slot_zip_next ty F.entry_zip_next ?_ (F.args_zip_next_1 _))))
  refine (show wpAny _ _ (field (.ref z) 2 >>= _) _ _ _ from wpAny_bind (wpAny_field hz rfl (x := .bool false) rfl ?_))
  refine (show wpAny _ _ (field (.ref z) 3 >>= _) _ _ _ from wpAny_bind (wpAny_field hz rfl (x := .ref TI) rfl (wpAny_bind (wpAny_seqItems hTI rfl ?_))))
  refine (show wpAny _ _ (Builtin.SmallTypes.ownedTupleIsFree (.ref z) >>= _) _ _ _ from wpAny_bind (wpAny_tupleHeld_zip hz hT fun q1 z1 c1 => ?_))
  simp only [Bool.false_eq_true, if_false, ← Array.forIn_toList, List.forIn_cons, List.forIn_nil]
  refine wpAny_bind (wpAny_bind (wpAny_bind (wpAny_holding ?_)))
  replace c1 : Heap.SameBut z hp q1 := c1
  have fin : ∀ (q : Heap) (tk : Nat) (e : Addr), (∀ c o, c ≠ z → c ≠ i1 → c ≠ i2 → hp.get? c = some o → q.get? c = some o) → (∃ o, q.get? e = some o ∧ o.cls = .type "StopIteration") →
      wpAny (model prog w) A (do if ← isInstance (.ref e) (.type "StopIteration") then pure none else throw (.ref e)) Q E ⟨q, g, d, tk, os⟩ := fun q tk e hk ⟨o, ho, hc⟩ =>
    wpAny_bind (wpAny_isInstance (T := "StopIteration") (b := true) ⟨o, ho, hc⟩ isSubtype_stop (wpAny_pure (k q tk hk)))
  by_cases h1 : i = n1
  · refine (show wpAny _ _ (Builtin.SmallTypes.nextOf (.ref i1) >>= _) _ _ _ from wpAny_bind (D1.done ⟨q1, g, d, tk0, os⟩ _ _ (by rw [← h1]; exact D1.over a1 c1 S.zf1) fun q2 e c2 he => ?_))
    replace c2 : Heap.ExtBut i1 q1 q2 := c2
    exact fin q2 tk0 e (fun c o e1 e2 _ x => c2 _ _ e2 (c1.extBut _ _ e1 x)) he
  · have h2 : i = n2 := by omega
    refine (show wpAny _ _ (Builtin.SmallTypes.nextOf (.ref i1) >>= _) _ _ _ from wpAny_bind (D1.item i ⟨q1, g, d, tk0, os⟩ _ _ (by omega) (D1.over a1 c1 S.zf1) fun x1 q2 t2 p1 s1 c2 => wpAny_pure (wpAny_pure (wpAny_bind (wpAny_bind (wpAny_holding ?_))))))
    replace c2 : Heap.SameBut i1 q1 q2 := c2
    refine (show wpAny _ _ (Builtin.SmallTypes.nextOf (.ref i2) >>= _) _ _ _ from wpAny_bind (D2.done ⟨q2, g, d, t2, os⟩ _ _ (by rw [← h2]; exact D2.over (D2.over a2 c1 S.zf2) c2 S.sep1_2) fun q3 e c3 he => ?_))
    replace c3 : Heap.ExtBut i2 q2 q3 := c3
    exact fin q3 t2 e (fun c o e1 e2 e3 x => c3 _ _ e3 (c2.extBut _ _ e2 (c1.extBut _ _ e1 x))) he
end
/-- a zip as what dict() takes -/
theorem argX {prog : Program} {w : World} (t u : Bool) (z TI TO i1 i2 l1 l2 : Addr) (D : ZipApart z TI TO i1 i2 l1 l2) (xs ys : Array Value) :
    PairArg prog w "zip" z [z, TI, TO, i1, i2, l1, l2] [z, TO, i1, i2] (min xs.size ys.size) (fun i k v => xs[i]? = some k ∧ ys[i]? = some v) (fun h => ZipSt t u z TI TO i1 i2 l1 l2 0 h ∧ AsX t h l1 xs ∧ AsX u h l2 ys) where
  type := fun s ok => ⟨_, ok.1.z, rfl⟩
  notDict := by decide
  keep := fun h h' ok k => by
    obtain ⟨st, p, q⟩ := ok
    obtain ⟨x, y, hTO⟩ := st.tO
    exact ⟨⟨k _ _ st.z, k _ _ st.ti, ⟨x, y, k _ _ hTO⟩, st.one.keep fun o e => k _ o e, st.two.keep fun o e => k _ o e⟩, p.keep fun o e => k _ o e, q.keep fun o e => k _ o e⟩
  there := fun h ok b hb => by
    obtain ⟨st, p, q⟩ := ok
    have hb' : b ∈ [z, TI, TO, i1, i2] ∨ b = l1 ∨ b = l2 := by
      rcases List.mem_append.mp (show b ∈ [z, TI, TO, i1, i2] ++ [l1, l2] from hb) with e | e
      · exact .inl e
      · exact .inr (by simpa using e)
    rcases hb' with hb | rfl | rfl
    · obtain ⟨o, e, _⟩ := st.at5 hb; exact ⟨o, e⟩
    · exact p.here
    · exact q.here
  sub := fun b hb => by
    simp only [List.mem_cons, List.not_mem_nil, or_false] at hb
    rcases hb with rfl | rfl | rfl | rfl <;> simp
  noKeys := fun A s Q E hA ok q => getAttrOr_miss_zip ok.1.z rfl rfl rfl zip_no_keys (by decide +kernel) hA q
  iter := fun A s d Q E hA ok hd hdf q => by
    obtain ⟨st, p, q2⟩ := ok
    simp only [List.mem_cons, List.not_mem_nil, or_false, not_or] at hdf
    obtain ⟨dz, dTI, dTO, di1, di2, dl1, dl2⟩ := hdf
    have D1 := drawsX (prog := prog) (w := w) (A := A.in1) t hA i1 l1 D.l1i1 xs
    have D2 := drawsX (prog := prog) (w := w) (A := A.in1) u hA i2 l2 D.l2i2 ys
    refine wpAny_pyIter_zip st.z (q z [z, TO, i1, i2] (fun i h => IsPair h TI (.ref i1) (.ref i2) ∧ (ItX t h i1 l1 i ∧ AsX t h l1 xs) ∧ (ItX u h i2 l2 i ∧ AsX u h l2 ys) ∧
      ((IsZip h z TI TO .none ∧ ∃ a b, IsPair h TO a b) ∨ ∃ T f oT, IsZipHeld h z TI TO T f ∧ h.get? T = some oT ∧ T ≠ z ∧ T ≠ i1 ∧ T ≠ i2 ∧ T ≠ d)) s.heap s.toks ?_
      ⟨st.ti, ⟨st.one, p⟩, ⟨st.two, q2⟩, .inl ⟨st.z, st.tO⟩⟩ (fun _ _ e => e) fun b hb => .inl hb)
    refine { off := fun hm => ?_, frame := fun i h1 h2 st k => ?_, item := fun i s1 Q1 E1 hi st hds k => ?_, done := fun s1 Q1 E1 st k => ?_ }
    · simp only [List.mem_cons, List.not_mem_nil, or_false] at hm
      rcases hm with e | e | e | e
      · exact dz e
      · exact dTO e
      · exact di1 e
      · exact di2 e
    · obtain ⟨hTI, ⟨c1, c2⟩, ⟨c3, c4⟩, hz⟩ := st
      refine ⟨k _ _ (Ne.symm dTI) hTI, ⟨c1.keep fun o e => k _ o (Ne.symm di1) e, c2.keep fun o e => k _ o (Ne.symm dl1) e⟩, ⟨c3.keep fun o e => k _ o (Ne.symm di2) e, c4.keep fun o e => k _ o (Ne.symm dl2) e⟩, ?_⟩
      rcases hz with ⟨hz, a, b, hTO⟩ | ⟨T, f, oT, hz, hT, r1, r2, r3, r4⟩
      · exact .inl ⟨k _ _ (Ne.symm dz) hz, a, b, k _ _ (Ne.symm dTO) hTO⟩
      · exact .inr ⟨T, f, oT, k _ _ (Ne.symm dz) hz, k _ _ r4 hT, r1, r2, r3, r4⟩
    · obtain ⟨hTI, c1, c2, hz⟩ := st
      have lt : ∀ {c o}, s1.heap.get? c = some o → s1.heap.objs.size ≠ c := fun e => Nat.ne_of_gt (Heap.lt_size e)
      have n1 : s1.heap.objs.size ≠ i1 := let ⟨_, e, _⟩ := c1.1.here; lt e
      have n2 : s1.heap.objs.size ≠ i2 := let ⟨_, e, _⟩ := c2.1.here; lt e
      have b1 : i < xs.size := by omega
      have b2 : i < ys.size := by omega
      rcases hz with ⟨hz, a, b, hTO⟩ | ⟨T, f, oT, hz, hT, r1, r2, r3, r4⟩
      · refine wpAny_pyNext_zipD2_item (sepX D) D1 D2 hz hTI hTO c1 c2 b1 b2 fun x1 x2 h' tk p1 p2 z' TO' s1' s2' hT hsz hk => ?_
        exact k s1.heap.objs.size _ _ h' tk ⟨p1, p2⟩ (.inl ⟨_, hT, rfl, _, rfl⟩) ⟨hk _ _ D.TIz D.TITO D.TIi1 D.TIi2 hTI, s1', s2', .inr ⟨s1.heap.objs.size, false, _, z', hT, lt hz, n1, n2, Nat.ne_of_gt hds⟩⟩
          fun c o hc e => hk c o (fun x => hc (by simp [x])) (fun x => hc (by simp [x])) (fun x => hc (by simp [x])) (fun x => hc (by simp [x])) e
      · refine heldX (sepX D) D1 D2 hz hT hTI c1 c2 b1 b2 fun x1 x2 h' tk p1 p2 z' s1' s2' hT' hk => ?_
        exact k s1.heap.objs.size _ _ h' tk ⟨p1, p2⟩ (.inl ⟨_, hT', rfl, _, rfl⟩) ⟨hk _ _ D.TIz D.TIi1 D.TIi2 hTI, s1', s2', .inr ⟨T, true, oT, z', hk _ _ r1 r2 r3 hT, r1, r2, r3, r4⟩⟩
          fun c o hc e => hk c o (fun x => hc (by simp [x])) (fun x => hc (by simp [x])) (fun x => hc (by simp [x])) e
    · obtain ⟨hTI, c1, c2, hz⟩ := st
      have e1 : min xs.size ys.size = xs.size ∨ min xs.size ys.size = ys.size := by omega
      rcases hz with ⟨hz, a, b, hTO⟩ | ⟨T, f, oT, hz, hT, r1, r2, r3, r4⟩
      · exact wpAny_pyNext_zipD2_end (sepX D) D1 D2 hz hTI hTO c1 c2 (Nat.min_le_left _ _) (Nat.min_le_right _ _) e1 fun h' tk hk => k h' tk fun c o hc e => hk c o (fun x => hc (by simp [x])) (fun x => hc (by simp [x])) (fun x => hc (by simp [x])) (fun x => hc (by simp [x])) e
      · exact heldEnd (sepX D) D1 D2 hz hT hTI c1 c2 (Nat.min_le_left _ _) (Nat.min_le_right _ _) e1 fun h' tk hk => k h' tk fun c o hc e => hk c o (fun x => hc (by simp [x])) (fun x => hc (by simp [x])) (fun x => hc (by simp [x])) e
/-- the entries that dict(zip(..)) makes -/
def ZipK : List V → List V → List (Key × V) → Prop
  | x :: xs, y :: ys, kvs => ∃ k r, kvs = (k, y) :: r ∧ x = kV k ∧ ZipK xs ys r
  | _, _, kvs => kvs = []
theorem zipK_vals {P : Program} {w : World} : ∀ {xs ys : List V} {kvs : List (Key × V)} {us vs : List Value}, ZipK xs ys kvs → Vals xs us → Vals ys vs →
    ∃ prs : List (Key × Value), KV kvs prs ∧ prs.length = min us.length vs.length ∧ ∀ (i : Nat) key v, us[i]? = some key → vs[i]? = some v → ∃ k, prs[i]? = some (k, v) ∧ (mixKind P w).is k key = true
  | [], _, kvs, us, vs, z, r, q => by
    cases r
    have z : kvs = [] := by unfold ZipK at z; exact z
    subst z
    exact ⟨[], .nil, by simp, fun i key v e => by simp at e⟩
  | _ :: _, [], kvs, us, vs, z, r, q => by
    cases q
    have z : kvs = [] := z
    subst z
    exact ⟨[], .nil, by simp, fun i key v _ e => by simp at e⟩
  | x :: xs, y :: ys, kvs, _, _, ⟨k, r0, e1, e2, z⟩, .cons (b := a) ra rt, .cons (b := b) rb qt => by
    subst e1 e2
    obtain ⟨prs, h1, h2, h3⟩ := zipK_vals (P := P) (w := w) z rt qt
    refine ⟨(k, b) :: prs, .cons ⟨rfl, rb⟩ h1, by simp only [List.length_cons]; omega, fun i key v ea eb => ?_⟩
    cases i with
    | zero =>
      simp only [List.getElem?_cons_zero, Option.some.injEq] at ea eb
      subst ea eb
      exact ⟨k, rfl, kV_is ra⟩
    | succ i => exact h3 i key v (by simpa using ea) (by simpa using eb)
theorem kv_len {kvs : List (Key × V)} {prs : List (Key × Value)} (r : KV kvs prs) : kvs.length = prs.length := KV.length r
def tDictZip (K : PySem.W.Frag) (ta : TA) : TE := fun σ H Q => ta σ H fun vs H1 => ∃ a b xs ys t u kvs, vs = [.ref a, .ref b] ∧ SqX t K H1 a xs ∧ SqX u K H1 b ys ∧ ZipK xs ys kvs ∧ ∀ p, H1 p = none → Q (.ref p) (upd H1 p (.dK (mergeK [] kvs)))
theorem pe_dictZip {X : Cx} {e e2 : Expr} {ta : TA} {p p2 pos pos2 : Pos} (hc : X.calm = true) (hd : Gl X "dict") (hdm : X.mg "dict" = none) (hg : Gl X "zip") (hm : X.mg "zip" = none) (ha : PA X [e, e2] ta)
    (hs : starEach [e, e2] X.env = (false, eval e X.env) :: starEach [e2] X.env) (hpl : ∀ pos, (backTo pos (starEach [e2] X.env)).any (·.1) = false) :
    PE X (.Call (.Name "dict" p) [.Call (.Name "zip" p2) [e, e2] [] pos2] [] pos) (tDictZip X.K ta) := by
  refine ⟨fun pins s σ H Q I h => ?_⟩
  refine Call_ (ld_blt I hd hdm PyProof.Rows.boot_dict (PyProof.Rows.callWith_type1 (PyProof.Rows.args_cons ?_ rfl) rfl rfl))
  refine Call_ (ld_blt I hg hm PyProof.Rows.boot_zip (PyProof.Rows.callWith_type1 (thn (ha.run pos2 pins s σ H _ I h) fun us s1 ⟨vs, H1, I1, r1, q1⟩ => ?_) hs (hpl _)))
  obtain ⟨a, b, xs, ys, t, u, kvs, rfl, qx, qy, zk, q⟩ := q1
  obtain ⟨u1, u2, rfl, r, r'⟩ : ∃ u1 u2, us = [u1, u2] ∧ RelV (.ref a) u1 ∧ RelV (.ref b) u2 := by
    cases r1 with
    | cons r rr => cases rr with
      | cons r' rr => cases rr; exact ⟨_, _, rfl, r, r'⟩
  cases r
  cases r'
  obtain ⟨its, rv, p1, hz1⟩ := sqX_at I1 qx
  obtain ⟨its2, rv2, p2, hz2⟩ := sqX_at I1 qy
  obtain ⟨o1, h1⟩ := p1.here
  obtain ⟨o2, h2⟩ := p2.here
  obtain ⟨prs, k1, k2, k3⟩ := zipK_vals (P := X.prog) (w := X.w) zk rv rv2
  refine callX p1 p2 fun h' hz hTI hTO s1' s2' hk => PyProof.Rows.args_nil ?_
  have I2 : Inv X pins σ H1 { s1 with heap := h' } := I1.kept (t' := s1.toks) hk
  have hn : min its.toArray.size its2.toArray.size ≤ sizeLine := by
    have := rv.length
    simp only [List.size_toArray]; omega
  refine PySem.call_dict_pairs (s := { s1 with heap := h' }) (knd := mixKind X.prog X.w) (kvs := prs) (argX t u _ _ _ _ _ a b (PySem.W.ktu_apart s1.heap.objs.size a b (Heap.lt_size h1) (Heap.lt_size h2)) its.toArray its2.toArray) (I1.ok.hd hc)
    ⟨⟨hz, hTI, ⟨_, _, hTO⟩, s1', s2'⟩, p1.keep fun o e => hk _ o e, p2.keep fun o e => hk _ o e⟩ ⟨by rw [k2]; simp, fun i key v e => k3 i key v (by simpa using e.1) (by simpa using e.2)⟩ hn fun h'' tk hd' hk' => ?_
  have hlen : (mergeK [] kvs).length ≤ sizeLine := by
    have h1 := length_mergeK kvs []
    have h2 := kv_len k1
    have h3 := rv.length
    have h4 : min its.length its2.length ≤ sizeLine := by simpa using hn
    rw [List.length_nil, Nat.zero_add] at h1
    omega
  have hm' : (h'.objs.size == sysModules) = false := beq_eq_false_iff_ne.mpr (Ne.symm (Nat.ne_of_lt I2.big))
  have I3 := Inv.turnedNew (s := { s1 with heap := h' }) (h' := h'') (t' := tk) (T := h'.objs.size) (ob := .dK (mergeK [] kvs)) I2 (ch := [s1.heap.objs.size + 4, s1.heap.objs.size + 2, s1.heap.objs.size + 3, s1.heap.objs.size, s1.heap.objs.size + 1])
    (fun c o hb e => hk' c o (fun z => hb (by
      simp only [List.mem_cons, List.not_mem_nil, or_false] at z
      rcases z with rfl | rfl | rfl | rfl <;> simp)) e) (news5 I1) (Nat.le_refl _) ⟨hlen, hm', merged [] prs, KV.merge k1 .nil, hd'⟩
  exact ⟨.ref h'.objs.size, _, I3, rfl, q _ (I2.hok.fresh (Nat.le_refl _))⟩
end Pv
set_option maxHeartbeats 2000000
/-! Pv, part G: readings by an evaluator's answer; expressions. -/
namespace Pv
open PySem PySem.Spec PyProof.Rows PySem.SeqAt L2

theorem PEimp {X : Cx} {e : Expr} {t t' : TE} (h : PE X e t) (i : ∀ σ H Q, t' σ H Q → t σ H Q) : PE X e t' := ⟨fun pins s σ H Q I q => h.run pins s σ H Q I (i σ H Q q)⟩
theorem PTimp {X : Cx} {e : Expr} {t t' : TT} (h : PT X e t) (i : ∀ σ H Q, t' σ H Q → t σ H Q) : PT X e t' := ⟨fun pins s σ H Q I q => h.run pins s σ H Q I (i σ H Q q)⟩
theorem PWimp {X : Cx} {e : Expr} {t t' : TT} (h : PW X e t) (i : ∀ σ H Q, t' σ H Q → t σ H Q) : PW X e t' := ⟨fun wh pins s σ H Q I q => h.run wh pins s σ H Q I (i σ H Q q)⟩
theorem PAimp {X : Cx} {es : List Expr} {t t' : TA} (h : PA X es t) (i : ∀ σ H Q, t' σ H Q → t σ H Q) : PA X es t' := ⟨fun pos pins s σ H Q I q => h.run pos pins s σ H Q I (i σ H Q q)⟩
theorem PSimp {X : Cx} {e : Stmt} {t t' : TS} (h : PS X e t) (i : ∀ D σ H, t' D σ H → t D σ H) : PS X e t' := ⟨fun pins s σ H D I q => h.run pins s σ H D I (i D σ H q)⟩
theorem PSsimp {X : Cx} {e : List Stmt} {t t' : TS} (h : PSs X e t) (i : ∀ D σ H, t' D σ H → t D σ H) : PSs X e t' := ⟨fun pins s σ H D I q => h.run pins s σ H D I (i D σ H q)⟩
theorem PIimp {X : Cx} {tg e : Expr} {t t' : TI} (h : PI X tg e t) (i : ∀ σ H R, t' σ H R → t σ H R) : PI X tg e t' := ⟨fun pins s σ H R I q => h.run pins s σ H R I (i σ H R q)⟩

/-- how an exception lies -/
def ExcAt (T : Txt) (W : Wd) (H : Hp) (x : Exc) (cls : Value) (d : Option Addr) : Prop :=
  cls = .ref (T.cl x.c) ∧ match x.fs with
    | none => d = none
    | some fs => ∃ e us, d = some e ∧ H e = some (.xd us) ∧ RepF T.K W fs us

/-- what is wanted behind an answer of the evaluator -/
def RQ (T : Txt) (Wx : WX) (σ : L2.St) (W : Wd) (H : Hp) {α : Type} (r : R α) (k : α → Store → Wd → Hp → Prop) : Prop :=
  match r with
  | .ok a st => ∀ W' H', Go W H W' H' → Sim T W' st H' → k a st W' H'
  | .ex x st => ∀ W' H' cls d, Go W H W' H' → Sim T W' st H' → ExcAt T W' H' x cls d → Wx cls d σ H'
  | .stuck => False
section
variable {T : Txt} {Wx : WX} {σ : L2.St} {W W1 : Wd} {H H1 : Hp} {α β : Type}
theorem RQ.later {r : R α} {k : α → Store → Wd → Hp → Prop} (h : RQ T Wx σ W H r k) (g : Go W H W1 H1) : RQ T Wx σ W1 H1 r k := by
  cases r with
  | ok a st => exact fun W' H' g' => h W' H' (g.trans g')
  | ex x st => exact fun W' H' cls d g' => h W' H' cls d (g.trans g')
  | stuck => exact h
theorem RQ.mono {r : R α} {k k' : α → Store → Wd → Hp → Prop} (h : RQ T Wx σ W H r k) (i : ∀ a st W' H', Go W H W' H' → Sim T W' st H' → k a st W' H' → k' a st W' H') : RQ T Wx σ W H r k' := by
  cases r with
  | ok a st => exact fun W' H' g S => i a st W' H' g S (h W' H' g S)
  | ex x st => exact h
  | stuck => exact h
theorem RQ.bind {r : R α} {f : α → Store → R β} {k : β → Store → Wd → Hp → Prop} (h : RQ T Wx σ W H (r.bind f) k) : RQ T Wx σ W H r fun a st W' H' => RQ T Wx σ W' H' (f a st) k := by
  cases r with
  | ok a st => exact fun W' H' g S => RQ.later (show RQ T Wx σ W H (f a st) k from h) g
  | ex x st => exact h
  | stuck => exact h
theorem RQ.here {a : α} {st : Store} {k : α → Store → Wd → Hp → Prop} (h : RQ T Wx σ W H (.ok a st) k) (S : Sim T W st H) : k a st W H := h W H (.refl W H) S
end
@[inline] def lift (o : Option PV) (st : Store) : R PV := match o with
  | some z => .ok z st
  | none => .stuck
@[inline] def liftS (o : Option (PV × Store)) : R PV := match o with
  | some z => .ok z.1 z.2
  | none => .stuck
theorem RQ.lift {T : Txt} {Wx : WX} {σ : L2.St} {W : Wd} {H : Hp} {o : Option PV} {st : Store} {Q : VK} (h : RQ T Wx σ W H (lift o st) fun p st' W' H' => ∀ v, Rep T.K W' p v → Q v H') : ∃ z, o = some z ∧ Post T W st H z Q := by
  cases o with
  | none => exact h.elim
  | some z => exact ⟨z, rfl, h⟩
theorem RQ.liftS {T : Txt} {Wx : WX} {σ : L2.St} {W : Wd} {H : Hp} {o : Option (PV × Store)} {Q : VK} (h : RQ T Wx σ W H (liftS o) fun p st' W' H' => ∀ v, Rep T.K W' p v → Q v H') : ∃ z, o = some z ∧ PostS T W H z Q := by
  cases o with
  | none => exact h.elim
  | some z => exact ⟨z, rfl, h⟩

abbrev FE := Sig → Store → R PV
abbrev FA := Sig → Store → R (List PV)
abbrev FT := Sig → Store → R Bool
def TEv (T : Txt) (Wx : WX) (f : FE) : TE := fun σ H Q => ∃ W sg st, Sim T W st H ∧ SigOk T.K W sg σ ∧ RQ T Wx σ W H (f sg st) fun p st' W' H' => ∀ v, Rep T.K W' p v → Q v H'
def TAv (T : Txt) (Wx : WX) (f : FA) : TA := fun σ H Q => ∃ W sg st, Sim T W st H ∧ SigOk T.K W sg σ ∧ RQ T Wx σ W H (f sg st) fun ps st' W' H' => ∀ vs, Reps T.K W' ps vs → Q vs H'
def TTv (T : Txt) (Wx : WX) (f : FT) : TT := fun σ H Q => ∃ W sg st, Sim T W st H ∧ SigOk T.K W sg σ ∧ RQ T Wx σ W H (f sg st) fun b st' W' H' => Q b H'

section
variable {X : Cx} {T : Txt} {Wx : WX} {a b c e : Expr} {f g h : FE} {pos : Pos}

/-! ### names, constants -/
def fVar (i : Nat) : FE := fun sg st => match sg[i]? with
  | some (some p) => .ok p st
  | _ => .stuck
def fC (p : PV) : FE := fun _ st => .ok p st
theorem de_var {i : Nat} {x : Str} (hK : T.K = X.K) (hN : X.N[i]? = some x) (hv : Vis X.env.scope x) (hd : (x == ("__debug__" : Str)) = false) (hcd : (x == ("__classdict__" : Str)) = false) : PE X (.Name x pos) (TEv T Wx (fVar i)) :=
  PEimp (pe_var hN hv hd hcd) fun σ H Q ⟨W, sg, st, S, so, q⟩ => by
    unfold fVar at q
    cases hi : sg[i]? with
    | none => simp only [hi] at q; exact q.elim
    | some o =>
      cases o with
      | none => simp only [hi] at q; exact q.elim
      | some p =>
        simp only [hi] at q
        obtain ⟨v, hv, r⟩ := so.get i p hi
        exact ⟨v, hv, q.here S v r⟩
/-- a value that lies the same in every world -/
def Fixed (K : PySem.W.Frag) (p : PV) (v : V) : Prop := ∀ W, Rep K W p v
theorem tC_of {p : PV} {v : V} (h : Fixed T.K p v) : ∀ σ H Q, TEv T Wx (fC p) σ H Q → tC v σ H Q := fun σ H Q ⟨W, sg, st, S, so, q⟩ => RQ.here q S v (h W)
theorem de_int {i : Int} {j} : PE X (.Constant (.int i) j pos) (TEv T Wx (fC (.int i))) := PEimp pe_int (tC_of fun _ => rfl)
theorem de_bl {i : Bool} {j} : PE X (.Constant (.bool i) j pos) (TEv T Wx (fC (.bl i))) := PEimp pe_bl (tC_of fun _ => rfl)
theorem de_non {j} : PE X (.Constant .none j pos) (TEv T Wx (fC .non)) := PEimp pe_non (tC_of fun _ => rfl)
theorem de_str {x : Str} {j} (hz : x.cps.toList.length ≤ sizeLine) : PE X (.Constant (.str x) j pos) (TEv T Wx (fC (.str x.cps.toList))) :=
  PEimp pe_str (tC_of fun _ => ⟨by cases x; simp [strV], hz⟩)
theorem de_glob {x : Str} {p : PV} {v : V} {u : Value} (hg : Gl X x) (hm : X.mg x = some u) (r : RelV v u) (hp : Fixed T.K p v) (hd : (x == ("__debug__" : Str)) = false) : PE X (.Name x pos) (TEv T Wx (fC p)) :=
  PEimp (pe_glob hg hm r hd) (tC_of hp)

/-! ### operators -/
def fBin (o : PV → PV → Store → Option PV) (f g : FE) : FE := fun sg st => (f sg st).bind fun p st => (g sg st).bind fun q st => lift (o p q st) st
theorem tOp_of {o : PV → PV → Store → Option PV} : ∀ σ H Q, TEv T Wx (fBin o f g) σ H Q → tOp (rP2 T o) (TEv T Wx f) (TEv T Wx g) σ H Q := fun σ H Q ⟨W, sg, st, S, so, q⟩ => by
  refine ⟨W, sg, st, S, so, (RQ.bind q).mono fun p st1 W1 H1 g1 S1 q1 v rv => ⟨W1, sg, st1, S1, so.up g1.le, (RQ.bind q1).mono fun p2 st2 W2 H2 g2 S2 q2 u ru => ?_⟩⟩
  obtain ⟨z, hz, k⟩ := RQ.lift q2
  exact ⟨W2, st2, p, p2, z, S2, rv.up g2.le, ru, hz, k⟩
theorem de_bin {op : Operator} {o : PV → PV → Store → Option PV} (ho : OpR X (binaryOp op) (rP2 T o)) (ha : PE X a (TEv T Wx f)) (hb : PE X b (TEv T Wx g)) : PE X (.BinOp a op b pos) (TEv T Wx (fBin o f g)) :=
  PEimp (pe_op ho ha hb) tOp_of
theorem de_cmp {op : CmpOp} {o : PV → PV → Store → Option PV} (ho : OpR X (compareOp op) (rP2 T o)) (ha : PE X a (TEv T Wx f)) (hb : PE X b (TEv T Wx g)) (hm : behindInMarks op b = false) : PE X (.Compare a [op] [b] pos) (TEv T Wx (fBin o f g)) :=
  PEimp (pe_cmpR ho ha hb hm) tOp_of
def fUn (o : PV → Store → Option PV) (f : FE) : FE := fun sg st => (f sg st).bind fun p st => lift (o p st) st
theorem de_un {op : UnaryOp} {o : PV → Store → Option PV} (ho : UnR X (unaryOp op) (rP1 T o)) (ha : PE X a (TEv T Wx f)) : PE X (.UnaryOp op a pos) (TEv T Wx (fUn o f)) :=
  PEimp (pe_un ho ha) fun σ H Q ⟨W, sg, st, S, so, q⟩ => ⟨W, sg, st, S, so, (RQ.bind q).mono fun p st1 W1 H1 g1 S1 q1 v rv => by
    obtain ⟨z, hz, k⟩ := RQ.lift q1
    exact ⟨W1, st1, p, z, S1, rv, hz, k⟩⟩
/-- a op1 b op2 c -/
def fChain (o o' : PV → PV → Store → Option PV) (f g h : FE) : FE := fun sg st => (f sg st).bind fun p st => (g sg st).bind fun q st => match o p q st with
  | some (.bl true) => (h sg st).bind fun r st => lift (o' q r st) st
  | some (.bl false) => .ok (.bl false) st
  | _ => .stuck
theorem tChain_of {o o' : PV → PV → Store → Option PV} : ∀ σ H Q, TEv T Wx (fChain o o' f g h) σ H Q → tChain (rP2 T o) (rP2 T o') (TEv T Wx f) (TEv T Wx g) (TEv T Wx h) σ H Q := fun σ H Q ⟨W, sg, st, S, so, q⟩ => by
  refine ⟨W, sg, st, S, so, (RQ.bind q).mono fun p st1 W1 H1 g1 S1 q1 v rv => ⟨W1, sg, st1, S1, so.up g1.le, (RQ.bind q1).mono fun p2 st2 W2 H2 g2 S2 q2 u ru => ?_⟩⟩
  cases ho : o p p2 st2 with
  | none => simp only [ho] at q2; exact q2.elim
  | some z =>
    simp only [ho] at q2
    cases z with
    | bl bb =>
      refine ⟨W2, st2, p, p2, .bl bb, S2, rv.up g2.le, ru, ho, fun W3 H3 g3 S3 w rw' => ?_⟩
      cases rw'
      refine ⟨bb, rfl, ?_⟩
      cases bb with
      | false =>
        rw [if_neg Bool.false_ne_true]
        exact (RQ.later q2 g3).here S3 (.bl false) rfl
      | true =>
        rw [if_pos rfl]
        refine ⟨W3, sg, st2, S3, so.up (g1.le.trans (g2.le.trans g3.le)), (RQ.bind (RQ.later q2 g3)).mono fun p3 st4 W4 H4 g4 S4 q4 u2 ru2 => ?_⟩
        obtain ⟨z, hz, k⟩ := RQ.lift q4
        exact ⟨W4, st4, p2, p3, z, S4, ru.up (g3.le.trans g4.le), ru2, hz, k⟩
    | _ => exact q2.elim
theorem de_chain {op op' : CmpOp} {o o' : PV → PV → Store → Option PV} (ho : OpR X (compareOp op) (rP2 T o)) (ho' : OpR X (compareOp op') (rP2 T o')) (ha : PE X a (TEv T Wx f)) (hb : PE X b (TEv T Wx g)) (hc : PE X c (TEv T Wx h))
    (hm : lastMarks [op, op'] [b, c] = false) : PE X (.Compare a [op, op'] [b, c] pos) (TEv T Wx (fChain o o' f g h)) := PEimp (pe_chain ho ho' ha hb hc hm) tChain_of

/-! ### tests -/
def fTru (f : FE) : FT := fun sg st => (f sg st).bind fun p st => match truP p st with
  | some b => .ok b st
  | none => .stuck
theorem tTru_of (hK : T.K = X.K) : ∀ σ H (Q : Bool → Hp → Prop), TTv T Wx (fTru f) σ H Q → TEv T Wx f σ H fun x H' => ∃ k, TruV X.K x H' k ∧ Q k H' := fun σ H Q ⟨W, sg, st, S, so, q⟩ =>
  ⟨W, sg, st, S, so, (RQ.bind q).mono fun p st1 W1 H1 g1 S1 q1 v rv => by
    cases hb : truP p st1 with
    | none => simp only [hb] at q1; exact q1.elim
    | some bb =>
      simp only [hb] at q1
      exact ⟨bb, hK ▸ truP_at S1 rv hb, RQ.here q1 S1⟩⟩
/-- an expression whose test is its value's truth -/
def plainT : Expr → Bool
  | .UnaryOp .Not _ _ => false
  | .BoolOp _ _ _ => false
  | .IfExp _ _ _ _ => false
  | .Compare _ _ _ _ => false
  | _ => true
theorem isTrue_of {e : Expr} (h : plainT e = true) (env : Env) (whole : Sem Value) : isTrue e env whole = (do let v ← whole; standAt e.pos; holding [v] (truthy v)) := by
  cases e with
  | UnaryOp op x p => cases op <;> first | rfl | cases h
  | BoolOp _ _ _ => cases h
  | IfExp _ _ _ _ => cases h
  | Compare _ _ _ _ => cases h
  | _ => rfl
theorem dt_val (hK : T.K = X.K) (ha : PE X a (TEv T Wx f)) (h : plainT a = true) : PT X a (TTv T Wx (fTru f)) := PTimp (pt_truth ha (isTrue_of h X.env)) (tTru_of hK)
/-- a bool as a test -/
def fBl (f : FE) : FT := fun sg st => (f sg st).bind fun p st => match p with
  | .bl b => .ok b st
  | _ => .stuck
theorem tBl_of : ∀ σ H (Q : Bool → Hp → Prop), TTv T Wx (fBl f) σ H Q → tTest (TEv T Wx f) σ H Q := fun σ H Q ⟨W, sg, st, S, so, q⟩ =>
  ⟨W, sg, st, S, so, (RQ.bind q).mono fun p st1 W1 H1 g1 S1 q1 v rv => by
    cases p with
    | bl bb => cases rv; exact ⟨bb, rfl, RQ.here q1 S1⟩
    | _ => exact q1.elim⟩
theorem tTest_mono {t t' : TE} (i : ∀ σ H Q, t' σ H Q → t σ H Q) : ∀ σ H Q, tTest t' σ H Q → tTest t σ H Q := fun σ H Q q => i σ H _ q
theorem dt_cmp {op : CmpOp} {o : PV → PV → Store → Option PV} (ho : OpR X (compareOp op) (rP2 T o)) (ha : PE X a (TEv T Wx f)) (hb : PE X b (TEv T Wx g)) (hm : behindInMarks op b = false) : PT X (.Compare a [op] [b] pos) (TTv T Wx (fBl (fBin o f g))) :=
  PTimp (pt_cmpR ho ha hb hm) fun σ H Q q => tTest_mono tOp_of σ H Q (tBl_of σ H Q q)
theorem dt_chain {op op' : CmpOp} {o o' : PV → PV → Store → Option PV} (ho : OpR X (compareOp op) (rP2 T o)) (ho' : OpR X (compareOp op') (rP2 T o')) (ha : PE X a (TEv T Wx f)) (hb : PE X b (TEv T Wx g)) (hc : PE X c (TEv T Wx h))
    (hm : lastMarks [op, op'] [b, c] = false) : PT X (.Compare a [op, op'] [b, c] pos) (TTv T Wx (fBl (fChain o o' f g h))) := PTimp (pt_chain ho ho' ha hb hc hm) fun σ H Q q => tTest_mono tChain_of σ H Q (tBl_of σ H Q q)
variable {ft gt ht : FT}
def tfAnd (f g : FT) : FT := fun sg st => (f sg st).bind fun b st => if b then g sg st else .ok false st
def tfOr (f g : FT) : FT := fun sg st => (f sg st).bind fun b st => if b then .ok true st else g sg st
def tfNot (f : FT) : FT := fun sg st => (f sg st).bind fun b st => .ok (!b) st
def tfIte (c f g : FT) : FT := fun sg st => (c sg st).bind fun b st => if b then f sg st else g sg st
theorem tAnd_of : ∀ σ H Q, TTv T Wx (tfAnd ft gt) σ H Q → tAnd (TTv T Wx ft) (TTv T Wx gt) σ H Q := fun σ H Q ⟨W, sg, st, S, so, q⟩ =>
  ⟨W, sg, st, S, so, (RQ.bind q).mono fun bb st1 W1 H1 g1 S1 q1 => by
    cases bb with
    | true => rw [if_pos rfl]; exact ⟨W1, sg, st1, S1, so.up g1.le, q1⟩
    | false => rw [if_neg Bool.false_ne_true]; exact RQ.here q1 S1⟩
theorem tOr_of : ∀ σ H Q, TTv T Wx (tfOr ft gt) σ H Q → tOr (TTv T Wx ft) (TTv T Wx gt) σ H Q := fun σ H Q ⟨W, sg, st, S, so, q⟩ =>
  ⟨W, sg, st, S, so, (RQ.bind q).mono fun bb st1 W1 H1 g1 S1 q1 => by
    cases bb with
    | false => rw [if_neg Bool.false_ne_true]; exact ⟨W1, sg, st1, S1, so.up g1.le, q1⟩
    | true => rw [if_pos rfl]; exact RQ.here q1 S1⟩
theorem tNot_of : ∀ σ H Q, TTv T Wx (tfNot ft) σ H Q → tNot (TTv T Wx ft) σ H Q := fun σ H Q ⟨W, sg, st, S, so, q⟩ =>
  ⟨W, sg, st, S, so, (RQ.bind q).mono fun bb st1 W1 H1 g1 S1 q1 => RQ.here q1 S1⟩
variable {rest : List Expr}
theorem dw_and1 (ha : PT X a (TTv T Wx ft)) : PW X (.BoolOp .And [a] pos) (TTv T Wx ft) := pw_and1 ha
theorem dw_or1 (ha : PT X a (TTv T Wx ft)) : PW X (.BoolOp .Or [a] pos) (TTv T Wx ft) := pw_or1 ha
theorem dw_and (ha : PT X a (TTv T Wx ft)) (hb : PW X (.BoolOp .And (b :: rest) pos) (TTv T Wx gt)) : PW X (.BoolOp .And (a :: b :: rest) pos) (TTv T Wx (tfAnd ft gt)) := PWimp (pw_and ha hb) tAnd_of
theorem dw_or (ha : PT X a (TTv T Wx ft)) (hb : PW X (.BoolOp .Or (b :: rest) pos) (TTv T Wx gt)) : PW X (.BoolOp .Or (a :: b :: rest) pos) (TTv T Wx (tfOr ft gt)) := PWimp (pw_or ha hb) tOr_of
theorem dt_not (ha : PT X a (TTv T Wx ft)) : PT X (.UnaryOp .Not a pos) (TTv T Wx (tfNot ft)) := PTimp (pt_not ha) tNot_of
theorem dt_ite (hc : PT X c (TTv T Wx ht)) (ha : PT X a (TTv T Wx ft)) (hb : PT X b (TTv T Wx gt)) : PT X (.IfExp c a b pos) (TTv T Wx (tfIte ht ft gt)) := by
  refine ⟨fun pins s σ H Q I ⟨W, sg, st, S, so, q⟩ => ?_⟩
  show wpAny _ _ (isTrue c X.env (eval c X.env) >>= fun t => if t = true then isTrue a X.env (eval a X.env) else isTrue b X.env (eval b X.env)) _ _ _
  refine wpAny_bind (thn (hc.run pins s σ H (fun bb H1 => if bb = true then TTv T Wx ft σ H1 Q else TTv T Wx gt σ H1 Q) I ⟨W, sg, st, S, so, (RQ.bind q).mono fun bb st1 W1 H1 g1 S1 q1 => ?_⟩) fun d s1 ⟨H1, I1, q1⟩ => ?_)
  · cases bb with
    | true => rw [if_pos rfl]; exact ⟨W1, sg, st1, S1, so.up g1.le, q1⟩
    | false => rw [if_neg Bool.false_ne_true]; exact ⟨W1, sg, st1, S1, so.up g1.le, q1⟩
  · cases d with
    | true =>
      rw [if_pos rfl] at q1
      rw [if_pos rfl]
      exact ha.run pins s1 σ H1 Q I1 q1
    | false =>
      rw [if_neg Bool.false_ne_true] at q1
      rw [if_neg Bool.false_ne_true]
      exact hb.run pins s1 σ H1 Q I1 q1

/-! ### and, or, not, if as values -/
def fAnd (f g : FE) : FE := fun sg st => (f sg st).bind fun p st => match truP p st with
  | some true => g sg st
  | some false => .ok p st
  | none => .stuck
def fOr (f g : FE) : FE := fun sg st => (f sg st).bind fun p st => match truP p st with
  | some true => .ok p st
  | some false => g sg st
  | none => .stuck
def fNot (f : FE) : FE := fun sg st => (f sg st).bind fun p st => match truP p st with
  | some b => .ok (.bl (!b)) st
  | none => .stuck
def fIte (c : FT) (f g : FE) : FE := fun sg st => (c sg st).bind fun b st => if b then f sg st else g sg st
theorem de_and (hK : T.K = X.K) (ha : PE X a (TEv T Wx f)) (hb : PE X (.BoolOp .And (b :: rest) pos) (TEv T Wx g)) : PE X (.BoolOp .And (a :: b :: rest) pos) (TEv T Wx (fAnd f g)) :=
  PEimp (pe_andT ha hb) fun σ H Q ⟨W, sg, st, S, so, q⟩ => ⟨W, sg, st, S, so, (RQ.bind q).mono fun p st1 W1 H1 g1 S1 q1 v rv => by
    cases hb : truP p st1 with
    | none => simp only [hb] at q1; exact q1.elim
    | some bb =>
      simp only [hb] at q1
      refine ⟨bb, hK ▸ truP_at S1 rv hb, ?_⟩
      cases bb with
      | true => rw [if_pos rfl]; exact ⟨W1, sg, st1, S1, so.up g1.le, q1⟩
      | false => rw [if_neg Bool.false_ne_true]; exact RQ.here q1 S1 v rv⟩
theorem de_or (hK : T.K = X.K) (ha : PE X a (TEv T Wx f)) (hb : PE X (.BoolOp .Or (b :: rest) pos) (TEv T Wx g)) : PE X (.BoolOp .Or (a :: b :: rest) pos) (TEv T Wx (fOr f g)) :=
  PEimp (pe_orT ha hb) fun σ H Q ⟨W, sg, st, S, so, q⟩ => ⟨W, sg, st, S, so, (RQ.bind q).mono fun p st1 W1 H1 g1 S1 q1 v rv => by
    cases hb : truP p st1 with
    | none => simp only [hb] at q1; exact q1.elim
    | some bb =>
      simp only [hb] at q1
      refine ⟨bb, hK ▸ truP_at S1 rv hb, ?_⟩
      cases bb with
      | true => rw [if_pos rfl]; exact RQ.here q1 S1 v rv
      | false => rw [if_neg Bool.false_ne_true]; exact ⟨W1, sg, st1, S1, so.up g1.le, q1⟩⟩
theorem de_one {op} (ha : PE X a (TEv T Wx f)) : PE X (.BoolOp op [a] pos) (TEv T Wx f) := pe_one ha
theorem de_not (hK : T.K = X.K) (ha : PE X a (TEv T Wx f)) : PE X (.UnaryOp .Not a pos) (TEv T Wx (fNot f)) :=
  PEimp (pe_notT ha) fun σ H Q ⟨W, sg, st, S, so, q⟩ => ⟨W, sg, st, S, so, (RQ.bind q).mono fun p st1 W1 H1 g1 S1 q1 v rv => by
    cases hb : truP p st1 with
    | none => simp only [hb] at q1; exact q1.elim
    | some bb =>
      simp only [hb] at q1
      exact ⟨bb, hK ▸ truP_at S1 rv hb, RQ.here q1 S1 _ rfl⟩⟩
theorem de_ite (hc : PT X c (TTv T Wx ht)) (ha : PE X a (TEv T Wx f)) (hb : PE X b (TEv T Wx g)) : PE X (.IfExp c a b pos) (TEv T Wx (fIte ht f g)) :=
  PEimp (pe_ifExp hc ha hb) fun σ H Q ⟨W, sg, st, S, so, q⟩ => ⟨W, sg, st, S, so, (RQ.bind q).mono fun bb st1 W1 H1 g1 S1 q1 => by
    cases bb with
    | true => rw [if_pos rfl]; exact ⟨W1, sg, st1, S1, so.up g1.le, q1⟩
    | false => rw [if_neg Bool.false_ne_true]; exact ⟨W1, sg, st1, S1, so.up g1.le, q1⟩⟩

/-! ### arguments, displays -/
variable {es : List Expr} {fa ga : FA}
def faNil : FA := fun _ st => .ok [] st
def faCons (f : FE) (g : FA) : FA := fun sg st => (f sg st).bind fun p st => (g sg st).bind fun ps st => .ok (p :: ps) st
def notStar : Expr → Bool
  | .Starred _ _ => false
  | _ => true
theorem star_of {e : Expr} {es : List Expr} {env : Env} (h : notStar e = true) : starEach (e :: es) env = (false, eval e env) :: starEach es env := by
  cases e <;> first | rfl | cases h
theorem stars_of {env : Env} {pos : Pos} : ∀ {es : List Expr}, es.all notStar = true → (backTo pos (starEach es env)).any (·.1) = false
  | [], _ => rfl
  | e :: es, h => by
    rw [List.all_cons, Bool.and_eq_true] at h
    rw [star_of h.1]
    show ((false, _) :: backTo pos (starEach es env)).any (·.1) = false
    rw [List.any_cons, stars_of h.2]; rfl
theorem da_nil : PA X [] (TAv T Wx faNil) := PAimp pa_nil fun σ H Q ⟨W, sg, st, S, so, q⟩ => RQ.here q S [] rfl
theorem da_cons (ha : PE X a (TEv T Wx f)) (hr : PA X es (TAv T Wx ga)) (hs : notStar a = true) : PA X (a :: es) (TAv T Wx (faCons f ga)) :=
  PAimp (pa_cons ha hr (star_of hs)) fun σ H Q ⟨W, sg, st, S, so, q⟩ => ⟨W, sg, st, S, so, (RQ.bind q).mono fun p st1 W1 H1 g1 S1 q1 v rv => ⟨W1, sg, st1, S1, so.up g1.le, (RQ.bind q1).mono fun ps st2 W2 H2 g2 S2 q2 vs rvs =>
    RQ.here q2 S2 (v :: vs) ⟨v, vs, rfl, rv.up g2.le, rvs⟩⟩⟩
def fTup (g : FA) : FE := fun sg st => (g sg st).bind fun ps st => if ps.length ≤ sizeLine then .ok (.tup ps) st else .stuck
def fLst (bx : Bool) (g : FA) : FE := fun sg st => (g sg st).bind fun ps st => if ps.length ≤ sizeLine then .ok (newL bx ps st).1 (newL bx ps st).2 else .stuck
theorem de_tup {k} (h : PA X es (TAv T Wx fa)) : PE X (.Tuple es k pos) (TEv T Wx (fTup fa)) :=
  PEimp (pe_tup h) fun σ H Q ⟨W, sg, st, S, so, q⟩ => ⟨W, sg, st, S, so, (RQ.bind q).mono fun ps st1 W1 H1 g1 S1 q1 vs rvs => by
    by_cases hz : ps.length ≤ sizeLine
    · rw [if_pos hz] at q1
      exact ⟨by rw [Reps.length rvs]; exact hz, Post.tup (show Post T W1 st1 H1 (.tup ps) Q from q1) S1 rvs⟩
    · rw [if_neg hz] at q1; exact q1.elim⟩
theorem de_lst (bx : Bool) (h : PA X es (TAv T Wx fa)) : PE X (.List es pos) (TEv T Wx (fLst bx fa)) :=
  PEimp (pe_lst h) fun σ H Q ⟨W, sg, st, S, so, q⟩ => ⟨W, sg, st, S, so, (RQ.bind q).mono fun ps st1 W1 H1 g1 S1 q1 vs rvs => by
    by_cases hz : ps.length ≤ sizeLine
    · rw [if_pos hz] at q1
      exact ⟨by rw [Reps.length rvs]; exact hz, PostS.newL (show PostS T W1 H1 (newL bx ps st1) Q from q1) S1 rvs⟩
    · rw [if_neg hz] at q1; exact q1.elim⟩

/-! ### subscripts, slices -/
def plainIx : Expr → Bool
  | .Slice _ _ none _ => false
  | .Slice _ _ (some _) _ => false
  | _ => true
theorem plainIx_of {b : Expr} (h : plainIx b = true) : PlainIx b := fun o i => by
  cases b with
  | Slice lo hi st p => cases st <;> cases h
  | _ => rfl
theorem de_idx (hK : T.K = X.K) (hu : X.A.units + 1 < cLine) (ha : PE X a (TEv T Wx f)) (hb : PE X b (TEv T Wx g)) (h : plainIx b = true) : PE X (.Subscript a b pos) (TEv T Wx (fBin idxP f g)) :=
  PEimp (pe_ix (ixP hK hu) ha hb (plainIx_of h)) tOp_of
abbrev FO := Sig → Store → R (Option Int)
def foNone : FO := fun _ st => .ok none st
def foSome (f : FE) : FO := fun sg st => (f sg st).bind fun p st => match p with
  | .int i => .ok (some i) st
  | _ => .stuck
def TOv (T : Txt) (Wx : WX) (f : FO) : L2.St → Hp → (Option Int → Hp → Prop) → Prop := fun σ H Q => ∃ W sg st, Sim T W st H ∧ SigOk T.K W sg σ ∧ RQ T Wx σ W H (f sg st) fun o st' W' H' => Q o H'
theorem POimp {e : Option Expr} {t t' : L2.St → Hp → (Option Int → Hp → Prop) → Prop} (h : PO X e t) (i : ∀ σ H Q, t' σ H Q → t σ H Q) : PO X e t' := ⟨fun pins s σ H Q I q => h.run pins s σ H Q I (i σ H Q q)⟩
theorem do_none : PO X none (TOv T Wx foNone) := POimp po_none fun σ H Q ⟨W, sg, st, S, so, q⟩ => RQ.here q S
theorem do_some (ha : PE X a (TEv T Wx f)) : PO X (some a) (TOv T Wx (foSome f)) := POimp (po_some ha) fun σ H Q ⟨W, sg, st, S, so, q⟩ => ⟨W, sg, st, S, so, (RQ.bind q).mono fun p st1 W1 H1 g1 S1 q1 v rv => by
  cases p with
  | int i => cases rv; exact ⟨i, rfl, RQ.here q1 S1⟩
  | _ => exact q1.elim⟩
def fSlc (f : FE) (lo hi : FO) : FE := fun sg st => (f sg st).bind fun p st => (lo sg st).bind fun l st => (hi sg st).bind fun h st => lift (slcP p l h st) st
variable {lo hi : Option Expr} {fl fh : FO} {p2 : Pos}
theorem de_slc (hK : T.K = X.K) (ha : PE X a (TEv T Wx f)) (hl : PO X lo (TOv T Wx fl)) (hh : PO X hi (TOv T Wx fh)) : PE X (.Subscript a (.Slice lo hi none p2) pos) (TEv T Wx (fSlc f fl fh)) :=
  PEimp (pe_slice (slP hK) ha hl hh) fun σ H Q ⟨W, sg, st, S, so, q⟩ => ⟨W, sg, st, S, so, (RQ.bind q).mono fun p st1 W1 H1 g1 S1 q1 v rv => ⟨W1, sg, st1, S1, so.up g1.le, (RQ.bind q1).mono fun l st2 W2 H2 g2 S2 q2 =>
    ⟨W2, sg, st2, S2, so.up (g1.le.trans g2.le), (RQ.bind q2).mono fun h st3 W3 H3 g3 S3 q3 => by
      obtain ⟨z, hz, k⟩ := RQ.lift q3
      exact ⟨W3, st3, p, z, S3, rv.up (g2.le.trans g3.le), hz, k⟩⟩⟩⟩
end
end Pv
/-! Pv, part H: targets, what is walked, comprehensions. -/
namespace Pv
open PySem PySem.Spec PyProof.Rows PySem.SeqAt L2

/-! ### freezing -/
def frzP (p : PV) (st : Store) : R PV := match p with
  | .ref n => match st[n]? with
    | some (.lst xs) => .ok (.lst xs) (st.set n .dead)
    | some (.dic ks vs) => .ok (.dic ks vs) (st.set n .dead)
    | _ => .ok p st
  | _ => .ok p st
def fFrz (f : FE) : FE := fun sg st => (f sg st).bind fun p st => frzP p st
section
variable {T : Txt} {Wx : WX}
theorem frzP_at {W : Wd} {st : Store} {H : Hp} (S : Sim T W st H) {p : PV} {v : V} (r : Rep T.K W p v) {σ : L2.St} {k : PV → Store → Wd → Hp → Prop} (q : RQ T Wx σ W H (frzP p st) k) :
    ∃ p' st' W', frzP p st = .ok p' st' ∧ Go W H W' H ∧ Sim T W' st' H ∧ Rep T.K W' p' v ∧ k p' st' W' H := by
  have same : frzP p st = .ok p st → _ := fun e => (⟨p, st, W, e, .refl W H, S, r, by rw [e] at q; exact RQ.here q S⟩ : ∃ p' st' W', frzP p st = .ok p' st' ∧ Go W H W' H ∧ Sim T W' st' H ∧ Rep T.K W' p' v ∧ k p' st' W' H)
  cases p with
  | ref n =>
    cases hc : st[n]? with
    | none => exact same (by simp only [frzP, hc])
    | some c =>
      cases c with
      | lst xs =>
        obtain ⟨a, e, rfl⟩ := r
        obtain ⟨vs, f, rs⟩ := S.cell n a _ e hc
        obtain ⟨g, S'⟩ := S.froze e hc rfl f
        have ef : frzP (.ref n) st = .ok (.lst xs) (st.set n .dead) := by simp only [frzP, hc]
        rw [ef] at q
        exact ⟨_, _, _, ef, g, S', ⟨a, vs, rfl, upd_same, rs.up g.le⟩, q _ _ g S'⟩
      | dic ks us =>
        obtain ⟨a, e, rfl⟩ := r
        obtain ⟨kvs, f, rk, rs⟩ := S.cell n a _ e hc
        obtain ⟨g, S'⟩ := S.froze e hc rfl f
        have ef : frzP (.ref n) st = .ok (.dic ks us) (st.set n .dead) := by simp only [frzP, hc]
        rw [ef] at q
        exact ⟨_, _, _, ef, g, S', ⟨a, kvs, rfl, upd_same, rk, rs.up g.le⟩, q _ _ g S'⟩
      | _ => exact same (by simp only [frzP, hc])
  | _ => exact same rfl
theorem tFrz_of {f : FE} : ∀ σ H Q, TEv T Wx (fFrz f) σ H Q → TEv T Wx f σ H Q := fun σ H Q ⟨W, sg, st, S, so, q⟩ =>
  ⟨W, sg, st, S, so, (RQ.bind q).mono fun p st1 W1 H1 g1 S1 q1 v rv => by
    obtain ⟨p', st', W', e, g, S', r', k⟩ := frzP_at S1 rv q1
    exact k v r'⟩
theorem de_frz {X : Cx} {e : Expr} {f : FE} (h : PE X e (TEv T Wx f)) : PE X e (TEv T Wx (fFrz f)) := PEimp h tFrz_of
end

/-! ### targets -/
abbrev FG := PV → Sig → Store → R Sig
/-- outside ws nothing is changed -/
def Out (ws : List Nat) (σ σ' : L2.St) : Prop := σ'.length = σ.length ∧ ∀ i, i ∉ ws → σ'[i]? = σ[i]?
theorem Out.refl (ws : List Nat) (σ : L2.St) : Out ws σ σ := ⟨rfl, fun _ _ => rfl⟩
theorem Out.trans {ws : List Nat} {σ σ' σ'' : L2.St} (a : Out ws σ σ') (b : Out ws σ' σ'') : Out ws σ σ'' := ⟨b.1.trans a.1, fun i h => (b.2 i h).trans (a.2 i h)⟩
theorem Out.set {ws : List Nat} {σ : L2.St} {i : Nat} {v : Option V} (h : i ∈ ws) : Out ws σ (σ.set i v) := ⟨by simp, fun j hj => by rw [List.getElem?_set_ne]; rintro rfl; exact hj h⟩
theorem Out.up {ws vs : List Nat} {σ σ' : L2.St} (a : Out ws σ σ') (h : ∀ i ∈ ws, i ∈ vs) : Out vs σ σ' := ⟨a.1, fun i hi => a.2 i fun z => hi (h i z)⟩
theorem wipe_get (σ : L2.St) : ∀ (vs : List Nat) (i : Nat), (wipe σ vs)[i]? = if i ∈ vs ∧ i < σ.length then some none else σ[i]?
  | [], i => by simp [wipe]
  | v :: vs, i => by
    unfold wipe
    have ih := wipe_get σ vs i
    by_cases h : v = i
    · subst h
      by_cases hl : v < σ.length
      · rw [List.getElem?_set_self (by rw [wipe_length]; exact hl), if_pos ⟨by simp, hl⟩]
      · rw [List.getElem?_eq_none (by rw [List.length_set, wipe_length]; omega), if_neg (fun z => hl z.2), List.getElem?_eq_none (by omega)]
    · rw [List.getElem?_set_ne h, ih]
      have : (i ∈ v :: vs) ↔ i ∈ vs := by simp [Ne.symm h]
      simp only [this]
theorem Out.wipe {ws : List Nat} {σ σ' : L2.St} (h : Out ws σ σ') : L2.wipe σ' ws = L2.wipe σ ws := by
  apply List.ext_getElem?
  intro i
  rw [wipe_get, wipe_get, h.1]
  by_cases z : i ∈ ws ∧ i < σ.length
  · rw [if_pos z, if_pos z]
  · rw [if_neg z, if_neg z]
    by_cases hi : i ∈ ws
    · have : ¬ i < σ.length := fun q => z ⟨hi, q⟩
      rw [List.getElem?_eq_none (by rw [h.1]; omega), List.getElem?_eq_none (by omega)]
    · exact h.2 i hi
theorem wipe_wipe (σ : L2.St) (ws : List Nat) : wipe (wipe σ ws) ws = wipe σ ws := Out.wipe ⟨wipe_length σ ws, fun i hi => by rw [wipe_get, if_neg fun z => hi z.1]⟩
def wipeS (sg : Sig) : List Nat → Sig
  | [] => sg
  | v :: vs => (wipeS sg vs).set v none
theorem SigOk.wipe {K : PySem.W.Frag} {W : Wd} {sg : Sig} {σ : L2.St} (h : SigOk K W sg σ) : ∀ vs : List Nat, SigOk K W (wipeS sg vs) (L2.wipe σ vs)
  | [] => h
  | v :: vs => (SigOk.wipe h vs).drop v none

def TGv (T : Txt) (Wx : WX) (ws : List Nat) (g : FG) : TG := fun v σ H Q => ∃ W sg st p, Sim T W st H ∧ SigOk T.K W sg σ ∧ Rep T.K W p v ∧ RQ T Wx σ W H (g p sg st) fun sg' st' W' H' => ∀ σ', SigOk T.K W' sg' σ' → Out ws σ σ' → Q σ' H'
def TGsv (T : Txt) (Wx : WX) (ws : List Nat) (g : List PV → Sig → Store → R Sig) : TGs := fun vs σ H Q => ∃ W sg st ps, Sim T W st H ∧ SigOk T.K W sg σ ∧ Reps T.K W ps vs ∧ RQ T Wx σ W H (g ps sg st) fun sg' st' W' H' => ∀ σ', SigOk T.K W' sg' σ' → Out ws σ σ' → Q σ' H'
theorem PGimp {X : Cx} {e : Expr} {t t' : TG} (h : PG X e t) (i : ∀ v σ H Q, t' v σ H Q → t v σ H Q) : PG X e t' := ⟨fun pins s σ H v u Q I r q => h.run pins s σ H v u Q I r (i v σ H Q q)⟩
theorem PGsimp {X : Cx} {e : List Expr} {t t' : TGs} (h : PGs X e t) (i : ∀ v σ H Q, t' v σ H Q → t v σ H Q) : PGs X e t' := ⟨fun pins s σ H v u Q I r q => h.run pins s σ H v u Q I r (i v σ H Q q)⟩
section
variable {X : Cx} {T : Txt} {Wx : WX} {pos : Pos} {ws vs : List Nat}
def gtName (i : Nat) : FG := fun p sg st => .ok (sg.set i (some p)) st
theorem dg_name {i : Nat} {x : Str} (hN : X.N.Nodup) (hi : X.N[i]? = some x) (hx : Loc X.env.scope x) (hf : X.fn x = true ∨ X.env.scope.names.lookup x = some .local) : PG X (.Name x pos) (TGv T Wx [i] (gtName i)) :=
  PGimp (pg_name hN hi hx hf) fun v σ H Q ⟨W, sg, st, p, S, so, r, q⟩ => RQ.here q S _ (so.put i r) (Out.set (by simp))
def gsNil : List PV → Sig → Store → R Sig := fun ps sg st => match ps with
  | [] => .ok sg st
  | _ => .stuck
def gsCons (g : FG) (gs : List PV → Sig → Store → R Sig) : List PV → Sig → Store → R Sig := fun ps sg st => match ps with
  | p :: ps => (g p sg st).bind fun sg st => gs ps sg st
  | [] => .stuck
theorem dgs_nil : PGs X [] (TGsv T Wx [] gsNil) := PGsimp pgs_nil fun vs σ H Q ⟨W, sg, st, ps, S, so, r, q⟩ => by
  cases ps with
  | nil => cases r; exact ⟨rfl, RQ.here q S _ so (.refl _ _)⟩
  | cons _ _ => exact q.elim
theorem assign_of {e : Expr} {es : List Expr} {env : Env} (h : notStar e = true) : assignEach (e :: es) env = (false, assign e env) :: assignEach es env := by
  cases e <;> first | rfl | cases h
/-- a wish about exceptions that does not look at the slots -/
def Blind (Wx : WX) : Prop := ∀ cls d σ σ' H, Wx cls d σ H → Wx cls d σ' H
theorem dgs_cons {e : Expr} {es : List Expr} {g : FG} {gs : List PV → Sig → Store → R Sig} (h1 : PG X e (TGv T Wx ws g)) (h2 : PGs X es (TGsv T Wx vs gs)) (hs : notStar e = true) (hg : ∀ p sg st x st', gs p sg st ≠ .ex x st') : PGs X (e :: es) (TGsv T Wx (ws ++ vs) (gsCons g gs)) :=
  PGsimp (pgs_cons h1 h2 (by rw [assign_of hs]; rfl)) fun us σ H Q ⟨W, sg, st, ps, S, so, r, q⟩ => by
    cases ps with
    | nil => exact q.elim
    | cons p ps =>
      obtain ⟨v, r', rfl, rv, rr⟩ := r
      refine ⟨v, r', rfl, W, sg, st, p, S, so, rv, (RQ.bind q).mono fun sg1 st1 W1 H1 g1 S1 q1 σ1 so1 o1 => ⟨W1, sg1, st1, ps, S1, so1, rr.up g1.le, ?_⟩⟩
      cases hr : gs ps sg1 st1 with
      | ok a st2 =>
        rw [hr] at q1
        exact fun W' H' g' S' σ' so' o' => q1 W' H' g' S' σ' so' ((o1.up fun i h => List.mem_append_left _ h).trans (o'.up fun i h => List.mem_append_right _ h))
      | ex x st2 => exact (hg _ _ _ _ _ hr).elim
      | stuck => rw [hr] at q1; exact q1.elim
def gtTup (n : Nat) (gs : List PV → Sig → Store → R Sig) : FG := fun p sg st => match p with
  | .tup xs => if xs.length = n then gs xs sg st else .stuck
  | _ => .stuck
theorem starIdx_of {env : Env} : ∀ {es : List Expr}, es.all notStar = true → (assignEach es env).length = es.length ∧ (assignEach es env).findIdx? (·.1) = none
  | [], _ => ⟨rfl, rfl⟩
  | e :: es, h => by
    rw [List.all_cons, Bool.and_eq_true] at h
    obtain ⟨h1, h2⟩ := starIdx_of (env := env) h.2
    rw [assign_of h.1]
    refine ⟨by simp [h1], ?_⟩
    rw [List.findIdx?_cons, h2]
    rfl
theorem dg_tup {es : List Expr} {k : Nat} {gs : List PV → Sig → Store → R Sig} (hK : T.K = X.K) (hc : X.calm = true) (h : PGs X es (TGsv T Wx ws gs)) (hs : es.all notStar = true) : PG X (.Tuple es k pos) (TGv T Wx ws (gtTup es.length gs)) :=
  PGimp (pg_tup hc h (starIdx_of hs).1 (starIdx_of hs).2) fun v σ H Q ⟨W, sg, st, p, S, so, r, q⟩ => by
    cases p with
    | tup xs =>
      obtain ⟨a, us, rfl, f, rs⟩ := r
      have q : RQ T Wx σ W H (if xs.length = es.length then gs xs sg st else R.stuck) _ := q
      by_cases hn : xs.length = es.length
      · rw [if_pos hn] at q
        exact ⟨a, us, rfl, hK ▸ SqT.up f S.sub, by rw [Reps.length rs, hn], W, sg, st, xs, S, so, rs, q⟩
      · rw [if_neg hn] at q; exact q.elim
    | _ => exact q.elim
end

/-! ### what is walked -/
def Walks (T : Txt) (W : Wd) (J : It) (items : List PV) : Prop := ∀ W1 st1 H1 (i : Nat), W.Le W1 → Sim T W1 st1 H1 →
  (∀ p, items[i]? = some p → J.go i H1 ∧ ∀ x H2, J.yld i H1 x H2 → ∃ W2, Go W1 H1 W2 H2 ∧ Sim T W2 st1 H2 ∧ Rep T.K W2 p x) ∧ (i = items.length → J.stop i H1)
def TIv (T : Txt) (Wx : WX) (f : FA) : TI := fun σ H R => ∃ W sg st, Sim T W st H ∧ SigOk T.K W sg σ ∧ RQ T Wx σ W H (f sg st) fun items st' W' H' => ∀ J, Walks T W' J items → R J H'
theorem PIor {X : Cx} {tg e : Expr} {t t' : TI} (h : PI X tg e t) (h' : PI X tg e t') : PI X tg e (fun σ H R => t σ H R ∨ t' σ H R) := ⟨fun pins s σ H R I q => q.elim (h.run pins s σ H R I) (h'.run pins s σ H R I)⟩
section
variable {X : Cx} {T : Txt} {Wx : WX} {W : Wd} {a : Addr} {ps : List PV} {vs : List V}
theorem walks_list (h : SqL T.K W.F a vs) (r : Reps T.K W ps vs) : Walks T W (Itl T.K a) ps := fun W1 st1 H1 i l S => by
  have h1 : SqL T.K H1 a vs := SqL.up h fun b o e => S.sub _ _ (l.F b o e)
  have r1 := r.up l
  refine ⟨fun p hp => ?_, fun hi0 => have hi := Nat.le_of_eq (Eq.symm hi0); ⟨vs, h1, by rw [Reps.length r1]; exact hi⟩⟩
  obtain ⟨v, hv, rv⟩ := r1.get hp
  refine ⟨⟨vs, v, h1, hv⟩, fun x H2 y => ?_⟩
  obtain ⟨rfl, y⟩ := y
  have := y vs h1
  rw [hv] at this; cases this
  exact ⟨W1, .refl _ _, S, rv⟩
theorem walks_tuple (h : SqT T.K W.F a vs) (r : Reps T.K W ps vs) : Walks T W (Itt T.K a) ps := fun W1 st1 H1 i l S => by
  have h1 : SqT T.K H1 a vs := SqT.up h fun b o e => S.sub _ _ (l.F b o e)
  have r1 := r.up l
  refine ⟨fun p hp => ?_, fun hi0 => have hi := Nat.le_of_eq (Eq.symm hi0); ⟨vs, h1, by rw [Reps.length r1]; exact hi⟩⟩
  obtain ⟨v, hv, rv⟩ := r1.get hp
  refine ⟨⟨vs, v, h1, hv⟩, fun x H2 y => ?_⟩
  obtain ⟨rfl, y⟩ := y
  have := y vs h1
  rw [hv] at this; cases this
  exact ⟨W1, .refl _ _, S, rv⟩
def rngL (lo : Int) (n : Nat) : List PV := (List.range n).map fun (i : Nat) => PV.int (lo + i)
theorem rngL_get (lo : Int) (n i : Nat) : (rngL lo n)[i]? = if i < n then some (.int (lo + i)) else none := by
  unfold rngL
  rw [List.getElem?_map]
  by_cases h : i < n
  · rw [List.getElem?_range h, if_pos h]; rfl
  · rw [List.getElem?_eq_none (by simpa using h), if_neg h]; rfl
theorem walks_rng (lo : Int) (n : Nat) : Walks T W (Itr lo n) (rngL lo n) := fun W1 st1 H1 i l S => by
  refine ⟨fun p hp => ?_, fun hi0 => have hi := Nat.le_of_eq (Eq.symm hi0); by show n ≤ i; unfold rngL at hi; simpa using hi⟩
  rw [rngL_get] at hp
  by_cases h : i < n
  · rw [if_pos h] at hp
    cases hp
    refine ⟨h, fun x H2 y => ?_⟩
    obtain ⟨rfl, rfl⟩ := y
    exact ⟨W1, .refl _ _, S, rfl⟩
  · rw [if_neg h] at hp; cases hp
def chrs (a : List Nat) : List PV := a.map fun c => PV.str [c]
theorem walks_str (a : List Nat) : Walks T W (Its ⟨a.toArray⟩) (chrs a) := fun W1 st1 H1 i l S => by
  have hl : (chrs a).length = a.length := by simp [chrs]
  refine ⟨fun p hp => ?_, fun hi0 => have hi := Nat.le_of_eq (Eq.symm hi0); ?_⟩
  · unfold chrs at hp
    rw [List.getElem?_map] at hp
    obtain ⟨c, hc, rfl⟩ := Option.map_eq_some_iff.mp hp
    have hi : i < a.length := (List.getElem?_eq_some_iff.mp hc).1
    refine ⟨?_, fun x H2 y => ?_⟩
    · first
        | (show i < (⟨a.toArray⟩ : Str).length; rw [str_len]; exact hi)
        | (simp [Its]; exact hi)
    · obtain ⟨rfl, y⟩ := y
      refine ⟨W1, .refl _ _, S, ?_, by rw [sizeLine_eq, List.length_singleton]; decide⟩
      first
        | (obtain ⟨c', e1, e2⟩ := y; simp [hc] at e1; subst e1; simpa [strV] using e2)
        | (simp [hc] at y; simpa [strV] using y)
  · first
      | (show (⟨a.toArray⟩ : Str).length ≤ i; rw [str_len]; rw [hl] at hi; exact hi)
      | (simp [Its]; omega)
end

/-! ### iterables -/
/-- a value that is walked: a list (frozen by it), a tuple, a text -/
def iterV (p : PV) (st : Store) : R (List PV) := match p with
  | .str a => .ok (chrs a) st
  | .tup xs => .ok xs st
  | .lst xs => .ok xs st
  | .scr xs => .ok xs st
  | _ => .stuck
def fiVal (f : FE) : FA := fun sg st => (f sg st).bind fun p st => (frzP p st).bind fun p st => iterV p st
def rngV (ps : List PV) (st : Store) : R (List PV) := match ps with
  | [.int j] => if -(2 ^ 62) ≤ j ∧ j < 2 ^ 62 then .ok (rngL 0 j.toNat) st else .stuck
  | [.int i, .int j] => if -(2 ^ 62) ≤ i ∧ i < 2 ^ 62 ∧ -(2 ^ 62) ≤ j ∧ j < 2 ^ 62 then .ok (rngL i (j - i).toNat) st else .stuck
  | _ => .stuck
def fiRng (f : FA) : FA := fun sg st => (f sg st).bind fun ps st => rngV ps st
section
variable {X : Cx} {T : Txt} {Wx : WX} {tg e a b : Expr} {f g : FE} {pos p : Pos}
theorem di_val (hK : T.K = X.K) (h : PE X e (TEv T Wx f)) : PI X tg e (TIv T Wx (fiVal f)) := by
  refine PIimp (PIor (pi_list h) (PIor (pi_tup h) (pi_str h))) fun σ H R ⟨W, sg, st, S, so, q⟩ => ?_
  have q := RQ.bind q
  cases hf : f sg st with
  | stuck => rw [hf] at q; exact q.elim
  | ex x st' => rw [hf] at q; exact .inl ⟨W, sg, st, S, so, by rw [hf]; exact q⟩
  | ok p st1 =>
    rw [hf] at q
    have mk : ∀ {k : VK}, (∀ W1 H1, Go W H W1 H1 → Sim T W1 st1 H1 → ∀ v, Rep T.K W1 p v → k v H1) → TEv T Wx f σ H k := fun hk => ⟨W, sg, st, S, so, by rw [hf]; exact fun W1 H1 g S1 v rv => hk W1 H1 g S1 v rv⟩
    cases p with
    | str c =>
      refine .inr (.inr (mk fun W1 H1 g1 S1 v rv => ?_))
      obtain ⟨rfl, hz⟩ := rv
      have z : RQ T Wx σ W1 H1 (.ok (chrs c) st1) fun items st' W' H' => ∀ J, Walks T W' J items → R J H' := q W1 H1 g1 S1
      exact ⟨_, rfl, RQ.here z S1 _ (walks_str c)⟩
    | tup xs =>
      refine .inr (.inl (mk fun W1 H1 g1 S1 v rv => ?_))
      obtain ⟨l, vs, rfl, h1, rs⟩ := rv
      have z : RQ T Wx σ W1 H1 (.ok xs st1) fun items st' W' H' => ∀ J, Walks T W' J items → R J H' := q W1 H1 g1 S1
      exact ⟨l, rfl, ⟨vs, hK ▸ SqT.up h1 S1.sub⟩, hK ▸ RQ.here z S1 _ (walks_tuple h1 rs)⟩
    | lst xs =>
      refine .inl (mk fun W1 H1 g1 S1 v rv => ?_)
      obtain ⟨l, vs, rfl, h1, rs⟩ := rv
      have z : RQ T Wx σ W1 H1 (.ok xs st1) fun items st' W' H' => ∀ J, Walks T W' J items → R J H' := q W1 H1 g1 S1
      exact ⟨l, rfl, ⟨vs, SqL.of (S1.sub _ _ h1)⟩, hK ▸ RQ.here z S1 _ (walks_list (SqL.of h1) rs)⟩
    | scr xs =>
      refine .inl (mk fun W1 H1 g1 S1 v rv => ?_)
      obtain ⟨l, vs, rfl, h1, rs⟩ := rv
      have z : RQ T Wx σ W1 H1 (.ok xs st1) fun items st' W' H' => ∀ J, Walks T W' J items → R J H' := q W1 H1 g1 S1
      exact ⟨l, rfl, ⟨vs, hK ▸ SqL.up h1 S1.sub⟩, hK ▸ RQ.here z S1 _ (walks_list h1 rs)⟩
    | ref n =>
      refine .inl (mk fun W1 H1 g1 S1 v rv => ?_)
      obtain ⟨p', st', W', e, g2, S2, r2, k⟩ := frzP_at S1 rv (RQ.bind (q W1 H1 g1 S1))
      cases hc : st1[n]? with
      | none => simp only [frzP, hc] at e; cases e; exact k.elim
      | some c =>
        cases c with
        | lst xs =>
          simp only [frzP, hc] at e
          cases e
          obtain ⟨l, vs, rfl, h1, rs⟩ := r2
          exact ⟨l, rfl, ⟨vs, SqL.of (S2.sub _ _ h1)⟩, hK ▸ RQ.here k S2 _ (walks_list (SqL.of h1) rs)⟩
        | dic ks us => simp only [frzP, hc] at e; cases e; exact k.elim
        | _ => simp only [frzP, hc] at e; cases e; exact k.elim
    | _ => exact .inl (mk fun W1 H1 g1 S1 v rv => (show False from q W1 H1 g1 S1).elim)
def fiRng1 (f : FE) : FA := fun sg st => (f sg st).bind fun p st => rngV [p] st
def fiRng2 (f g : FE) : FA := fun sg st => (f sg st).bind fun p st => (g sg st).bind fun q st => rngV [p, q] st
theorem di_rng1 (hg : Gl X "range") (hm : X.mg "range" = none) (ha : PE X a (TEv T Wx f)) (hs : notStar a = true) : PI X tg (.Call (.Name "range" p) [a] [] pos) (TIv T Wx (fiRng1 f)) :=
  PIimp (pi_range1 hg hm (pa_cons ha pa_nil (star_of hs)) (star_of hs)) fun σ H R ⟨W, sg, st, S, so, q⟩ => ⟨W, sg, st, S, so, (RQ.bind q).mono fun p st1 W1 H1 g1 S1 q1 v rv => by
    cases p with
    | int j =>
      cases rv
      have z : RQ T Wx σ W1 H1 (if -(2 ^ 62) ≤ j ∧ j < 2 ^ 62 then .ok (rngL 0 j.toNat) st1 else .stuck) fun items st' W' H' => ∀ J, Walks T W' J items → R J H' := q1
      by_cases hj : -(2 ^ 62) ≤ j ∧ j < 2 ^ 62
      · rw [if_pos hj] at z
        exact ⟨j, rfl, hj.1, hj.2, RQ.here z S1 _ (walks_rng 0 _)⟩
      · rw [if_neg hj] at z; exact z.elim
    | _ => exact q1.elim⟩
theorem di_rng2 (hg : Gl X "range") (hm : X.mg "range" = none) (ha : PE X a (TEv T Wx f)) (hb : PE X b (TEv T Wx g)) (hs : notStar a = true) (hs' : notStar b = true) : PI X tg (.Call (.Name "range" p) [a, b] [] pos) (TIv T Wx (fiRng2 f g)) :=
  PIimp (pi_range2 hg hm (pa_cons ha (pa_cons hb pa_nil (star_of hs')) (star_of hs)) ((star_of hs).trans (by rw [star_of hs']; rfl)) (star_of hs')) fun σ H R ⟨W, sg, st, S, so, q⟩ => ⟨W, sg, st, S, so, (RQ.bind q).mono fun p st1 W1 H1 g1 S1 q1 v rv => ⟨W1, sg, st1, S1, so.up g1.le, (RQ.bind q1).mono fun p2 st2 W2 H2 g2 S2 q2 u ru => by
    cases p with
    | int i =>
      cases p2 with
      | int j =>
        cases rv; cases ru
        have z : RQ T Wx σ W2 H2 (if -(2 ^ 62) ≤ i ∧ i < 2 ^ 62 ∧ -(2 ^ 62) ≤ j ∧ j < 2 ^ 62 then .ok (rngL i (j - i).toNat) st2 else .stuck) fun items st' W' H' => ∀ J, Walks T W' J items → R J H' := q2
        by_cases hj : -(2 ^ 62) ≤ i ∧ i < 2 ^ 62 ∧ -(2 ^ 62) ≤ j ∧ j < 2 ^ 62
        · rw [if_pos hj] at z
          exact ⟨i, j, rfl, hj, RQ.here z S2 _ (walks_rng i _)⟩
        · rw [if_neg hj] at z; exact z.elim
      | _ => exact q2.elim
    | _ => exact q2.elim⟩⟩
/-- for i, x in enumerate(xs) -/
def enumL : Nat → List PV → List PV
  | _, [] => []
  | i, p :: ps => .tup [.int i, p] :: enumL (i + 1) ps
theorem enumL_get : ∀ (ps : List PV) (k i : Nat), (enumL k ps)[i]? = ps[i]?.map fun p => .tup [.int ((k + i : Nat) : Int), p]
  | [], _, _ => by simp [enumL]
  | p :: ps, k, 0 => by simp [enumL]
  | p :: ps, k, i + 1 => by
    show (enumL (k + 1) ps)[i]? = _
    rw [enumL_get ps (k + 1) i]
    have : k + 1 + i = k + (i + 1) := by omega
    rw [this]; rfl
theorem enumL_length : ∀ (ps : List PV) (k : Nat), (enumL k ps).length = ps.length
  | [], _ => rfl
  | _ :: ps, k => by simp [enumL, enumL_length ps]
theorem two_line : ([V.non, V.non] : List V).length ≤ sizeLine := by show 2 ≤ sizeLine; rw [sizeLine_eq]; decide
theorem walks_enum {W : Wd} {a : Addr} {vs : List V} {ps : List PV} (h : SqL T.K W.F a vs) (r : Reps T.K W ps vs) : Walks T W (Ite T.K a) (enumL 0 ps) := fun W1 st1 H1 i l S => by
  have h1 : SqL T.K H1 a vs := SqL.up h fun b o e => S.sub _ _ (l.F b o e)
  have r1 := r.up l
  refine ⟨fun p hp => ?_, fun hi0 => have hi := Nat.le_of_eq (Eq.symm hi0); ⟨vs, h1, by rw [Reps.length r1]; rw [enumL_length] at hi; exact hi⟩⟩
  rw [enumL_get] at hp
  obtain ⟨q, hq, rfl⟩ := Option.map_eq_some_iff.mp hp
  obtain ⟨v, hv, rv⟩ := r1.get hq
  refine ⟨⟨vs, v, h1, hv⟩, fun x H2 y => ?_⟩
  obtain ⟨t, w, rfl, ht, rfl, y⟩ := y
  have := y vs h1
  rw [hv] at this; cases this
  obtain ⟨g, S'⟩ := S.laid ht (.tup [.int (i : Nat), v])
  exact ⟨_, g, S', t, _, rfl, SqT.of upd_same, ⟨_, _, rfl, by rw [Nat.zero_add]; rfl, _, _, rfl, rv.up g.le, rfl⟩⟩
def enumV (p : PV) (st : Store) : R (List PV) := match p with
  | .lst xs => .ok (enumL 0 xs) st
  | .scr xs => .ok (enumL 0 xs) st
  | _ => .stuck
def fiEnum (f : FE) : FA := fun sg st => (f sg st).bind fun p st => (frzP p st).bind fun p st => enumV p st
theorem di_enum {elts : List Expr} {kk : Nat} {tpos : Pos} (hK : T.K = X.K) (hg : Gl X "enumerate") (hm : X.mg "enumerate" = none) (ha : PE X a (TEv T Wx f)) (hs : notStar a = true) : PI X (.Tuple elts kk tpos) (.Call (.Name "enumerate" p) [a] [] pos) (TIv T Wx (fiEnum f)) :=
  PIimp (pi_enum hg hm (pa_cons ha pa_nil (star_of hs)) (star_of hs)) fun σ H R ⟨W, sg, st, S, so, q⟩ => ⟨W, sg, st, S, so, (RQ.bind q).mono fun p st1 W1 H1 g1 S1 q1 v rv => by
    obtain ⟨p', st', W', e, g2, S2, r2, k⟩ := frzP_at S1 rv (RQ.bind q1)
    cases p' with
    | lst xs =>
      obtain ⟨l, vs, rfl, h1, rs⟩ := r2
      exact ⟨l, vs, rfl, SqL.of (S2.sub _ _ h1), hK ▸ RQ.here k S2 _ (walks_enum (SqL.of h1) rs)⟩
    | scr xs =>
      obtain ⟨l, vs, rfl, h1, rs⟩ := r2
      exact ⟨l, vs, rfl, hK ▸ SqL.up h1 S2.sub, hK ▸ RQ.here k S2 _ (walks_enum h1 rs)⟩
    | _ => exact k.elim⟩
/-- for x, y in zip(xs, ys): two lists, or two tuples -/
def zipL : List PV → List PV → List PV
  | p :: ps, q :: qs => .tup [p, q] :: zipL ps qs
  | _, _ => []
theorem zipL_get : ∀ (ps qs : List PV) (i : Nat) (z : PV), (zipL ps qs)[i]? = some z → ∃ p q, ps[i]? = some p ∧ qs[i]? = some q ∧ z = .tup [p, q]
  | [], _, _, _, h => by simp [zipL] at h
  | _ :: _, [], _, _, h => by simp [zipL] at h
  | p :: ps, q :: qs, 0, z, h => ⟨p, q, rfl, rfl, by simpa [zipL] using h.symm⟩
  | p :: ps, q :: qs, i + 1, z, h => zipL_get ps qs i z (by simpa [zipL] using h)
theorem zipL_end : ∀ (ps qs : List PV) (i : Nat), (zipL ps qs).length ≤ i → ps.length ≤ i ∨ qs.length ≤ i
  | [], _, _, _ => .inl (Nat.zero_le _)
  | _ :: _, [], _, _ => .inr (Nat.zero_le _)
  | p :: ps, q :: qs, 0, h => by simp [zipL] at h
  | p :: ps, q :: qs, i + 1, h => by
    have := zipL_end ps qs i (by simpa [zipL] using h)
    simpa using this
theorem SqX.up {K : PySem.W.Frag} {H H' : Hp} {t : Bool} {a : Addr} {xs : List V} (h : SqX t K H a xs) (k : ∀ a o, H a = some o → H' a = some o) : SqX t K H' a xs := by
  cases t
  · exact SqL.up (show SqL K H a xs from h) k
  · exact SqT.up (show SqT K H a xs from h) k
theorem zipL_len : ∀ ps qs : List PV, (zipL ps qs).length ≤ ps.length ∧ (zipL ps qs).length ≤ qs.length
  | [], _ => ⟨Nat.le_refl _, Nat.zero_le _⟩
  | _ :: _, [] => ⟨Nat.zero_le _, Nat.le_refl _⟩
  | p :: ps, q :: qs => by
    obtain ⟨h1, h2⟩ := zipL_len ps qs
    simp only [zipL, List.length_cons]
    omega
theorem walks_zipM {W : Wd} {t u : Bool} {a b : Addr} {vs us : List V} {ps qs : List PV} (h : SqX t T.K W.F a vs) (r : Reps T.K W ps vs) (h' : SqX u T.K W.F b us) (r' : Reps T.K W qs us) : Walks T W (ItzM t u T.K a b) (zipL ps qs) := fun W1 st1 H1 i l S => by
  have h1 : SqX t T.K H1 a vs := SqX.up h fun b o e => S.sub _ _ (l.F b o e)
  have h2 : SqX u T.K H1 b us := SqX.up h' fun b o e => S.sub _ _ (l.F b o e)
  have r1 := r.up l
  have r2 := r'.up l
  refine ⟨fun p hp => ?_, fun hi => ?_⟩
  · obtain ⟨p, q, hp', hq, rfl⟩ := zipL_get _ _ _ _ hp
    obtain ⟨v, hv, rv⟩ := r1.get hp'
    obtain ⟨u, hu, ru⟩ := r2.get hq
    refine ⟨⟨vs, us, v, u, h1, h2, hv, hu⟩, fun x H2 y => ?_⟩
    obtain ⟨t, w1, w2, rfl, ht, rfl, y1, y2⟩ := y
    have e1 := y1 vs h1
    rw [hv] at e1; cases e1
    have e2 := y2 us h2
    rw [hu] at e2; cases e2
    obtain ⟨g, S'⟩ := S.laid ht (.tup [v, u])
    exact ⟨_, g, S', t, _, rfl, SqT.of upd_same, ⟨_, _, rfl, rv.up g.le, _, _, rfl, ru.up g.le, rfl⟩⟩
  · have hl := zipL_len ps qs
    have n1 := Reps.length r1
    have n2 := Reps.length r2
    exact ⟨vs, us, h1, h2, by rw [n1, n2]; exact zipL_end _ _ _ (Nat.le_of_eq hi.symm), by omega, by omega⟩
/-- a list or a tuple that stays -/
def seqF : PV → Option (Bool × List PV)
  | .tup xs => some (true, xs)
  | .lst xs => some (false, xs)
  | .scr xs => some (false, xs)
  | _ => none
def zipV (p q : PV) (st : Store) : R (List PV) := match seqF p, seqF q with
  | some xs, some ys => .ok (zipL xs.2 ys.2) st
  | _, _ => .stuck
def fiZip (f g : FE) : FA := fun sg st => (f sg st).bind fun p st => (g sg st).bind fun q st => (frzP p st).bind fun p st => (frzP q st).bind fun q st => zipV p q st
theorem frz_seq {W : Wd} {p : PV} {v : V} {x : Bool × List PV} (r : Rep T.K W p v) (h : seqF p = some x) : ∃ l vs, v = .ref l ∧ SqX x.1 T.K W.F l vs ∧ Reps T.K W x.2 vs := by
  cases p with
  | tup ys => cases h; obtain ⟨l, vs, rfl, h1, rs⟩ := r; exact ⟨l, vs, rfl, h1, rs⟩
  | lst ys => cases h; obtain ⟨l, vs, rfl, h1, rs⟩ := r; exact ⟨l, vs, rfl, SqL.of h1, rs⟩
  | scr ys => cases h; obtain ⟨l, vs, rfl, h1, rs⟩ := r; exact ⟨l, vs, rfl, h1, rs⟩
  | _ => cases h
theorem di_zip {elts : List Expr} {kk : Nat} {tpos : Pos} (hK : T.K = X.K) (hg : Gl X "zip") (hm : X.mg "zip" = none) (ha : PE X a (TEv T Wx f)) (hb : PE X b (TEv T Wx g)) (hs : notStar a = true) (hs' : notStar b = true) :
    PI X (.Tuple elts kk tpos) (.Call (.Name "zip" p) [a, b] [] pos) (TIv T Wx (fiZip f g)) :=
  PIimp (pi_zipM hg hm (pa_cons ha (pa_cons hb pa_nil (star_of hs')) (star_of hs)) (star_of hs) (stars_of (by simp [hs']))) fun σ H R ⟨W, sg, st, S, so, q⟩ => ⟨W, sg, st, S, so, (RQ.bind q).mono fun p st1 W1 H1 g1 S1 q1 v rv => ⟨W1, sg, st1, S1, so.up g1.le, (RQ.bind q1).mono fun p2 st2 W2 H2 g2 S2 q2 u ru => by
    obtain ⟨p', st', W', e, g3, S3, r3, k⟩ := frzP_at S2 (rv.up g2.le) (RQ.bind q2)
    obtain ⟨p2', st'', W'', e', g4, S4, r4, k'⟩ := frzP_at S3 (ru.up g3.le) (RQ.bind k)
    have r3 := r3.up g4.le
    cases h1 : seqF p' with
    | none => simp only [zipV, h1] at k'; exact k'.elim
    | some xs =>
      cases h2 : seqF p2' with
      | none => simp only [zipV, h1, h2] at k'; exact k'.elim
      | some ys =>
        simp only [zipV, h1, h2] at k'
        obtain ⟨l, vs, rfl, f1, rs1⟩ := frz_seq r3 h1
        obtain ⟨l2, vs2, rfl, f2, rs2⟩ := frz_seq r4 h2
        exact ⟨l, l2, vs, vs2, _, _, rfl, hK ▸ SqX.up f1 S4.sub, hK ▸ SqX.up f2 S4.sub, hK ▸ RQ.here k' S4 _ (walks_zipM f1 rs1 f2 rs2)⟩⟩⟩
end
end Pv
set_option maxHeartbeats 4000000
/-! Pv, part I: comprehensions; a dict that is walked. -/
namespace Pv
open PySem PySem.Spec PyProof.Rows PySem.SeqAt L2

abbrev WxF : WX := fun _ _ _ _ => False
/-- what raises is not served -/
def noX {α : Type} : R α → R α
  | .ex _ _ => .stuck
  | r => r
theorem R.assoc {α β γ : Type} (r : R α) (f : α → Store → R β) (g : β → Store → R γ) : (r.bind f).bind g = r.bind fun a st => (f a st).bind g := by cases r <;> rfl
theorem R.bind_ok {α β : Type} {r : R α} {f : α → Store → R β} {b : β} {st' : Store} (h : r.bind f = .ok b st') : ∃ a st, r = .ok a st ∧ f a st = .ok b st' := by
  cases r with
  | ok a st => exact ⟨a, st, rfl, h⟩
  | ex x st => cases h
  | stuck => cases h
def compL (body : PV → Store → R (Option PV)) : List PV → Store → R (List PV)
  | [], st => .ok [] st
  | p :: ps, st => (body p st).bind fun o st => (compL body ps st).bind fun ys st => .ok (o.toList ++ ys) st
/-- one turn -/
def turnC (ws : List Nat) (g : FG) (ft : FT) (f : FE) (sg : Sig) (p : PV) (st : Store) : R (Option PV) :=
  noX ((g p (wipeS sg ws) st).bind fun sg' st => (ft sg' st).bind fun b st => if b then (f sg' st).bind fun q st => .ok (some q) st else .ok none st)
def fComp (bx : Bool) (ws : List Nat) (fi : FA) (g : FG) (ft : FT) (f : FE) : FE := fun sg st => (fi sg st).bind fun items st =>
  if items.length ≤ sizeLine then (compL (turnC ws g ft f sg) items st).bind fun ys st => .ok (newL bx ys st).1 (newL bx ys st).2 else .stuck
theorem turnC_ok {ws : List Nat} {g : FG} {ft : FT} {f : FE} {sg : Sig} {p : PV} {st st' : Store} {o : Option PV} (h : turnC ws g ft f sg p st = .ok o st') :
    ∃ sg' s1 b s2, g p (wipeS sg ws) st = .ok sg' s1 ∧ ft sg' s1 = .ok b s2 ∧ ((b = true ∧ ∃ q, f sg' s2 = .ok q st' ∧ o = some q) ∨ (b = false ∧ o = none ∧ st' = s2)) := by
  have h : ((g p (wipeS sg ws) st).bind fun sg' st => (ft sg' st).bind fun b st => if b then (f sg' st).bind fun q st => .ok (some q) st else .ok none st) = .ok o st' := by
    unfold turnC noX at h
    split at h
    · cases h
    · exact h
  obtain ⟨sg', s1, h1, h⟩ := R.bind_ok h
  obtain ⟨b, s2, h2, h⟩ := R.bind_ok h
  refine ⟨sg', s1, b, s2, h1, h2, ?_⟩
  cases b with
  | true =>
    rw [if_pos rfl] at h
    obtain ⟨q, s3, h3, h⟩ := R.bind_ok h
    cases h
    exact .inl ⟨rfl, q, h3, rfl⟩
  | false =>
    rw [if_neg Bool.false_ne_true] at h
    cases h
    exact .inr ⟨rfl, rfl, rfl⟩
theorem turnC_not {ws : List Nat} {g : FG} {ft : FT} {f : FE} {sg : Sig} {p : PV} {st st' : Store} {x : Exc} : turnC ws g ft f sg p st ≠ .ex x st' := by
  intro h
  unfold turnC noX at h
  split at h
  · cases h
  · rename_i hn; exact hn _ _ h
/-- a world later than one from which d was not there -/
theorem Go.adopt {W W1 W2 : Wd} {H H1 : Hp} {d : Addr} (g : Go W H W1 H1) (hd : H d = none) (l : W1.Le W2) (k : ∀ b, b ≠ d → W1.F b = none → b ∉ W1.ρ → W2.F b = none ∧ b ∉ W2.ρ) : Go W H W2 H1 :=
  ⟨g.le.trans l, fun b o e1 e2 e3 => by
    obtain ⟨q1, q2, q3⟩ := g.keep b o e1 e2 e3
    have : b ≠ d := fun z => by subst z; rw [hd] at e1; cases e1
    exact ⟨q1, k b this q2 q3⟩⟩
theorem tLc_of {T : Txt} {Wx : WX} {bx : Bool} {ws : List Nat} {fi : FA} {g : FG} {ft : FT} {f : FE} : ∀ σ H Q, TEv T Wx (fComp bx ws fi g ft f) σ H Q → tLc (TIv T Wx fi) (TGv T WxF ws g) (TTv T WxF ft) (TEv T WxF f) ws σ H Q := fun σ H Q ⟨W, sg, st, S, so, q⟩ => by
  refine ⟨W, sg, st, S, so, (RQ.bind q).mono fun items st1 W1 H1 g1 S1 q1 J hJ D hD => ?_⟩
  have so1 := so.up g1.le
  by_cases hz : items.length ≤ sizeLine
  rotate_left
  · rw [if_neg hz] at q1; exact q1.elim
  rw [if_pos hz] at q1
  obtain ⟨gD, SD⟩ := S1.loose hD (.lst [])
  have hnr : D ∉ W1.ρ := fun z => S1.dom D z hD
  refine ⟨fun i m H => m = items.length - i ∧ i ≤ items.length ∧ ∃ W2 st2 acc accV, Go W1 H1 W2 H ∧ Sim T W2 st2 H ∧ H D = some (.lst accV) ∧ W2.F D = none ∧ D ∉ W2.ρ ∧ Reps T.K W2 acc accV ∧ acc.length ≤ i ∧
    RQ T Wx σ W1 H1 ((compL (turnC ws g ft f sg) (items.drop i) st2).bind fun ys st => .ok (newL bx (acc ++ ys) st).1 (newL bx (acc ++ ys) st).2) fun p st' W' H' => ∀ v, Rep T.K W' p v → Q v H',
    ⟨items.length, by simp, Nat.zero_le _, W1, st1, [], [], ?_, SD, upd_same, S1.fresh hD, hnr, rfl, Nat.zero_le _, q1⟩, ?_⟩
  · exact gD
  rintro i m H2 ⟨rfl, hi, W2, st2, acc, accV, g2, S2, hH, hF, hr, ra, hl, q2⟩
  obtain ⟨w1, w2⟩ := hJ W2 st2 H2 i g2.le S2
  by_cases hlt : i < items.length
  · -- one more turn
    obtain ⟨p, hp⟩ : ∃ p, items[i]? = some p := ⟨_, List.getElem?_eq_getElem hlt⟩
    have hdrop : items.drop i = p :: items.drop (i + 1) := by
      rw [List.drop_eq_getElem_cons hlt]
      congr 1
      have := List.getElem?_eq_getElem hlt
      rw [hp] at this
      exact (Option.some.inj this).symm
    obtain ⟨go, yl⟩ := w1 p hp
    rw [hdrop] at q2
    refine .inr ⟨go, fun H' => items.length - (i + 1) = items.length - (i + 1) ∧ i + 1 ≤ items.length ∧ ∃ W2 st2 acc accV, Go W1 H1 W2 H' ∧ Sim T W2 st2 H' ∧ H' D = some (.lst accV) ∧ W2.F D = none ∧ D ∉ W2.ρ ∧ Reps T.K W2 acc accV ∧ acc.length ≤ i + 1 ∧
      RQ T Wx σ W1 H1 ((compL (turnC ws g ft f sg) (items.drop (i + 1)) st2).bind fun ys st => .ok (newL bx (acc ++ ys) st).1 (newL bx (acc ++ ys) st).2) fun p st' W' H' => ∀ v, Rep T.K W' p v → Q v H',
      fun H' h => ⟨items.length - (i + 1), by omega, h⟩, fun x H3 y => ?_⟩
    obtain ⟨W3, g3, S3, rx⟩ := yl x H3 y
    have hstep : compL (turnC ws g ft f sg) (p :: items.drop (i + 1)) st2 = (turnC ws g ft f sg p st2).bind fun o st => (compL (turnC ws g ft f sg) (items.drop (i + 1)) st).bind fun ys st => .ok (o.toList ++ ys) st := rfl
    rw [hstep, R.assoc] at q2
    cases hb : turnC ws g ft f sg p st2 with
    | stuck => rw [hb] at q2; exact q2.elim
    | ex x s => exact (turnC_not hb).elim
    | ok o st3 =>
      rw [hb] at q2
      have q3 : RQ T Wx σ W1 H1 ((compL (turnC ws g ft f sg) (items.drop (i + 1)) st3).bind fun ys st => .ok (newL bx (acc ++ (o.toList ++ ys)) st).1 (newL bx (acc ++ (o.toList ++ ys)) st).2) fun p st' W' H' => ∀ v, Rep T.K W' p v → Q v H' := by
        have e : (((compL (turnC ws g ft f sg) (items.drop (i + 1)) st3).bind fun ys st => R.ok (o.toList ++ ys) st).bind fun ys st => R.ok (newL bx (acc ++ ys) st).1 (newL bx (acc ++ ys) st).2) =
            (compL (turnC ws g ft f sg) (items.drop (i + 1)) st3).bind fun ys st => R.ok (newL bx (acc ++ (o.toList ++ ys)) st).1 (newL bx (acc ++ (o.toList ++ ys)) st).2 := R.assoc _ _ _
        rw [← e]; exact q2
      obtain ⟨sg', s1, b, s2, e1, e2, e3⟩ := turnC_ok hb
      refine ⟨W3, wipeS sg ws, st2, p, S3, SigOk.wipe (so1.up (g2.le.trans g3.le)) ws, rx, ?_⟩
      rw [e1]
      intro W4 H4 g4 S4 σ2 so2 out
      refine ⟨(Out.wipe out).trans (wipe_wipe σ ws), W4, sg', s1, S4, so2, ?_⟩
      rw [e2]
      intro W5 H5 g5 S5
      have g25 : Go W2 H2 W5 H5 := g3.trans (g4.trans g5)
      rcases e3 with ⟨rfl, q, e3, rfl⟩ | ⟨rfl, rfl, rfl⟩
      · refine iteT ?_
        refine ⟨W5, sg', s2, S5, so2.up g5.le, ?_⟩
        rw [e3]
        intro W6 H6 g6 S6 y ry
        have g26 : Go W2 H2 W6 H6 := g25.trans g6
        obtain ⟨k1, k2, k3⟩ := g26.keep D _ hH hF hr
        refine ⟨accV, k1, by rw [Reps.length ra]; omega, rfl, hlt, W6, st3, acc ++ [q], accV ++ [y], ?_, S6.loosen k2 k3 _, upd_same, k2, k3, (ra.up g26.le).app (Reps.one ry), by simp; omega, ?_⟩
        · refine ⟨(g2.trans g26).le, fun b o e1 e2 e3 => ?_⟩
          obtain ⟨z1, z2, z3⟩ := (g2.trans g26).keep b o e1 e2 e3
          have : b ≠ D := fun z => by subst z; rw [hD] at e1; cases e1
          exact ⟨(upd_ne this).trans z1, z2, z3⟩
        · have e : (fun ys (st : Store) => (R.ok (newL bx (acc ++ ((some q).toList ++ ys)) st).1 (newL bx (acc ++ ((some q).toList ++ ys)) st).2 : R PV)) = fun ys st => R.ok (newL bx (acc ++ [q] ++ ys) st).1 (newL bx (acc ++ [q] ++ ys) st).2 := by
            funext ys st
            rw [List.append_assoc]; rfl
          rw [e] at q3; exact q3
      · refine iteF ?_
        obtain ⟨k1, k2, k3⟩ := g25.keep D _ hH hF hr
        exact ⟨rfl, hlt, W5, _, acc, accV, g2.trans g25, S5, k1, k2, k3, ra.up g25.le, by omega, q3⟩
  · -- the end
    have hie : i = items.length := by omega
    have hdrop : items.drop i = [] := List.drop_eq_nil_of_le (by omega)
    rw [hdrop] at q2
    have q2 : RQ T Wx σ W1 H1 (.ok (newL bx (acc ++ []) st2).1 (newL bx (acc ++ []) st2).2) fun p st' W' H' => ∀ v, Rep T.K W' p v → Q v H' := q2
    rw [List.append_nil] at q2
    refine .inl ⟨w2 (by omega), ?_⟩
    cases bx with
    | false =>
      obtain ⟨l, S3⟩ := S2.adopt hF hr hH
      exact q2 _ H2 (g2.adopt hD l fun b nb k1 k2 => ⟨(upd_ne nb).trans k1, k2⟩) S3 _ ⟨D, accV, rfl, upd_same, ra.up l⟩
    | true =>
      obtain ⟨l, S3, e⟩ := S2.adoptB hF hr (by rw [hH]; simp) (c := .lst acc) ⟨accV, hH, ra⟩
      exact q2 _ H2 (g2.adopt hD l fun b nb k1 k2 => ⟨k1, by rw [List.mem_append]; exact fun z => z.elim k2 fun z => nb (by simpa using z)⟩) S3 _ ⟨D, e, rfl⟩
def notSet : Expr → Bool
  | .Set _ _ _ => false
  | _ => true
theorem folded_of {e : Expr} (h : notSet e = true) (env : Env) (x : Value) : foldedSetIterable e env x = pure x := by
  cases e <;> first | rfl | cases h
section
variable {X : Cx} {T : Txt} {Wx : WX} {elt tg iter : Expr} {ifs : List Expr} {scope : Scope} {own : List (Str × Nat)} {pos : Pos} {fi : FA} {g : FG} {ft : FT} {f : FE}
theorem de_comp (bx : Bool) (hc : X.calm = true) (hN : X.N.Nodup) (hi : PI X tg iter (TIv T Wx fi)) (ok : BlkOk X.N X.env.scope scope own)
    (hg : ∀ (s : Shared) (H : Hp) (C : Addr) (cl : List (Str × Addr)) (fp : List Addr), PG (X.blk s H scope (compEnvC scope cl C X.env) fp) tg (TGv T WxF (own.map (·.2)) g))
    (ht : ∀ (s : Shared) (H : Hp) (C : Addr) (cl : List (Str × Addr)) (fp : List Addr), PTs (X.blk s H scope (compEnvC scope cl C X.env) fp) ifs (TTv T WxF ft))
    (he : ∀ (s : Shared) (H : Hp) (C : Addr) (cl : List (Str × Addr)) (fp : List Addr), PE (X.blk s H scope (compEnvC scope cl C X.env) fp) elt (TEv T WxF f)) (hs : notSet iter = true) :
    PE X (.ListComp elt [⟨tg, iter, ifs, 0⟩] scope pos) (TEv T Wx (fComp bx (own.map (·.2)) fi g ft f)) :=
  PEimp (pe_lc hc hN hi ok hg ht he (folded_of hs X.env)) tLc_of
theorem PTsimp {ifs : List Expr} {t t' : TT} (h : PTs X ifs t) (i : ∀ σ H Q, t' σ H Q → t σ H Q) : PTs X ifs t' := ⟨fun pins s σ H Q I q => h.run pins s σ H Q I (i σ H Q q)⟩
def ftYes : FT := fun _ st => .ok true st
theorem dts_nil : PTs X [] (TTv T Wx ftYes) := PTsimp pts_nil fun σ H Q ⟨W, sg, st, S, so, q⟩ => RQ.here q S
theorem dts_one {c : Expr} (h : PT X c (TTv T Wx ft)) : PTs X [c] (TTv T Wx ft) := pts_one h
end

/-! ### the keys, values, items of a dict that is locked -/
section
variable {X : Cx} {T : Txt} {Wx : WX} {tg e : Expr} {f : FE} {W : Wd}
theorem RepK.get : ∀ {ps : List PV} {ks : List Key} {i : Nat} {p : PV}, RepK ps ks → ps[i]? = some p → ∃ k, ks[i]? = some k ∧ RepK1 p k
  | [], _, _, _, _, e => by simp at e
  | _ :: _, _, 0, _, ⟨k, r, e, h, _⟩, q => by subst e; simp at q; subst q; exact ⟨k, rfl, h⟩
  | _ :: _, _, i + 1, _, ⟨k, r, e, _, t⟩, q => by
    subst e
    obtain ⟨w, a, b⟩ := RepK.get (i := i) t (by simpa using q)
    exact ⟨w, by simpa using a, b⟩
theorem walks_keys {d : Addr} {ob : Obj} {kvs : List (Key × V)} {ks : List PV} (h : W.F d = some (.frz ob (.dK kvs))) (r : RepK ks (kvs.map (·.1))) : Walks T W (Itk d ob kvs) ks := fun W1 st1 H1 i l S => by
  have h1 : H1 d = some (.frz ob (.dK kvs)) := S.sub _ _ (l.F _ _ h)
  have hl : kvs.length = ks.length := by have := r.length; simpa using this
  refine ⟨fun p hp => ?_, fun hi0 => have hi := Nat.le_of_eq (Eq.symm hi0); ⟨h1, by omega⟩⟩
  have hi : i < ks.length := (List.getElem?_eq_some_iff.mp hp).1
  obtain ⟨k, hk, rk⟩ := r.get hp
  refine ⟨⟨h1, by omega⟩, fun x H2 y => ?_⟩
  obtain ⟨rfl, k', v, e, rfl⟩ := y
  rw [List.getElem?_map, e] at hk
  cases hk
  exact ⟨W1, .refl _ _, S, rep_of_key rk⟩
def keysV (p : PV) (st : Store) : R (List PV) := match p with
  | .ref n => match st[n]? with
    | some (.dlk ks _) => .ok ks st
    | _ => .stuck
  | _ => .stuck
def fiKeys (f : FE) : FA := fun sg st => (f sg st).bind fun p st => keysV p st
theorem di_keys (h : PE X e (TEv T Wx f)) : PI X tg e (TIv T Wx (fiKeys f)) :=
  PIimp (pi_keys h) fun σ H R ⟨W, sg, st, S, so, q⟩ => ⟨W, sg, st, S, so, (RQ.bind q).mono fun p st1 W1 H1 g1 S1 q1 v rv => by
    cases p with
    | ref n =>
      cases hc : st1[n]? with
      | none => simp only [keysV, hc] at q1; exact q1.elim
      | some c =>
        cases c with
        | dlk ks vs =>
          simp only [keysV, hc] at q1
          obtain ⟨a, e, rfl⟩ := rv
          obtain ⟨ob, kvs, f1, rk, rs⟩ := S1.cell n a _ e hc
          exact ⟨a, ob, rfl, .inl ⟨kvs, S1.sub _ _ f1, RQ.here q1 S1 _ (walks_keys f1 rk)⟩⟩
        | _ => simp only [keysV, hc] at q1; exact q1.elim
    | _ => exact q1.elim⟩
/-- while e runs, the dict in slot i is locked -/
def fLock (i : Nat) (f : FE) : FE := fun sg st => match sg[i]? with
  | some (some (.ref n)) => match st[n]? with
    | some (.dic ks vs) => (noX (f sg (st.set n (.dlk ks vs)))).bind fun p st2 => match st2[n]? with
      | some (.dlk ks vs) => .ok p (st2.set n (.dic ks vs))
      | _ => .stuck
    | _ => .stuck
  | _ => .stuck
theorem de_lock (i : Nat) (h : PE X e (TEv T Wx f)) : PE X e (TEv T Wx (fLock i f)) :=
  PEimp (pe_lock h) fun σ H Q ⟨W, sg, st, S, so, q⟩ => by
    unfold fLock at q
    cases hi : sg[i]? with
    | none => simp only [hi] at q; exact q.elim
    | some o =>
      cases o with
      | none => simp only [hi] at q; exact q.elim
      | some p =>
        cases p with
        | ref n =>
          simp only [hi] at q
          cases hc : st[n]? with
          | none => simp only [hc] at q; exact q.elim
          | some c =>
            cases c with
            | dic ks vs =>
              simp only [hc] at q
              obtain ⟨v, hv, d, hd, rfl⟩ := so.get i _ hi
              obtain ⟨kvs, hH, rk, rs, lock⟩ := S.lock hd hc
              refine ⟨d, .dK kvs, hH, True.intro, fun ob => ?_⟩
              obtain ⟨g1, S1⟩ := lock ob
              have hFd : W.F d = none := S.off n d _ hd hc rfl
              refine ⟨_, sg, st.set n (.dlk ks vs), S1, so.up g1.le, ?_⟩
              cases hf : f sg (st.set n (.dlk ks vs)) with
              | stuck => rw [hf] at q; exact q.elim
              | ex x s => rw [hf] at q; exact q.elim
              | ok z st2 =>
                rw [hf] at q
                intro W2 H2 g2 S2 w rw'
                have hF2 : W2.F d = some (.frz ob (.dK kvs)) := g2.le.F d _ upd_same
                have hr2 : W2.ρ[n]? = some d := g2.le.ρ n d hd
                refine ⟨S2.sub _ _ hF2, ?_⟩
                cases hc2 : st2[n]? with
                | none => exact (show False from by have q := q; simp only [noX, R.bind, hc2] at q; exact q).elim
                | some c2 =>
                  cases c2 with
                  | dlk ks2 vs2 =>
                    have q : RQ T Wx σ W H (.ok z (st2.set n (.dic ks2 vs2))) fun p st' W' H' => ∀ v, Rep T.K W' p v → Q v H' := by
                      have q := q; simp only [noX, R.bind, hc2] at q; exact q
                    refine q ⟨dropF W2.F d, W2.ρ⟩ (upd H2 d (.dK kvs)) ?_ (S2.unlock hr2 hc2 hF2) w (Rep.unlock hF2 rw')
                    have g12 := g1.trans g2
                    refine ⟨⟨fun b u e => ?_, g12.le.ρ⟩, fun b u e1 e2 e3 => ?_⟩
                    · have nb : b ≠ d := fun z => by subst z; rw [hFd] at e; cases e
                      show dropF W2.F d b = some u
                      unfold dropF; rw [if_neg nb]; exact g12.le.F b u e
                    · obtain ⟨k1, k2, k3⟩ := g12.keep b u e1 e2 e3
                      have nb : b ≠ d := fun z => e3 (by rw [z]; exact List.mem_of_getElem? hd)
                      exact ⟨(upd_ne nb).trans k1, (by show dropF W2.F d b = none; unfold dropF; rw [if_neg nb]; exact k2), k3⟩
                  | _ => exact (show False from by have q := q; simp only [noX, R.bind, hc2] at q; exact q).elim
            | _ => simp only [hc] at q; exact q.elim
        | _ => simp only [hi] at q; exact q.elim
end
end Pv
/-! Pv, part J: calls of defs, of methods, of classes, of what is built in. -/
namespace Pv
open PySem PySem.Spec PyProof.Rows PySem.SeqAt L2

/-- a def as a function of values -/
abbrev FF := List PV → Store → R PV
def spF (T : Txt) (F : FF) : Sp := fun vs H Q E => ∃ W ps st, Sim T W st H ∧ Reps T.K W ps vs ∧ RQ T (fun cls d _ H' => E cls d H') [] W H (F ps st) fun p st' W' H' => ∀ v, Rep T.K W' p v → Q v H'
/-- a def, sound wherever there is room -/
structure FnR (P : Program) (w : World) (K : PySem.W.Frag) (mg : Str → Option Value) (base : Heap) (R : Around → Prop) (f : Addr) (fd : FuncData) (ps : List Str) (sp : Sp) : Prop where
  many : ∀ vs H Q E, sp vs H Q E → vs.length = ps.length
  go : ∀ (A : Around) (outer : List Env) (s : Shared) (H : Hp) (args : Args) (us : List Value) (vs : List V) (Q : VK) (E : XK), R A → Env0 P w K mg base A outer s H → BindsTo s fd args (ps.zip us) → Vals vs us → sp vs H Q E →
    codeAny (model P w) A (.call (.ref f) args) (CR (L2.CX P w) outer P w H s Q E) s
theorem FnR.of {P : Program} {w : World} {K : PySem.W.Frag} {mg : Str → Option Value} {base : Heap} {R : Around → Prop} {k : Nat} {f : Addr} {fd : FuncData} {ps : List Str} {sp : Sp} (F : FnOk P w K mg base (L2.CX P w) k f fd ps sp) (h : ∀ A, R A → Room k A) : FnR P w K mg base R f fd ps sp :=
  ⟨F.len, fun A outer s H args us vs Q E hr => F.run A outer s H args us vs Q E (h A hr)⟩
theorem FnR.ok {P : Program} {w : World} {K : PySem.W.Frag} {mg : Str → Option Value} {base : Heap} {R : Around → Prop} {k : Nat} {f : Addr} {fd : FuncData} {ps : List Str} {sp : Sp} (F : FnR P w K mg base R f fd ps sp) (h : ∀ A, Room k A → R A) : FnOk P w K mg base (L2.CX P w) k f fd ps sp :=
  ⟨F.many, fun A outer s H args us vs Q E hr => F.go A outer s H args us vs Q E (h A hr)⟩
/-- its call -/
theorem run_R {X : Cx} {R : Around → Prop} {f : Addr} {fd : FuncData} {ps : List Str} {sp : Sp} {E : L2.St → XK} {pins : List (Addr × Obj)} {σ : L2.St} {H : Hp} {s : Shared} {Q : VK} {us : List Value} {vs : List V}
    (F : FnR X.prog X.w X.K X.mg X.base R f fd ps sp) (room : R X.A) (hb : Binds X.K fd ps []) (hx : PassesAt (L2.CX X.prog X.w) X σ (E σ)) (I : Inv X pins σ H s) (rv : Vals vs us) (h : sp vs H Q (E σ)) :
    wpAny (model X.prog X.w) X.A (call (.ref f) us) (EP X pins σ Q) X.xe s := by
  have n : us.length = ps.length := rv.length.symm.trans (F.many vs H Q (E σ) h)
  have bd : BindsTo s fd ⟨us, []⟩ (ps.zip us) := by
    have z := hb s us I.kIn
    simp only [List.append_nil] at z
    exact z n
  have run := F.go X.A X.stack s H ⟨us, []⟩ us vs Q (E σ) room I.env0 bd rv h
  refine wpAny_call (codeAny_mono run fun out s2 q => ?_)
  match out, q with
  | .error e, q => exact hx pins H s e s2 I q
  | .ok (.ret u), q => exact I.after q
/-- a def at its place, sound -/
structure Fn1 (P : Program) (w : World) (K : PySem.W.Frag) (mg : Str → Option Value) (base : Heap) (T : Txt) (R : Around → Prop) (x : Str) (F : FF) : Prop where
  ex : ∃ f fd ps, FnR P w K mg base R f fd ps (spF T F) ∧ mg x = some (.ref f) ∧ PySem.W.keepIn K (.ref f) = true ∧ Binds K fd ps []
/-- a method of class c -/
structure Me1 (P : Program) (w : World) (K : PySem.W.Frag) (mg : Str → Option Value) (base : Heap) (T : Txt) (R : Around → Prop) (c : Nat) (m : Str) (F : FF) : Prop where
  ex : ∃ f fd ps, FnR P w K mg base R f fd ps (spF T F) ∧ Meth K (T.cl c) m f ∧ Binds K fd ps []
/-- a class that is made by its __init__ -/
structure Ma1 (P : Program) (w : World) (K : PySem.W.Frag) (mg : Str → Option Value) (base : Heap) (T : Txt) (k : Nat) (x : Str) (c : Nat) (F : FF) : Prop where
  ex : ∃ f fd ps, FnOk P w K mg base (L2.CX P w) k f fd ps (spF T F) ∧ Mk K (T.cl c) f ∧ mg x = some (.ref (T.cl c)) ∧ Binds K fd ps [] ∧ Cls K (T.cl c)

theorem RQ.sigma {T : Txt} {Wx Wx' : WX} {σ σ' : L2.St} {W : Wd} {H : Hp} {α : Type} {r : R α} {k : α → Store → Wd → Hp → Prop} (h : RQ T Wx σ W H r k) (e : ∀ c d H', Wx c d σ H' → Wx' c d σ' H') : RQ T Wx' σ' W H r k := by
  cases r with
  | ok a st => exact h
  | ex x st => exact fun W' H' cls d g S at_ => e _ _ _ (h W' H' cls d g S at_)
  | stuck => exact h

section
variable {X : Cx} {T : Txt} {Wx : WX} {F : FF} {k : Nat} {R : Around → Prop} {x m : Str} {p pos apos : Pos} {e o : Expr} {es : List Expr} {f g : FE} {fa : FA}
def fCall (F : FF) (fa : FA) : FE := fun sg st => (fa sg st).bind fun ps st => F ps st
theorem tCall_of : ∀ σ H Q, TEv T Wx (fCall F fa) σ H Q → tCallS (spF T F) (WE Wx) (TAv T Wx fa) σ H Q := fun σ H Q ⟨W, sg, st, S, so, q⟩ =>
  ⟨W, sg, st, S, so, (RQ.bind q).mono fun ps st1 W1 H1 g1 S1 q1 vs rvs => ⟨W1, ps, st1, S1, rvs, q1.sigma fun _ _ _ h => h⟩⟩
theorem de_call (h : Fn1 X.prog X.w X.K X.mg X.base T R x F) (hr : R X.A) (hg : Gl X x) (tk : Takes X Wx) (ha : PA X (e :: es) (TAv T Wx fa)) (hs : (e :: es).all notStar = true) (hd : (x == ("__debug__" : Str)) = false) :
    PE X (.Call (.Name x p) (e :: es) [] pos) (TEv T Wx (fCall F fa)) := by
  obtain ⟨f, fd, ps, F1, hm, hk, hb⟩ := h.ex
  rw [List.all_cons, Bool.and_eq_true] at hs
  refine ⟨fun pins s σ H Q I h => ?_⟩
  refine wpAny_Call_Name_kw (ld_glob I hg hm ?_ hd)
  refine PySem.W.callWith_K (h₀ := X.base) I.ok.mod.kin hk (thn (ha.run pos pins s σ H _ I (tCall_of σ H Q h)) fun us s1 z => ?_) (star_of hs.1) (stars_of hs.2)
  obtain ⟨vs, H1, I1, rv, q⟩ := z
  exact ⟨I1.kIn, run_R (E := WE Wx) F1 hr hb (passAt tk σ) I1 rv q⟩
theorem de_call0 (h : Fn1 X.prog X.w X.K X.mg X.base T R x F) (hr : R X.A) (hg : Gl X x) (tk : Takes X Wx) (hd : (x == ("__debug__" : Str)) = false) :
    PE X (.Call (.Name x p) [] [] pos) (TEv T Wx (fCall F faNil)) := by
  obtain ⟨f, fd, ps, F1, hm, hk, hb⟩ := h.ex
  refine ⟨fun pins s σ H Q I h => ?_⟩
  refine wpAny_Call_Name_kw (ld_glob I hg hm ?_ hd)
  obtain ⟨W, sg, st, S, so, q⟩ := h
  exact PySem.W.callWith_K0 I.kIn hk (run_R (us := []) (E := WE Wx) F1 hr hb (passAt tk σ) I .nil ⟨W, [], st, S, rfl, (show RQ T Wx σ W H (F [] st) _ from q).sigma fun _ _ _ h => h⟩)

/-! ### what is built in -/
def fcB (h : List PV → Store → Option (PV × Store)) (fa : FA) : FE := fun sg st => (fa sg st).bind fun ps st => liftS (h ps st)
variable {hb : List PV → Store → Option (PV × Store)}
theorem tCB_of : ∀ σ H Q, TEv T Wx (fcB hb fa) σ H Q → tCB (rC T hb) (TAv T Wx fa) σ H Q := fun σ H Q ⟨W, sg, st, S, so, q⟩ =>
  ⟨W, sg, st, S, so, (RQ.bind q).mono fun ps st1 W1 H1 g1 S1 q1 vs rvs => by
    obtain ⟨z, hz, k⟩ := RQ.liftS q1
    exact ⟨W1, st1, ps, z, S1, rvs, hz, k⟩⟩
theorem de_callB {id : String} (hc : CallR X (.builtin id) (rC T hb)) (hg : Gl X x) (hm : X.mg x = none) (hv : bootBuiltins x = some (.builtin id)) (ha : PA X (e :: es) (TAv T Wx fa)) (hs : (e :: es).all notStar = true) (hn : x ≠ "__name__") (hd : (x == ("__debug__" : Str)) = false) :
    PE X (.Call (.Name x p) (e :: es) [] pos) (TEv T Wx (fcB hb fa)) := by
  rw [List.all_cons, Bool.and_eq_true] at hs
  exact PEimp (pe_callB hc hg hm hv ha hn hd (star_of hs.1) (stars_of hs.2)) tCB_of
theorem de_callTy {t : String} (hc : CallR X (.type t) (rC T hb)) (hg : Gl X x) (hm : X.mg x = none) (hv : bootBuiltins x = some (.type t)) (ha : PA X (e :: es) (TAv T Wx fa)) (hs : (e :: es).all notStar = true) (hn : x ≠ "__name__") (hd : (x == ("__debug__" : Str)) = false) :
    PE X (.Call (.Name x p) (e :: es) [] pos) (TEv T Wx (fcB hb fa)) := by
  rw [List.all_cons, Bool.and_eq_true] at hs
  exact PEimp (pe_callTy hc hg hm hv ha hn hd (star_of hs.1) (stars_of hs.2)) tCB_of
/-- isinstance(e, T) -/
def fIsi (c : Ty) (f : FE) : FE := fun sg st => (f sg st).bind fun p st => match tyP p st with
  | some t => .ok (.bl (isI t c)) st
  | none => .stuck
theorem de_isi {c : Ty} {p2 : Pos} {x2 : Str} (hK : T.K = X.K) (hc : c ≠ .non) (hg : Gl X "isinstance") (hm : X.mg "isinstance" = none) (hg2 : Gl X x2) (hm2 : X.mg x2 = none) (hv2 : bootBuiltins x2 = some (.type c.name)) (hn2 : x2 ≠ "__name__") (hd2 : (x2 == ("__debug__" : Str)) = false)
    (ha : PE X e (TEv T Wx f)) (hs : notStar e = true) : PE X (.Call (.Name "isinstance" p) [e, .Name x2 p2] [] pos) (TEv T Wx (fIsi c f)) := by
  refine PEimp (pe_callB call_isi hg hm (by rfl) (pa_cons ha (pa_cons (pe_bltn (v := .ty c.name) hg2 hm2 hv2 rfl hn2 hd2) pa_nil (star_of rfl)) (star_of hs)) (by decide) (by decide) (star_of hs) (stars_of rfl)) fun σ H Q ⟨W, sg, st, S, so, q⟩ => ?_
  refine ⟨W, sg, st, S, so, (RQ.bind q).mono fun z st1 W1 H1 g1 S1 q1 v rv => ?_⟩
  show rIsi X.K [v, .ty c.name] H1 Q
  cases ht : tyP z st1 with
  | none => simp only [ht] at q1; exact q1.elim
  | some t =>
    simp only [ht] at q1
    exact ⟨v, .ty c.name, .type t.name, .type c.name, isI t c, rfl, .ty _, hK ▸ tyP_at S1 rv ht, kit_ty (isI_kit t c hc), RQ.here q1 S1 _ rfl⟩

/-! ### methods -/
/-- super() aside -/
def recvE : Expr → Bool
  | .Call (.Name _ _) [] [] _ => false
  | _ => true
theorem base_of {o : Expr} {name : Str} {env : Env} {whole : Sem Value} (h : recvE o = true) : attributeBase o name env whole = whole := by
  unfold attributeBase
  split
  · cases h
  · rfl
theorem few_of {env : Env} {pos : Pos} {es : List Expr} (hs : es.all notStar = true) (hl : es.length < 30) : ((backTo pos (starEach es env)).all (fun x => !x.1) && (backToKw pos (keywordEach [] env)).all (fun x => x.1.isSome)
      && decide (es.length + ([] : List Keyword).length + (if ([] : List Keyword).isEmpty then 0 else 1) < 30)) = true := by
  have h1 : (backTo pos (starEach es env)).all (fun x => !x.1) = true := by
    have := stars_of (env := env) (pos := pos) hs
    rw [List.all_eq_not_any_not]
    simpa using this
  rw [h1]
  have h2 : decide (es.length + ([] : List Keyword).length + (if ([] : List Keyword).isEmpty then 0 else 1) < 30) = true := decide_eq_true (by simpa using hl)
  rw [h2]
  rfl
theorem mtree_of {X : Cx} {o : Expr} {m : Str} {apos pos : Pos} {es : List Expr} (hr : recvE o = true) (hs : es.all notStar = true) (hl : es.length < 30) (hp : (apos.endLine == pos.line) = true) :
    eval (.Call (.Attribute o m apos) es [] pos) X.env = (do
      let ov ← eval o X.env
      standAt apos.atName
      let (f, first) ← holding [ov] (getMethod ov m (L2.plainOf o X.env))
      callWith pos f first (backTo pos (starEach es X.env)) (backToKw pos (keywordEach [] X.env))) := by
  rw [arm_eval_Call, base_of hr]
  have e : ∀ ov, methodCall o m apos pos X.env ov (es.length + ([] : List Keyword).length) (backTo pos (starEach es X.env)) (backToKw pos (keywordEach [] X.env)) = (do
      let (f, first) ← holding [ov] (getMethod ov m (L2.plainOf o X.env))
      callWith pos f first (backTo pos (starEach es X.env)) (backToKw pos (keywordEach [] X.env))) := fun ov => L2.mcall_line (few_of hs hl) hp
  simp only [e]
/-- the fields of an instance in the store -/
def insAt (p : PV) (st : Store) : Option (Nat × List (List Nat × PV)) := match p with
  | .ref n => match st[n]? with
    | some (.ins c fs) => some (c, fs)
    | _ => none
  | _ => none
theorem insAt_at {W : Wd} {st : Store} {H : Hp} (S : Sim T W st H) {p : PV} {v : V} (r : Rep T.K W p v) {c : Nat} {fs : List (List Nat × PV)} (h : insAt p st = some (c, fs)) :
    ∃ n a dx us, p = .ref n ∧ W.ρ[n]? = some a ∧ st[n]? = some (.ins c fs) ∧ v = .ref a ∧ H a = some (.ins (T.cl c) dx us) ∧ RepF T.K W fs us ∧ Cls T.K (T.cl c) ∧ ∀ f ∈ fs, NoAttr T.K (T.cl c) (nmS f.1) := by
  cases p with
  | ref n =>
    cases hc : st[n]? with
    | none => simp only [insAt, hc] at h; cases h
    | some cell =>
      cases cell with
      | ins c2 fs2 =>
        simp only [insAt, hc] at h
        cases h
        obtain ⟨a, e, rfl⟩ := r
        obtain ⟨dx, us, z1, z2, z3, z4⟩ := S.cell n a _ e hc
        exact ⟨n, a, dx, us, rfl, e, hc, rfl, z1, z2, z3, z4⟩
      | _ => simp only [insAt, hc] at h; cases h
  | _ => cases h
def lookF (f : List Nat) : List (List Nat × PV) → Option PV
  | [] => none
  | (g, p) :: r => if f = g then some p else lookF f r
theorem lookF_at {W : Wd} {f : List Nat} : ∀ {fs : List (List Nat × PV)} {us : List (Str × V)}, RepF T.K W fs us → match lookF f fs with
    | some p => ∃ v, us.lookup (nmS f) = some v ∧ Rep T.K W p v
    | none => us.lookup (nmS f) = none
  | [], _, h => by cases h; rfl
  | (g, p) :: r, _, ⟨v, r', e, h, t⟩ => by
    subst e
    unfold lookF
    by_cases q : f = g
    · subst q
      rw [if_pos rfl]
      exact ⟨v, by simp [List.lookup], h⟩
    · rw [if_neg q]
      have ne : (nmS f == nmS g) = false := beq_eq_false_iff_ne.mpr fun z => q (nmS_inj z)
      have ih := lookF_at (f := f) t
      simp only [List.lookup, ne]
      exact ih
/-- o.m(..), the method by the instance's class -/
def fMeth (mt : Nat → Option FF) (m : List Nat) (f : FE) (fa : FA) : FE := fun sg st => (f sg st).bind fun p st => match insAt p st with
  | some (c, fs) => match lookF m fs, mt c with
    | none, some F => (fa sg st).bind fun ps st => F (p :: ps) st
    | _, _ => .stuck
  | none => .stuck
variable {mt : Nat → Option FF} {ml : List Nat}
theorem meth_core (hK : T.K = X.K) (hM : ∀ c F, mt c = some F → Me1 X.prog X.w X.K X.mg X.base T R c (nmS ml) F) (hr : R X.A) (tk : Takes X Wx) (ho : PE X o (TEv T Wx f)) (hre : recvE o = true) (hs : es.all notStar = true) (hl : es.length < 30) (hp : (apos.endLine == pos.line) = true)
    (hrun : ∀ (g a : Addr) (σ : L2.St) (pins : List (Addr × Obj)) (H : Hp) (s : Shared) (Q : VK) (fd : FuncData) (ps : List Str) (F : FF), FnR X.prog X.w X.K X.mg X.base R g fd ps (spF T F) → PySem.W.keepIn X.K (.ref g) = true → Binds X.K fd ps [] →
      Inv X pins σ H s → (TAv T Wx fa σ H fun vs H' => spF T F (.ref a :: vs) H' Q (WE Wx σ)) →
      wpAny (model X.prog X.w) X.A (callWith pos (.ref g) [.ref a] (backTo pos (starEach es X.env)) (backToKw pos (keywordEach [] X.env))) (EP X pins σ Q) X.xe s) :
    PE X (.Call (.Attribute o (nmS ml) apos) es [] pos) (TEv T Wx (fMeth mt ml f fa)) := by
  refine ⟨fun pins s σ H Q I h => ?_⟩
  obtain ⟨W, sg, st, S, so, q⟩ := h
  refine methcall_of ho I ⟨W, sg, st, S, so, (RQ.bind q).mono fun p st1 W1 H1 g1 S1 q1 v rv => ?_⟩ (mtree_of hre hs hl hp)
  cases hi : insAt p st1 with
  | none => simp only [hi] at q1; exact q1.elim
  | some z =>
    obtain ⟨c, fs⟩ := z
    simp only [hi] at q1
    cases hm : lookF ml fs with
    | some _ => simp only [hm] at q1; exact q1.elim
    | none =>
      cases hc : mt c with
      | none => simp only [hm, hc] at q1; exact q1.elim
      | some F =>
        simp only [hm, hc] at q1
        obtain ⟨n, a, dx, us, rfl, e1, e2, rfl, e3, rf, cl, na⟩ := insAt_at S1 rv hi
        obtain ⟨g, fd, ps, F1, me, hb⟩ := (hM c F hc).ex
        have l := lookF_at (f := ml) rf
        rw [hm] at l
        exact ⟨a, T.cl c, dx, us, g, rfl, e3, hK ▸ cl, me, l, fun s1 I1 => hrun g a σ pins H1 s1 Q fd ps F F1 me.kp hb I1 ⟨W1, sg, st1, S1, so.up g1.le, (RQ.bind q1).mono fun qs st2 W2 H2 g2 S2 q2 vs rvs =>
          ⟨W2, .ref n :: qs, st2, S2, ⟨.ref a, vs, rfl, rv.up g2.le, rvs⟩, q2.sigma fun _ _ _ h => h⟩⟩⟩
theorem de_meth (hK : T.K = X.K) (hM : ∀ c F, mt c = some F → Me1 X.prog X.w X.K X.mg X.base T R c (nmS ml) F) (hr : R X.A) (tk : Takes X Wx) (ho : PE X o (TEv T Wx f)) (ha : PA X (e :: es) (TAv T Wx fa)) (hre : recvE o = true) (hs : (e :: es).all notStar = true) (hl : (e :: es).length < 30) (hp : (apos.endLine == pos.line) = true) :
    PE X (.Call (.Attribute o (nmS ml) apos) (e :: es) [] pos) (TEv T Wx (fMeth mt ml f fa)) := by
  refine meth_core hK hM hr tk ho hre hs hl hp fun g a σ pins H s Q fd ps F F1 hk hb I q => ?_
  rw [List.all_cons, Bool.and_eq_true] at hs
  refine PySem.W.callWith_K (first := [.ref a]) (h₀ := X.base) I.ok.mod.kin hk (thn (ha.run pos pins s σ H _ I q) fun us s2 ⟨vs, H2, I2, r, q2⟩ => ⟨I2.kIn, ?_⟩) (star_of hs.1) (stars_of hs.2)
  exact run_R (us := .ref a :: us) (vs := .ref a :: vs) (E := WE Wx) F1 hr hb (passAt tk σ) I2 (.cons rfl r) q2
theorem de_meth0 (hK : T.K = X.K) (hM : ∀ c F, mt c = some F → Me1 X.prog X.w X.K X.mg X.base T R c (nmS ml) F) (hr : R X.A) (tk : Takes X Wx) (ho : PE X o (TEv T Wx f)) (hre : recvE o = true) (hp : (apos.endLine == pos.line) = true) :
    PE X (.Call (.Attribute o (nmS ml) apos) [] [] pos) (TEv T Wx (fMeth mt ml f faNil)) := by
  refine meth_core hK hM hr tk ho hre rfl (by decide) hp fun g a σ pins H s Q fd ps F F1 hk hb I q => ?_
  obtain ⟨W, sg, st, S, so, q⟩ := q
  exact PySem.W.callWith_K0 (first := [.ref a]) I.kIn hk (run_R (us := [.ref a]) (vs := [.ref a]) (E := WE Wx) F1 hr hb (passAt tk σ) I (.cons rfl .nil) (RQ.here q S [] rfl))

/-! ### methods of what is built in -/
def isLst (p : PV) (st : Store) : Bool := match p with
  | .ref n => match st[n]? with
    | some (.lst _) => true
    | _ => false
  | .lst _ => true
  | .scr _ => true
  | _ => false
def isStr (p : PV) (_ : Store) : Bool := match p with
  | .str _ => true
  | _ => false
theorem isLst_at {W : Wd} {st : Store} {H : Hp} (S : Sim T W st H) {p : PV} {v : V} (r : Rep T.K W p v) (h : isLst p st = true) : tyV T.K "list" v H := by
  cases p with
  | ref n =>
    cases hc : st[n]? with
    | none => simp only [isLst, hc] at h; cases h
    | some c =>
      cases c with
      | lst xs =>
        obtain ⟨a, e, rfl⟩ := r
        obtain ⟨vs, f, _⟩ := S.cell n a _ e hc
        exact .inl ⟨rfl, vs, .inl (.inl f)⟩
      | _ => simp only [isLst, hc] at h; cases h
  | lst xs => obtain ⟨a, vs, rfl, f, _⟩ := r; exact .inl ⟨rfl, vs, .inl (.inl (S.sub _ _ f))⟩
  | scr xs => obtain ⟨a, vs, rfl, f, _⟩ := r; exact .inl ⟨rfl, vs, SqL.up f S.sub⟩
  | _ => cases h
theorem isStr_at {W : Wd} {st : Store} {H : Hp} (S : Sim T W st H) {p : PV} {v : V} (r : Rep T.K W p v) (h : isStr p st = true) : tyV T.K "str" v H := by
  cases p with
  | str s => obtain ⟨rfl, _⟩ := r; rfl
  | _ => cases h
def fBM (is : PV → Store → Bool) (h : PV → List PV → Store → Option (PV × Store)) (f : FE) (fa : FA) : FE := fun sg st => (f sg st).bind fun p st =>
  if is p st then (fa sg st).bind fun ps st => liftS (h p ps st) else .stuck
variable {is : PV → Store → Bool} {hm : PV → List PV → Store → Option (PV × Store)} {ty id : String} {name : Str}
theorem tBM_of (hi : ∀ {W : Wd} {st : Store} {H : Hp}, Sim T W st H → ∀ {p : PV} {v : V}, Rep T.K W p v → is p st = true → tyV T.K ty v H) :
    ∀ σ H Q, TEv T Wx (fBM is hm f fa) σ H Q → tBM T.K ty (rM T hm) (TEv T Wx f) (TAv T Wx fa) σ H Q := fun σ H Q ⟨W, sg, st, S, so, q⟩ =>
  ⟨W, sg, st, S, so, (RQ.bind q).mono fun p st1 W1 H1 g1 S1 q1 v rv => by
    by_cases h : is p st1 = true
    · rw [if_pos h] at q1
      refine ⟨hi S1 rv h, W1, sg, st1, S1, so.up g1.le, (RQ.bind q1).mono fun ps st2 W2 H2 g2 S2 q2 vs rvs => ?_⟩
      obtain ⟨z, hz, k⟩ := RQ.liftS q2
      exact ⟨W2, st2, p, ps, z, S2, rv.up g2.le, rvs, hz, k⟩
    · rw [if_neg h] at q1; exact q1.elim⟩
theorem de_bm (hK : T.K = X.K) (hi : ∀ {W : Wd} {st : Store} {H : Hp}, Sim T W st H → ∀ {p : PV} {v : V}, Rep T.K W p v → is p st = true → tyV T.K ty v H) (pa : PlainAttrs ty) (slot : Slot ty name id) (hty : typeOf (.builtin id) = pure (.type "method_descriptor"))
    (hM : MtR X id (rM T hm)) (ho : PE X o (TEv T Wx f)) (ha : PA X (e :: es) (TAv T Wx fa)) (hre : recvE o = true) (hs : (e :: es).all notStar = true) (hl : (e :: es).length < 30) (hp : (apos.endLine == pos.line) = true) :
    PE X (.Call (.Attribute o name apos) (e :: es) [] pos) (TEv T Wx (fBM is hm f fa)) := by
  have hs' := hs
  rw [List.all_cons, Bool.and_eq_true] at hs'
  exact PEimp (pe_bm pa slot hty hM ho ha (base_of hre) (few_of hs hl) hp (star_of hs'.1) (stars_of hs'.2)) (hK ▸ tBM_of hi)
theorem de_bm0 (hK : T.K = X.K) (hi : ∀ {W : Wd} {st : Store} {H : Hp}, Sim T W st H → ∀ {p : PV} {v : V}, Rep T.K W p v → is p st = true → tyV T.K ty v H) (pa : PlainAttrs ty) (slot : Slot ty name id) (hty : typeOf (.builtin id) = pure (.type "method_descriptor"))
    (hM : MtR X id (rM T hm)) (ho : PE X o (TEv T Wx f)) (hre : recvE o = true) (hp : (apos.endLine == pos.line) = true) :
    PE X (.Call (.Attribute o name apos) [] [] pos) (TEv T Wx (fBM is hm f faNil)) := by
  refine PEimp (pe_bm0 pa slot hty hM ho (base_of hre) hp) fun σ H Q q => ?_
  have z := tBM_of (Wx := Wx) hi σ H Q q
  obtain ⟨W, sg, st, S, so, q⟩ := z
  rw [← hK]
  exact ⟨W, sg, st, S, so, q.mono fun p st1 W1 H1 g1 S1 q1 v rv => by
    obtain ⟨t1, W2, sg2, st2, S2, so2, q2⟩ := q1 v rv
    exact ⟨t1, RQ.here q2 S2 [] rfl⟩⟩

/-! ### fields -/
def fFld (l : List Nat) (f : FE) : FE := fun sg st => (f sg st).bind fun p st => match insAt p st with
  | some (_, fs) => match lookF l fs with
    | some z => .ok z st
    | none => .stuck
  | none => .stuck
theorem lookF_mem {l : List Nat} : ∀ {fs : List (List Nat × PV)} {z : PV}, lookF l fs = some z → ∃ f ∈ fs, f.1 = l
  | [], _, h => by cases h
  | (g, p) :: r, z, h => by
    unfold lookF at h
    by_cases q : l = g
    · exact ⟨_, List.mem_cons_self, q.symm⟩
    · rw [if_neg q] at h
      obtain ⟨f, h1, h2⟩ := lookF_mem h
      exact ⟨f, List.mem_cons_of_mem _ h1, h2⟩
theorem de_fld {l : List Nat} (hK : T.K = X.K) (he : PE X e (TEv T Wx f)) (hre : recvE e = true) : PE X (.Attribute e (nmS l) pos) (TEv T Wx (fFld l f)) :=
  PEimp (pe_fld he (base_of hre)) fun σ H Q ⟨W, sg, st, S, so, q⟩ => ⟨W, sg, st, S, so, (RQ.bind q).mono fun p st1 W1 H1 g1 S1 q1 v rv => by
    cases hi : insAt p st1 with
    | none => simp only [hi] at q1; exact q1.elim
    | some z =>
      obtain ⟨c, fs⟩ := z
      simp only [hi] at q1
      cases hm : lookF l fs with
      | none => simp only [hm] at q1; exact q1.elim
      | some z =>
        simp only [hm] at q1
        obtain ⟨n, a, dx, us, rfl, e1, e2, rfl, e3, rf, cl, na⟩ := insAt_at S1 rv hi
        have lk := lookF_at (f := l) rf
        rw [hm] at lk
        obtain ⟨u, lu, ru⟩ := lk
        obtain ⟨g, hg, rfl⟩ := lookF_mem hm
        exact ⟨a, T.cl c, dx, us, u, rfl, e3, hK ▸ cl, hK ▸ na g hg, lu, RQ.here q1 S1 u ru⟩⟩
end
end Pv
/-! Pv, part K: a class is made; dict displays; what is stored into lists, dicts, fields. -/
namespace Pv
open PySem PySem.Spec PyProof.Rows PySem.SeqAt L2

section
variable {X : Cx} {T : Txt} {Wx : WX} {F : FF} {k : Nat} {x m : Str} {p pos apos : Pos} {e o : Expr} {es : List Expr} {f g : FE} {fa : FA}
/-! ### C(..): what __init__ raises is not served -/
def fMake (c : Nat) (F : FF) (fa : FA) : FE := fun sg st => (fa sg st).bind fun ps st => (noX (F (.ref st.length :: ps) (st ++ [.ins c []]))).bind fun z st' => match z with
  | .non => .ok (.ref st.length) st'
  | _ => .stuck
theorem tMake_of {c : Nat} (hC : Cls T.K (T.cl c)) : ∀ σ H Q, TEv T Wx (fMake c F fa) σ H Q → tMake (T.cl c) (spF T F) [] E0 (TAv T Wx fa) σ H Q := fun σ H Q ⟨W, sg, st, S, so, q⟩ =>
  ⟨W, sg, st, S, so, (RQ.bind q).mono fun ps st1 W1 H1 g1 S1 q1 vs rvs x dx hx hdx hne => by
    obtain ⟨g2, S2⟩ := S1.loose hdx (.own x)
    have hx2 : upd H1 dx (.own x) x = none := by rw [upd_ne (Ne.symm hne)]; exact hx
    obtain ⟨g3, S3, e3⟩ := S2.boxed hx2 (.ins (T.cl c) dx []) (c := .ins c []) ⟨dx, [], upd_same, rfl, hC, fun _ h => absurd h (by simp)⟩
    have g13 := g2.trans g3
    rw [List.append_nil]
    refine ⟨⟨W1.F, W1.ρ ++ [x]⟩, .ref st1.length :: ps, st1 ++ [.ins c []], S3, ⟨.ref x, vs, rfl, ⟨x, e3, rfl⟩, rvs.up g13.le⟩, ?_⟩
    cases hF : F (.ref st1.length :: ps) (st1 ++ [.ins c []]) with
    | stuck => rw [hF] at q1; exact q1.elim
    | ex x s => rw [hF] at q1; exact q1.elim
    | ok z st2 =>
      rw [hF] at q1
      intro W4 H4 g4 S4 v rv
      cases z with
      | non =>
        cases rv
        refine ⟨rfl, ?_⟩
        exact (show RQ T Wx σ W1 H1 (R.ok (PV.ref st1.length) st2) _ from q1) W4 H4 (g13.trans g4) S4 _ ⟨x, g4.le.ρ _ _ e3, rfl⟩
      | _ => exact q1.elim⟩
theorem de_make {c : Nat} (h : Ma1 X.prog X.w X.K X.mg X.base T k x c F) (hK : T.K = X.K) (hr : Room (k + 1) X.A) (hg : Gl X x) (ha : PA X (e :: es) (TAv T Wx fa)) (hs : (e :: es).all notStar = true) (hd : (x == ("__debug__" : Str)) = false) :
    PE X (.Call (.Name x p) (e :: es) [] pos) (TEv T Wx (fMake c F fa)) := by
  obtain ⟨f, fd, ps, F1, hm, hk, hb, hC⟩ := h.ex
  rw [List.all_cons, Bool.and_eq_true] at hs
  exact PEimp (pe_make hm F1 hr hg hk hb .nil passL ha hd (star_of hs.1) (stars_of hs.2)) (tMake_of (hK ▸ hC))
theorem de_make0 {c : Nat} (h : Ma1 X.prog X.w X.K X.mg X.base T k x c F) (hK : T.K = X.K) (hr : Room (k + 1) X.A) (hg : Gl X x) (hd : (x == ("__debug__" : Str)) = false) :
    PE X (.Call (.Name x p) [] [] pos) (TEv T Wx (fMake c F faNil)) := by
  obtain ⟨f, fd, ps, F1, hm, hk, hb, hC⟩ := h.ex
  refine PEimp (pe_make0 hm F1 hr hg hk hb .nil passL hd) fun σ H Q q => ?_
  obtain ⟨W, sg, st, S, so, q⟩ := tMake_of (Wx := Wx) (hK ▸ hC) σ H Q q
  exact RQ.here q S [] rfl

/-! ### dict displays -/
def fDNew (bx : Bool) : FE := fun _ st => .ok (newD bx [] [] st).1 (newD bx [] [] st).2
theorem de_dnew (bx : Bool) : PE X (.Dict [] [] pos) (TEv T Wx (fDNew bx)) :=
  PEimp pe_dnewK fun σ H Q ⟨W, sg, st, S, so, q⟩ => PostS.newD (bx := bx) (ks := []) (vs := []) (kvs := []) (show PostS T W H (newD bx [] [] st) Q from q) S rfl rfl
def fPs : List (FE × FE) → Sig → Store → R (List (PV × PV))
  | [], _, st => .ok [] st
  | (f, g) :: r, sg, st => (f sg st).bind fun a st => (g sg st).bind fun b st => (fPs r sg st).bind fun l st => .ok ((a, b) :: l) st
def RepPs (K : PySem.W.Frag) (W : Wd) : List (PV × PV) → List (V × V) → Prop
  | [], vs => vs = []
  | (a, b) :: r, vs => ∃ u v t, vs = (u, v) :: t ∧ Rep K W a u ∧ Rep K W b v ∧ RepPs K W r t
theorem tPairs_of : ∀ (prs : List (FE × FE)) (σ : L2.St) (H : Hp) (Q : List (V × V) → Hp → Prop) (W : Wd) (sg : Sig) (st : Store), Sim T W st H → SigOk T.K W sg σ →
    RQ T Wx σ W H (fPs prs sg st) (fun l st' W' H' => ∀ vs, RepPs T.K W' l vs → Q vs H') → tPairs (prs.map fun fg => (TEv T Wx fg.1, TEv T Wx fg.2)) σ H Q
  | [], σ, H, Q, W, sg, st, S, so, q => RQ.here q S [] rfl
  | (f, g) :: r, σ, H, Q, W, sg, st, S, so, q => ⟨W, sg, st, S, so, (RQ.bind q).mono fun a st1 W1 H1 g1 S1 q1 u ru => ⟨W1, sg, st1, S1, so.up g1.le, (RQ.bind q1).mono fun b st2 W2 H2 g2 S2 q2 v rv =>
      tPairs_of r σ H2 _ W2 sg st2 S2 (so.up (g1.le.trans g2.le)) ((RQ.bind q2).mono fun l st3 W3 H3 g3 S3 q3 vs rvs => RQ.here q3 S3 ((u, v) :: vs) ⟨u, v, vs, rfl, ru.up (g2.le.trans g3.le), rv.up g3.le, rvs⟩)⟩⟩
def foldD : List (PV × PV) → List PV → List PV → Option (List PV × List PV)
  | [], ks, vs => some (ks, vs)
  | (k, v) :: r, ks, vs => if (keyOf k).isSome then foldD r (putDk k ks) (putDv k v ks vs) else none
theorem foldD_at {K : PySem.W.Frag} {W : Wd} : ∀ {l : List (PV × PV)} {us : List (V × V)} {ks vs : List PV} {kvs : List (Key × V)} {out : List PV × List PV}, RepPs K W l us → RepK ks (kvs.map (·.1)) → Reps K W vs (kvs.map (·.2)) → foldD l ks vs = some out →
    ∃ more : List (Key × V), us = more.map (fun kv => (kV kv.1, kv.2)) ∧ more.length = l.length ∧ RepK out.1 ((mergeK kvs more).map (·.1)) ∧ Reps K W out.2 ((mergeK kvs more).map (·.2))
  | [], us, ks, vs, kvs, out, r, rk, rv, h => by
    cases r; cases h
    exact ⟨[], rfl, rfl, rk, rv⟩
  | (a, b) :: l, us, ks, vs, kvs, out, ⟨u, v, t, e, ru, rb, rt⟩, rk, rv, h => by
    subst e
    unfold foldD at h
    cases hk : keyOf a with
    | none => rw [hk] at h; cases h
    | some k =>
      have h : foldD l (putDk a ks) (putDv a b ks vs) = some out := by simpa [hk] using h
      obtain ⟨h1, h2⟩ := putD_at (repK1_of ru hk) rb rk rv
      obtain ⟨more, e, hl, m1, m2⟩ := foldD_at rt h1 h2 h
      exact ⟨(k, v) :: more, by rw [e, keyOf_V ru hk]; rfl, by simp [hl], m1, m2⟩
def fDisp (bx : Bool) (prs : List (FE × FE)) : FE := fun sg st => (fPs prs sg st).bind fun l st => if l.length ≤ 15 then match foldD l [] [] with
  | some (ks, vs) => .ok (newD bx ks vs st).1 (newD bx ks vs st).2
  | none => .stuck else .stuck
/-- a new object that stood loose is now a value of the evaluator -/
theorem Go.adoptU {W W1 W2 : Wd} {H H1 : Hp} {d : Addr} {o : HO} (g : Go W H W1 H1) (hd : H d = none) (l : W1.Le W2) (k : ∀ b, b ≠ d → W1.F b = none → b ∉ W1.ρ → W2.F b = none ∧ b ∉ W2.ρ) : Go W H W2 (upd H1 d o) :=
  ⟨g.le.trans l, fun b u e1 e2 e3 => by
    obtain ⟨q1, q2, q3⟩ := g.keep b u e1 e2 e3
    have : b ≠ d := fun z => by subst z; rw [hd] at e1; cases e1
    exact ⟨(upd_ne this).trans q1, k b this q2 q3⟩⟩
theorem de_disp (bx : Bool) {keys : List (Option Expr)} {values : List Expr} {prs : List (FE × FE)} (h : PPs X pos keys values (prs.map fun fg => (TEv T Wx fg.1, TEv T Wx fg.2))) (hall : keys.all (·.isSome) = true) (hl : keys.length = values.length) (h0 : keys ≠ []) (h15 : keys.length ≤ 15) :
    PE X (.Dict keys values pos) (TEv T Wx (fDisp bx prs)) :=
  PEimp (pe_disp h hall hl h0 h15) fun σ H Q ⟨W, sg, st, S, so, q⟩ d hd => by
    obtain ⟨gD, SD⟩ := S.loose hd (.dK [])
    refine tPairs_of prs σ _ _ W sg st SD so ?_
    have q : RQ T Wx σ W H ((fPs prs sg st).bind fun l st => if l.length ≤ 15 then match foldD l [] [] with
      | some (ks, vs) => .ok (newD bx ks vs st).1 (newD bx ks vs st).2
      | none => .stuck else .stuck) fun p st' W' H' => ∀ v, Rep T.K W' p v → Q v H' := q
    cases hr : fPs prs sg st with
    | stuck => rw [hr] at q; exact q.elim
    | ex x s => rw [hr] at q; exact fun W' H' cls d' g S' at_ => q W' H' cls d' (gD.trans g) S' at_
    | ok l st1 =>
      rw [hr] at q
      have q1 : RQ T Wx σ W H (if l.length ≤ 15 then match foldD l [] [] with
        | some (ks, vs) => R.ok (newD bx ks vs st1).1 (newD bx ks vs st1).2
        | none => .stuck else .stuck) fun p st' W' H' => ∀ v, Rep T.K W' p v → Q v H' := q
      intro W1 H1 g1 S1 us rus
      by_cases h15 : l.length ≤ 15
      rotate_left
      · rw [if_neg h15] at q1; exact q1.elim
      rw [if_pos h15] at q1
      cases hf : foldD l [] [] with
      | none => simp only [hf] at q1; exact q1.elim
      | some out =>
        obtain ⟨ks, vs⟩ := out
        simp only [hf] at q1
        obtain ⟨more, e, hl, m1, m2⟩ := foldD_at (kvs := []) (ks := []) (vs := []) rus rfl rfl hf
        have hnr : d ∉ W.ρ := fun z => S.dom d z hd
        obtain ⟨k1, k2, k3⟩ := g1.keep d _ upd_same (S.fresh hd) hnr
        refine ⟨k1, more, e, by omega, ?_⟩
        have SU := S1.loosen k2 k3 (.dK (mergeK [] more))
        have gb := gD.trans g1
        cases bx with
        | false =>
          obtain ⟨l2, S2⟩ := SU.adopt k2 k3 upd_same
          exact q1 _ _ (gb.adoptU hd l2 fun b nb z1 z2 => ⟨(upd_ne nb).trans z1, z2⟩) S2 _ ⟨d, _, rfl, upd_same, m1, m2.up l2⟩
        | true =>
          obtain ⟨l2, S2, e2⟩ := SU.adoptB k2 k3 (by rw [upd_same]; simp) (c := .dic ks vs) ⟨_, upd_same, m1, m2⟩
          exact q1 _ _ (gb.adoptU hd l2 fun b nb z1 z2 => ⟨z1, by rw [List.mem_append]; exact fun z => z.elim z2 fun z => nb (by simpa using z)⟩) S2 _ ⟨d, e2, rfl⟩
theorem dps_nil : PPs X pos [] [] (([] : List (FE × FE)).map fun fg => (TEv T Wx fg.1, TEv T Wx fg.2)) := pps_nil
theorem dps_cons {a b : Expr} {ks : List (Option Expr)} {vs : List Expr} {prs : List (FE × FE)} (h1 : PE X a (TEv T Wx f)) (h2 : PE X b (TEv T Wx g)) (h : PPs X pos ks vs (prs.map fun fg => (TEv T Wx fg.1, TEv T Wx fg.2))) :
    PPs X pos (some a :: ks) (b :: vs) (((f, g) :: prs).map fun fg => (TEv T Wx fg.1, TEv T Wx fg.2)) := pps_cons h1 h2 h

/-! ### stores: o[i] = v -/
def setP (o i v : PV) (st : Store) : Option Store := match o with
  | .ref n => match st[n]? with
    | some (.lst xs) => match i with
      | .int j => (ixN xs.length j).map fun m => st.set n (.lst (xs.set m v))
      | _ => none
    | some (.dic ks vs) => if ks.length < sizeLine then (keyOf i).map fun _ => st.set n (.dic (putDk i ks) (putDv i v ks vs)) else none
    | _ => none
  | _ => none
def rSet (T : Txt) : TSet := fun o i v H Q => ∃ W st po pi pv st', Sim T W st H ∧ Rep T.K W po o ∧ Rep T.K W pi i ∧ Rep T.K W pv v ∧ setP po pi pv st = some st' ∧ ∀ W' H', Go W H W' H' → Sim T W' st' H' → Q H'
theorem PSet.or {t t' : TSet} (h : PSet X t) (h' : PSet X t') : PSet X fun o i v H Q => t o i v H Q ∨ t' o i v H Q := fun pins s σ H o i v ov iv u Q I ro ri rv q => q.elim (h pins s σ H o i v ov iv u Q I ro ri rv) (h' pins s σ H o i v ov iv u Q I ro ri rv)
theorem PSet.imp {t t' : TSet} (h : PSet X t) (i : ∀ a b c H Q, t' a b c H Q → t a b c H Q) : PSet X t' := fun pins s σ H o j v ov iv u Q I ro ri rv q => h pins s σ H o j v ov iv u Q I ro ri rv (i _ _ _ _ _ q)
theorem setP_ok (hu : X.A.units + 1 < cLine) : PSet X (rSet T) :=
  PSet.imp (PSet.or set_list (set_dict hu)) fun o i v H Q ⟨W, st, po, pi, pv, st', S, ro, ri, rv, h, k⟩ => by
    cases po with
    | ref n =>
      obtain ⟨a, e, rfl⟩ := ro
      cases hc : st[n]? with
      | none => simp only [setP, hc] at h; cases h
      | some c =>
        cases c with
        | lst xs =>
          simp only [setP, hc] at h
          obtain ⟨vs, hH, rs⟩ := S.cell n a _ e hc
          cases pi with
          | int j =>
            cases ri
            simp only [] at h
            cases hj : ixN xs.length j with
            | none => rw [hj] at h; cases h
            | some m =>
              rw [hj] at h
              cases h
              obtain ⟨g, S'⟩ := S.write e hc rfl (.lst (vs.set m v)) (c' := .lst (xs.set m pv)) ⟨_, upd_same, rs.set m rv⟩
              exact .inl ⟨a, vs, j, m, rfl, rfl, hH, by rw [Reps.length rs]; exact hj, k _ _ g S'⟩
          | _ => simp only [] at h; cases h
        | dic ks vs =>
          simp only [setP, hc] at h
          obtain ⟨kvs, hH, rk, rs⟩ := S.cell n a _ e hc
          by_cases hz : ks.length < sizeLine
          · rw [if_pos hz] at h
            cases hk : keyOf pi with
            | none => rw [hk] at h; cases h
            | some k' =>
              rw [hk] at h
              cases h
              obtain ⟨h1, h2⟩ := putD_at (repK1_of ri hk) rv rk rs
              obtain ⟨g, S'⟩ := S.write e hc rfl (.dK (putK kvs k' v)) (c' := .dic (putDk pi ks) (putDv pi pv ks vs)) ⟨_, upd_same, h1, h2⟩
              have hl : kvs.length = ks.length := by have := rk.length; simpa using this
              exact .inr ⟨a, _, rfl, by rw [keyOf_V ri hk]; exact DPut.k hH (by omega), k _ _ g S'⟩
          · rw [if_neg hz] at h; cases h
        | _ => simp only [setP, hc] at h; cases h
    | _ => cases h
def liftU (sg : Sig) (o : Option Store) : R Sig := match o with
  | some st => .ok sg st
  | none => .stuck
def gtSub (f g : FE) : FG := fun v sg st => noX ((f sg st).bind fun a st => (g sg st).bind fun i st => liftU sg (setP a i v st))
theorem noX_not {α : Type} {r : R α} {x : Exc} {st : Store} : noX r ≠ .ex x st := by cases r <;> simp [noX]
theorem RQ.noX {W : Wd} {H : Hp} {σ : L2.St} {α : Type} {r : R α} {kk : α → Store → Wd → Hp → Prop} (h : RQ T Wx σ W H (Pv.noX r) kk) : RQ T Wx σ W H r kk := by
  cases r with
  | ex x st => exact h.elim
  | ok a st => exact h
  | stuck => exact h
theorem gtSub_not {p : PV} {sg : Sig} {st st' : Store} {x : Exc} : gtSub f g p sg st ≠ .ex x st' := noX_not
theorem astore_of {o i : Expr} (h : plainIx i = true) (env : Env) (v : Value) : assign (.Subscript o i pos) env v = (do
      let ov ← holding [v] (eval o env)
      let iv ← holding [v, ov] (eval i env)
      standAt pos
      holding [v, ov, iv] (setItem ov iv v)
      release [v, ov, iv] []) := by
  cases i with
  | Slice lo hi st p => cases st <;> cases h
  | _ => rfl
theorem dg_sub {o i : Expr} (hu : X.A.units + 1 < cLine) (ho : PE X o (TEv T Wx f)) (hi : PE X i (TEv T Wx g)) (h : plainIx i = true) : PG X (.Subscript o i pos) (TGv T Wx [] (gtSub f g)) :=
  PGimp (pg_sub ho hi (setP_ok (T := T) hu) (astore_of h X.env)) fun v σ H Q ⟨W, sg, st, p, S, so, r, q⟩ =>
    ⟨W, sg, st, S, so, (RQ.bind (RQ.noX q)).mono fun a st1 W1 H1 g1 S1 q1 u ru => ⟨W1, sg, st1, S1, so.up g1.le, (RQ.bind q1).mono fun b st2 W2 H2 g2 S2 q2 w rw' => by
      cases hs : setP a b p st2 with
      | none => rw [hs] at q2; exact q2.elim
      | some st3 =>
        rw [hs] at q2
        exact ⟨W2, st2, a, b, p, st3, S2, ru.up g2.le, rw', r.up (g1.le.trans g2.le), hs, fun W' H' g' S' => q2 W' H' g' S' σ (so.up (g1.le.trans (g2.le.trans g'.le))) (.refl _ _)⟩⟩⟩

/-! ### stores: o.f = v -/
def putL (f : List Nat) (v : PV) : List (List Nat × PV) → List (List Nat × PV)
  | [] => [(f, v)]
  | (g, x) :: r => if g = f then (g, v) :: r else (g, x) :: putL f v r
theorem putL_at {K : PySem.W.Frag} {W : Wd} {f : List Nat} {p : PV} {v : V} (rv : Rep K W p v) : ∀ {fs : List (List Nat × PV)} {us : List (Str × V)}, RepF K W fs us → RepF K W (putL f p fs) (putF (nmS f) v us)
  | [], _, h => by cases h; exact ⟨v, [], rfl, rv, rfl⟩
  | (g, x) :: r, _, ⟨u, t, e, ru, rt⟩ => by
    subst e
    unfold putL putF
    by_cases q : g = f
    · rw [if_pos q, if_pos (congrArg nmS q)]
      exact ⟨v, t, rfl, rv, rt⟩
    · rw [if_neg q, if_neg (fun z => q (nmS_inj z))]
      exact ⟨u, _, rfl, ru, putL_at rv rt⟩
theorem RepF.length {K : PySem.W.Frag} {W : Wd} : ∀ {fs : List (List Nat × PV)} {us : List (Str × V)}, RepF K W fs us → us.length = fs.length
  | [], _, h => by cases h; rfl
  | (_, _) :: _, _, ⟨_, _, e, _, t⟩ => by subst e; simp [RepF.length t]
/-- the names that a class's instances may take as fields -/
def setF (ok : Nat → Bool) (l : List Nat) (o v : PV) (st : Store) : Option Store := match o with
  | .ref n => match st[n]? with
    | some (.ins c fs) => if ok c && decide (fs.length < 1000) then some (st.set n (.ins c (putL l v fs))) else none
    | _ => none
  | _ => none
theorem mem_putL {f : List Nat} {v : PV} : ∀ {fs : List (List Nat × PV)} {x}, x ∈ putL f v fs → x.1 = f ∨ ∃ y ∈ fs, y.1 = x.1
  | [], x, h => by simp [putL] at h; exact .inl (by rw [h])
  | (g, y) :: r, x, h => by
    unfold putL at h
    by_cases q : g = f
    · rw [if_pos q] at h
      rcases List.mem_cons.mp h with h | h
      · exact .inl (by rw [h]; exact q)
      · exact .inr ⟨x, List.mem_cons_of_mem _ h, rfl⟩
    · rw [if_neg q] at h
      rcases List.mem_cons.mp h with h | h
      · exact .inr ⟨(g, y), List.mem_cons_self, by rw [h]⟩
      · rcases mem_putL h with z | ⟨y, h1, h2⟩
        · exact .inl z
        · exact .inr ⟨y, List.mem_cons_of_mem _ h1, h2⟩
theorem setF_at {ok : Nat → Bool} {l : List Nat} {W : Wd} {st st' : Store} {H : Hp} (hok : ∀ c, ok c = true → NoAttr T.K (T.cl c) (nmS l)) (S : Sim T W st H) {o v : PV} {ov vv : V} (ro : Rep T.K W o ov) (rv : Rep T.K W v vv) (h : setF ok l o v st = some st') :
    ∃ a C dx us, ov = .ref a ∧ H a = some (.ins C dx us) ∧ Cls T.K C ∧ NoAttr T.K C (nmS l) ∧ us.length < 1000 ∧ Go W H W (upd H a (.ins C dx (putF (nmS l) vv us))) ∧ Sim T W st' (upd H a (.ins C dx (putF (nmS l) vv us))) := by
  cases o with
  | ref n =>
    obtain ⟨a, e, rfl⟩ := ro
    cases hc : st[n]? with
    | none => simp only [setF, hc] at h; cases h
    | some c =>
      cases c with
      | ins c fs =>
        simp only [setF, hc] at h
        by_cases hk : (ok c && decide (fs.length < 1000)) = true
        rotate_left
        · rw [if_neg hk] at h; cases h
        rw [if_pos hk] at h
        cases h
        rw [Bool.and_eq_true] at hk
        obtain ⟨dx, us, hH, rf, cl, na⟩ := S.cell n a _ e hc
        have hn := hok c hk.1
        obtain ⟨g, S'⟩ := S.write e hc rfl (.ins (T.cl c) dx (putF (nmS l) vv us)) (c' := .ins c (putL l v fs)) ⟨dx, _, upd_same, putL_at rv rf, cl, fun x hx => by
          rcases mem_putL hx with z | ⟨y, h1, h2⟩
          · rw [z]; exact hn
          · rw [← h2]; exact na y h1⟩
        exact ⟨a, _, dx, us, rfl, hH, cl, hn, by rw [RepF.length rf]; exact of_decide_eq_true hk.2, g, S'⟩
      | _ => simp only [setF, hc] at h; cases h
  | _ => cases h
end
end Pv
/-! Pv, part L: statements. -/
namespace Pv
open PySem PySem.Spec PyProof.Rows PySem.SeqAt L2

inductive SR where
  | nx (sg : Sig) (st : Store) | rt (p : PV) (st : Store) | bk (sg : Sig) (st : Store) | ct (sg : Sig) (st : Store) | ex (x : Exc) (sg : Sig) (st : Store) | stuck
abbrev FS := Sig → Store → SR
def SQ (T : Txt) (Wx : WX) (D : Ends) (W : Wd) (H : Hp) : SR → Prop
  | .nx sg st => ∀ W' H' σ', Go W H W' H' → Sim T W' st H' → SigOk T.K W' sg σ' → D.nx σ' H'
  | .bk sg st => ∀ W' H' σ', Go W H W' H' → Sim T W' st H' → SigOk T.K W' sg σ' → D.bk σ' H'
  | .ct sg st => ∀ W' H' σ', Go W H W' H' → Sim T W' st H' → SigOk T.K W' sg σ' → D.ct σ' H'
  | .rt p st => ∀ W' H' v, Go W H W' H' → Sim T W' st H' → Rep T.K W' p v → D.rt v H'
  | .ex x sg st => ∀ W' H' σ' cls d, Go W H W' H' → Sim T W' st H' → SigOk T.K W' sg σ' → ExcAt T W' H' x cls d → Wx cls d σ' H'
  | .stuck => False
@[inline] def bindE {α : Type} (r : R α) (sg : Sig) (k : α → Store → SR) : SR := match r with
  | .ok a st => k a st
  | .ex x st => .ex x sg st
  | .stuck => .stuck
def TSv (T : Txt) (Wx : WX) (f : FS) : TS := fun D σ H => ∃ W sg st, Sim T W st H ∧ SigOk T.K W sg σ ∧ SQ T Wx D W H (f sg st)
section
variable {T : Txt} {Wx : WX} {D : Ends} {W W1 : Wd} {H H1 : Hp} {σ : L2.St} {α : Type}
theorem SQ.later {r : SR} (h : SQ T Wx D W H r) (g : Go W H W1 H1) : SQ T Wx D W1 H1 r := by
  cases r with
  | nx sg st => exact fun W' H' σ' g' => h W' H' σ' (g.trans g')
  | bk sg st => exact fun W' H' σ' g' => h W' H' σ' (g.trans g')
  | ct sg st => exact fun W' H' σ' g' => h W' H' σ' (g.trans g')
  | rt p st => exact fun W' H' v g' => h W' H' v (g.trans g')
  | ex x sg st => exact fun W' H' σ' cls d g' => h W' H' σ' cls d (g.trans g')
  | stuck => exact h
theorem SQ.bindE {r : R α} {sg : Sig} {k : α → Store → SR} (h : SQ T Wx D W H (Pv.bindE r sg k)) (so : SigOk T.K W sg σ) : RQ T Wx σ W H r fun a st' W' H' => SQ T Wx D W' H' (k a st') := by
  cases r with
  | ok a st => exact fun W' H' g S => SQ.later (show SQ T Wx D W H (k a st) from h) g
  | ex x st => exact fun W' H' cls d g S at_ => h W' H' σ cls d g S (so.up g.le) at_
  | stuck => exact h
theorem SQ.nx_here {sg : Sig} {st : Store} (h : SQ T Wx D W H (.nx sg st)) (S : Sim T W st H) (so : SigOk T.K W sg σ) : D.nx σ H := h W H σ (.refl W H) S so
end
section
variable {X : Cx} {T : Txt} {Wx : WX} {st : Stmt} {rest : List Stmt} {pos : Pos} {e o c : Expr} {f g : FE} {ft : FT} {fa : FA} {u v : FS}
def fsStuck : FS := fun _ _ => .stuck
theorem ds_never : PS X st (TSv T Wx fsStuck) := PSimp ps_never fun D σ H ⟨_, _, _, _, _, q⟩ => q
theorem dss_never : PSs X rest (TSv T Wx fsStuck) := PSsimp pss_never fun D σ H ⟨_, _, _, _, _, q⟩ => q
def fsNil : FS := fun sg st => .nx sg st
theorem tNext_of : ∀ D σ H, TSv T Wx fsNil D σ H → tNext D σ H := fun D σ H ⟨W, sg, st, S, so, q⟩ => SQ.nx_here q S so
theorem dss_nil : PSs X [] (TSv T Wx fsNil) := PSsimp pss_nil tNext_of
theorem ds_pass : PS X (.Pass pos) (TSv T Wx fsNil) := PSimp ps_pass tNext_of
theorem ds_doc {x j pos'} : PS X (.Expr (.Constant (.str x) j pos) pos') (TSv T Wx fsNil) := PSimp ps_doc tNext_of
def seqR (r : SR) (v : FS) : SR := match r with
  | .nx sg st => v sg st
  | r => r
def fsSeq (u v : FS) : FS := fun sg st => seqR (u sg st) v
theorem tSeq_of : ∀ D σ H, TSv T Wx (fsSeq u v) D σ H → tSeq (TSv T Wx u) (TSv T Wx v) D σ H := fun D σ H ⟨W, sg, st, S, so, q⟩ => by
  refine ⟨W, sg, st, S, so, ?_⟩
  have q : SQ T Wx D W H (seqR (u sg st) v) := q
  cases hu : u sg st with
  | nx sg1 st1 => rw [hu] at q; exact fun W' H' σ' g S' so' => ⟨W', sg1, st1, S', so', SQ.later q g⟩
  | bk sg1 st1 => rw [hu] at q; exact q
  | ct sg1 st1 => rw [hu] at q; exact q
  | rt p st1 => rw [hu] at q; exact q
  | ex x sg1 st1 => rw [hu] at q; exact q
  | stuck => rw [hu] at q; exact q
theorem dss_cons (h1 : PS X st (TSv T Wx u)) (h2 : PSs X rest (TSv T Wx v)) : PSs X (st :: rest) (TSv T Wx (fsSeq u v)) := PSsimp (pss_cons h1 h2) tSeq_of
theorem dss_one (h1 : PS X st (TSv T Wx u)) : PSs X [st] (TSv T Wx u) := pss_one h1
def fsBk : FS := fun sg st => .bk sg st
def fsCt : FS := fun sg st => .ct sg st
theorem ds_break : PS X (.Break pos) (TSv T Wx fsBk) := PSimp ps_break fun D σ H ⟨W, sg, st, S, so, q⟩ => q W H σ (.refl W H) S so
theorem ds_cont : PS X (.Continue pos) (TSv T Wx fsCt) := PSimp ps_continue fun D σ H ⟨W, sg, st, S, so, q⟩ => q W H σ (.refl W H) S so
def fsRet (f : FE) : FS := fun sg st => bindE (f sg st) sg fun p st => .rt p st
theorem ds_ret (h : PE X e (TEv T Wx f)) : PS X (.Return (some e) pos) (TSv T Wx (fsRet f)) := PSimp (ps_ret h) fun D σ H ⟨W, sg, st, S, so, q⟩ =>
  ⟨W, sg, st, S, so, (SQ.bindE q so).mono fun p st1 W1 H1 g1 S1 q1 v rv => q1 W1 H1 v (.refl _ _) S1 rv⟩
def fsRetN : FS := fun _ st => .rt .non st
theorem ds_retN : PS X (.Return none pos) (TSv T Wx fsRetN) := PSimp ps_retN fun D σ H ⟨W, sg, st, S, so, q⟩ => q W H .non (.refl _ _) S rfl
def fsIf (c : FT) (u v : FS) : FS := fun sg st => bindE (c sg st) sg fun b st => if b then u sg st else v sg st
theorem ds_if {a b : List Stmt} (hc : PT X c (TTv T Wx ft)) (ha : PSs X a (TSv T Wx u)) (hb : PSs X b (TSv T Wx v)) : PS X (.If c a b pos) (TSv T Wx (fsIf ft u v)) := PSimp (ps_if hc ha hb) fun D σ H ⟨W, sg, st, S, so, q⟩ =>
  ⟨W, sg, st, S, so, (SQ.bindE q so).mono fun bb st1 W1 H1 g1 S1 q1 => by
    cases bb with
    | true => rw [if_pos rfl]; exact ⟨W1, sg, st1, S1, so.up g1.le, q1⟩
    | false => rw [if_neg Bool.false_ne_true]; exact ⟨W1, sg, st1, S1, so.up g1.le, q1⟩⟩
/-- not a comprehension -/
def noComp : Expr → Bool
  | .ListComp _ _ _ _ => false
  | .SetComp _ _ _ _ => false
  | .DictComp _ _ _ _ _ => false
  | _ => true
theorem swaps_of {e : Expr} (h : noComp e = true) (tg : Option Expr) (l : Nat) (env : Env) : swapsWith e tg l env = pure false := by
  cases e <;> first | rfl | cases h
def fsDrop (f : FE) : FS := fun sg st => bindE (f sg st) sg fun _ st => .nx sg st
theorem ds_expr (h : PE X e (TEv T Wx f)) (hn : noComp e = true) : PS X (.Expr e pos) (TSv T Wx (fsDrop f)) := PSimp (ps_expr h (swaps_of hn _ _ _)) fun D σ H ⟨W, sg, st, S, so, q⟩ =>
  ⟨W, sg, st, S, so, (SQ.bindE q so).mono fun p st1 W1 H1 g1 S1 q1 v rv => q1 W1 H1 σ (.refl _ _) S1 (so.up g1.le)⟩

/-! ### target = value -/
def fsAsg (f : FE) (g : FG) : FS := fun sg st => bindE (f sg st) sg fun p st => bindE (g p sg st) sg fun sg st => .nx sg st
variable {tg : Expr} {gt : FG} {ws : List Nat}
theorem tAsg_of : ∀ D σ H, TSv T Wx (fsAsg f gt) D σ H → tAsg (TEv T Wx f) (TGv T Wx ws gt) D σ H := fun D σ H ⟨W, sg, st, S, so, q⟩ =>
  ⟨W, sg, st, S, so, (SQ.bindE q so).mono fun p st1 W1 H1 g1 S1 q1 v rv => ⟨W1, sg, st1, p, S1, so.up g1.le, rv, (SQ.bindE q1 (so.up g1.le)).mono fun sg2 st2 W2 H2 g2 S2 q2 σ' so' _ => q2 W2 H2 σ' (.refl _ _) S2 so'⟩⟩
/-- a pair of displays aside, nothing is stored from the right -/
def noPair (tg e : Expr) : Bool := match tg, e with
  | .Tuple _ _ _, .Tuple _ _ _ => false
  | .List _ _, .Tuple _ _ _ => false
  | _, _ => true
theorem noPair_of {tg e : Expr} (h : noPair tg e = true) (env : Env) : swappedStores [tg] e env = pure none := by
  cases tg <;> cases e <;> first | rfl | cases h
/-- where a comprehension's own list goes straight into the name -/
def noSwap (sc : Scope) (tg e : Expr) : Bool := match e with
  | .ListComp _ _ s p => match tg with
    | .Name t q => !(sc.names.lookup t == some .local && q.line == p.line && !(s.names.any fun (n, k) => n == t && (k == .local || k == .cell)))
    | _ => true
  | .SetComp _ _ _ _ => false
  | .DictComp _ _ _ _ _ => false
  | _ => true
theorem noSwap_of {sc : Scope} {tg e : Expr} {l : Nat} {env : Env} (hs : env.scope = sc) (hk : sc.kind = .function) (h : noSwap sc tg e = true) : swapsWithSole [tg] e l env = pure false := by
  subst hs
  cases e with
  | ListComp elt gs s p =>
    cases tg with
    | Name t q =>
      show swapsWith (.ListComp elt gs s p) (some (.Name t q)) l env = pure false
      unfold swapsWith
      have hb : env.blockKind = .function := by unfold Env.blockKind; rw [hk]; rfl
      simp only [noSwap, Bool.not_eq_true'] at h
      simp only [hb, Env.kindOf, Expr.pos]
      have : (env.scope.names.lookup t == some .local && q.line == p.line && !(s.names.any fun (n, k) => n == t && (k == .local || k == .cell))) = false := h
      simp only [beq_self_eq_true, Bool.true_and, this]
    | _ => rfl
  | SetComp _ _ _ _ => cases h
  | DictComp _ _ _ _ _ => cases h
  | _ => rfl
theorem ds_asg {sc : Scope} (hsc : X.env.scope = sc) (hk : sc.kind = .function) (he : PE X e (TEv T Wx f)) (hg : PG X tg (TGv T Wx ws gt)) (h1 : noSwap sc tg e = true) (h2 : noPair tg e = true) (h3 : notStar tg = true) : PS X (.Assign [tg] e pos) (TSv T Wx (fsAsg f gt)) :=
  PSimp (ps_asg he hg (noSwap_of hsc hk h1) (noPair_of h2 X.env) (by rw [assign_of h3]; rfl)) tAsg_of
/-- name = [..], the list goes straight into the name -/
theorem swap_of {sc : Scope} {t : Str} {q : Pos} {e : Expr} {l : Nat} {env : Env} (hs : env.scope = sc) (hk : sc.kind = .function) (h : noSwap sc (.Name t q) e = false) (hl : ∃ a b c d, e = .ListComp a b c d) : swapsWith e (some (.Name t q)) l env = pure true := by
  subst hs
  obtain ⟨elt, gs, s, p, rfl⟩ := hl
  unfold swapsWith
  have hb : env.blockKind = .function := by unfold Env.blockKind; rw [hk]; rfl
  simp only [noSwap, Bool.not_eq_false'] at h
  simp only [hb, Env.kindOf, Expr.pos]
  have : (env.scope.names.lookup t == some .local && q.line == p.line && !(s.names.any fun (n, k) => n == t && (k == .local || k == .cell))) = true := h
  simp only [beq_self_eq_true, Bool.true_and, this]
theorem ds_setLc {sc : Scope} {i : Nat} {y : Str} {py : Pos} {elt tg iter : Expr} {ifs : List Expr} {scope : Scope} {own : List (Str × Nat)} {p2 : Pos} {fi : FA} {g : FG} (bx : Bool) (hsc : X.env.scope = sc) (hk : sc.kind = .function) (hc : X.calm = true) (hN : X.N.Nodup) (hy : X.N[i]? = some y) (hyl : X.env.scope.names.lookup y = some .local)
    (hsw : noSwap sc (.Name y py) (.ListComp elt [⟨tg, iter, ifs, 0⟩] scope p2) = false)
    (hi : PI X tg iter (TIv T Wx fi)) (ok : BlkOk X.N X.env.scope scope own)
    (hg : ∀ (s : Shared) (H : Hp) (C : Addr) (cl : List (Str × Addr)) (fp : List Addr), PG (X.blk s H scope (compEnvC scope cl C X.env) fp) tg (TGv T WxF (own.map (·.2)) g))
    (ht : ∀ (s : Shared) (H : Hp) (C : Addr) (cl : List (Str × Addr)) (fp : List Addr), PTs (X.blk s H scope (compEnvC scope cl C X.env) fp) ifs (TTv T WxF ft))
    (he : ∀ (s : Shared) (H : Hp) (C : Addr) (cl : List (Str × Addr)) (fp : List Addr), PE (X.blk s H scope (compEnvC scope cl C X.env) fp) elt (TEv T WxF f)) (hs : notSet iter = true) :
    PS X (.Assign [.Name y py] (.ListComp elt [⟨tg, iter, ifs, 0⟩] scope p2) pos) (TSv T Wx (fsAsg (fComp bx (own.map (·.2)) fi g ft f) (gtName i))) :=
  PSimp (ps_setLc hc hN hy hyl (swap_of hsc hk hsw ⟨_, _, _, _, rfl⟩) hi ok hg ht he (folded_of hs X.env)) fun D σ H q =>
    tLc_of (Wx := Wx) (bx := bx) σ H _ (show TEv T Wx _ σ H _ from by
      obtain ⟨W, sg, st, S, so, q⟩ := q
      exact ⟨W, sg, st, S, so, (SQ.bindE q so).mono fun p st1 W1 H1 g1 S1 q1 v rv => q1 W1 H1 _ (.refl _ _) S1 ((so.up g1.le).put i rv)⟩)
/-! ### a, b = x, y with plain local names -/
def starQ (vs : List Expr) : Bool := vs.any fun | .Starred .. => true | _ => false
def namesQ (sc : Scope) (ts : List Expr) : List Str := ts.filterMap fun
    | .Name id pos => if sc.names.lookup id == some .local && pos.line == (ts.head?.map (·.pos.line)).getD 0 then some id else none
    | _ => none
def swapQ (sc : Scope) (ts vs : List Expr) : Option (Option (List Str)) :=
  if !(ts.length == 2 || ts.length == 3) || vs.length != ts.length then some none else
  if starQ vs then some none else
  if (namesQ sc ts).length != ts.length || (namesQ sc ts).eraseDups.length != (namesQ sc ts).length then some none else
  if vs.all (foldedForSure 8) then some none else
  if vs.all (constantsAlone 8) then none else some (some (namesQ sc ts))
theorem swapQ_of {sc : Scope} {ts vs : List Expr} {k1 k2 p1 p2} {r : Option (List Str)} {env : Env} (hs : env.scope = sc) (hk : sc.kind = .function) (h : swapQ sc ts vs = some r) : swappedStores [.Tuple ts k1 p1] (.Tuple vs k2 p2) env = pure r := by
  subst hs
  have hb : (env.blockKind != .function) = false := by unfold Env.blockKind; rw [hk]; rfl
  unfold swappedStores
  unfold swapQ at h
  simp only [hb, Bool.or_false, Env.kindOf]
  show (if (!(ts.length == 2 || ts.length == 3) || vs.length != ts.length) = true then pure none else if starQ vs = true then pure none else
    if ((namesQ env.scope ts).length != ts.length || (namesQ env.scope ts).eraseDups.length != (namesQ env.scope ts).length) = true then pure none else
    if vs.all (foldedForSure 8) = true then pure none else if vs.all (constantsAlone 8) = true then _ else pure (some (namesQ env.scope ts))) = pure r
  by_cases c1 : (!(ts.length == 2 || ts.length == 3) || vs.length != ts.length) = true
  · rw [if_pos c1] at h ⊢; cases h; rfl
  rw [if_neg c1] at h ⊢
  by_cases c2 : starQ vs = true
  · rw [if_pos c2] at h ⊢; cases h; rfl
  rw [if_neg c2] at h ⊢
  by_cases c3 : ((namesQ env.scope ts).length != ts.length || (namesQ env.scope ts).eraseDups.length != (namesQ env.scope ts).length) = true
  · rw [if_pos c3] at h ⊢; cases h; rfl
  rw [if_neg c3] at h ⊢
  by_cases c4 : vs.all (foldedForSure 8) = true
  · rw [if_pos c4] at h ⊢; cases h; rfl
  rw [if_neg c4] at h ⊢
  by_cases c5 : vs.all (constantsAlone 8) = true
  · rw [if_pos c5] at h; cases h
  rw [if_neg c5] at h ⊢
  cases h
  rfl
def fsPar (is : List Nat) (fa : FA) : FS := fun sg st => bindE (fa sg st) sg fun ps st => if ps.length = is.length then .nx ((is.zip ps).foldl (fun sg ip => sg.set ip.1 (some ip.2)) sg) st else .stuck
theorem ds_par2 {sc : Scope} {i j : Nat} {x y : Str} {a b : Expr} {px py pt : Pos} {kt k2 pt2} (hsc : X.env.scope = sc) (hk : sc.kind = .function) (hc : X.calm = true) (hN : X.N.Nodup) (hi : X.N[i]? = some x) (hj : X.N[j]? = some y) (hij : i ≠ j)
    (hx : X.env.scope.names.lookup x = some .local) (hy : X.env.scope.names.lookup y = some .local) (ha : PA X [a, b] (TAv T Wx fa)) (hw : swapQ sc [.Name x px, .Name y py] [a, b] = some (some [x, y])) :
    PS X (.Assign [.Tuple [.Name x px, .Name y py] kt pt] (.Tuple [a, b] k2 pt2) pos) (TSv T Wx (fsPar [i, j] fa)) :=
  PSimp (ps_par hc hN hi hj hij hx hy ha (swapQ_of hsc hk hw)) fun D σ H ⟨W, sg, st, S, so, q⟩ => ⟨W, sg, st, S, so, (SQ.bindE q so).mono fun ps st1 W1 H1 g1 S1 q1 vs rvs => by
    by_cases hl : ps.length = [i, j].length
    · rw [if_pos hl] at q1
      match ps, vs, hl, rvs with
      | [p, q], _, _, ⟨v, _, rfl, rv, w, _, rfl, rw', e⟩ =>
        cases e
        exact ⟨v, w, rfl, SQ.nx_here q1 S1 (((so.up g1.le).put i rv).put j rw')⟩
    · rw [if_neg hl] at q1; exact q1.elim⟩
theorem ds_par3 {sc : Scope} {i j l : Nat} {x y z : Str} {a b c : Expr} {px py pz pt : Pos} {kt k2 pt2} (hsc : X.env.scope = sc) (hk : sc.kind = .function) (hc : X.calm = true) (hN : X.N.Nodup) (hi : X.N[i]? = some x) (hj : X.N[j]? = some y) (hl : X.N[l]? = some z) (hij : i ≠ j) (hil : i ≠ l) (hjl : j ≠ l)
    (hx : X.env.scope.names.lookup x = some .local) (hy : X.env.scope.names.lookup y = some .local) (hz : X.env.scope.names.lookup z = some .local) (ha : PA X [a, b, c] (TAv T Wx fa)) (hw : swapQ sc [.Name x px, .Name y py, .Name z pz] [a, b, c] = some (some [x, y, z])) :
    PS X (.Assign [.Tuple [.Name x px, .Name y py, .Name z pz] kt pt] (.Tuple [a, b, c] k2 pt2) pos) (TSv T Wx (fsPar [i, j, l] fa)) :=
  PSimp (ps_par3 hc hN hi hj hl hij hil hjl hx hy hz ha (swapQ_of hsc hk hw)) fun D σ H ⟨W, sg, st, S, so, q⟩ => ⟨W, sg, st, S, so, (SQ.bindE q so).mono fun ps st1 W1 H1 g1 S1 q1 vs rvs => by
    by_cases hl : ps.length = [i, j, l].length
    · rw [if_pos hl] at q1
      match ps, vs, hl, rvs with
      | [p, q, r], _, _, ⟨v, _, rfl, rv, w, _, rfl, rw', u, _, rfl, ru, e⟩ =>
        cases e
        exact ⟨v, w, u, rfl, SQ.nx_here q1 S1 ((((so.up g1.le).put i rv).put j rw').put l ru)⟩
    · rw [if_neg hl] at q1; exact q1.elim⟩
/-- a, b = x, y where a tuple is laid and taken apart -/
theorem ds_asgT {sc : Scope} {ts vs : List Expr} {k1 k2 p1 p2} (hsc : X.env.scope = sc) (hk : sc.kind = .function) (he : PE X (.Tuple vs k2 p2) (TEv T Wx f)) (hg : PG X (.Tuple ts k1 p1) (TGv T Wx ws gt)) (hw : swapQ sc ts vs = some none) :
    PS X (.Assign [.Tuple ts k1 p1] (.Tuple vs k2 p2) pos) (TSv T Wx (fsAsg f gt)) :=
  PSimp (ps_asg he hg (by rfl) (swapQ_of hsc hk hw) (by rfl)) tAsg_of

/-! ### augmented -/
def augP (op : Operator) (p q : PV) (st : Store) : Option PV := match p, q with
  | .int i, .int j => match op with
    | .Add => some (.int (i + j))
    | .Sub => some (.int (i - j))
    | _ => none
  | _, _ => none
def fsAug (i : Nat) (op : Operator) (f : FE) : FS := fun sg st => match sg[i]? with
  | some (some p) => bindE (f sg st) sg fun q st => match augP op p q st with
    | some z => .nx (sg.set i (some z)) st
    | none => .stuck
  | _ => .stuck
def augOk : Operator → Bool
  | .Add => true
  | .Sub => true
  | _ => false
theorem ds_aug {i : Nat} {x : Str} {op : Operator} {pos' : Pos} (hop : augOk op = true) (hN : X.N.Nodup) (hi : X.N[i]? = some x) (hx : Loc X.env.scope x) (he : PE X e (TEv T Wx f)) (hf : X.fn x = true ∨ X.env.scope.names.lookup x = some .local) : PS X (.AugAssign (.Name x pos') op e pos) (TSv T Wx (fsAug i op f)) := by
  have core : ∀ (h : Int → Int → Int), (∀ p q st z, augP op p q st = some z → ∃ i j, p = .int i ∧ q = .int j ∧ z = .int (h i j)) → ∀ D σ H, TSv T Wx (fsAug i op f) D σ H → tAug i (TEv T Wx f) (ipI h) D σ H := fun h hh D σ H ⟨W, sg, st, S, so, q⟩ => by
    unfold fsAug at q
    cases hs : sg[i]? with
    | none => simp only [hs] at q; exact q.elim
    | some o =>
      cases o with
      | none => simp only [hs] at q; exact q.elim
      | some p =>
        simp only [hs] at q
        obtain ⟨v, hv, rv⟩ := so.get i p hs
        refine ⟨v, hv, W, sg, st, S, so, (SQ.bindE q so).mono fun z st1 W1 H1 g1 S1 q1 u ru => ?_⟩
        cases ha : augP op p z st1 with
        | none => simp only [ha] at q1; exact q1.elim
        | some y =>
          simp only [ha] at q1
          obtain ⟨a, b, rfl, rfl, rfl⟩ := hh _ _ _ _ ha
          cases rv; cases ru
          exact ⟨a, b, rfl, rfl, SQ.nx_here q1 S1 ((so.up g1.le).put i (show Rep T.K W1 (.int (h a b)) _ from rfl))⟩
  cases op <;> first | cases hop | skip
  · refine PSimp (ps_aug hN hi hx he ip_add hf) (core (fun i j => i + j) fun p q st z h => ?_)
    cases p <;> cases q <;> first | (cases h; exact ⟨_, _, rfl, rfl, rfl⟩) | cases h
  · refine PSimp (ps_aug hN hi hx he ip_sub hf) (core (fun i j => i - j) fun p q st z h => ?_)
    cases p <;> cases q <;> first | (cases h; exact ⟨_, _, rfl, rfl, rfl⟩) | cases h
end
end Pv
/-! Pv, part M: loops, fields that are set, a def's body. -/
namespace Pv
open PySem PySem.Spec PyProof.Rows PySem.SeqAt L2

section
variable {X : Cx} {T : Txt} {Wx : WX} {st : Stmt} {rest : List Stmt} {pos : Pos} {e o c tg : Expr} {f g : FE} {ft : FT} {fa fi : FA} {u v body : FS} {gt : FG} {ws : List Nat}
/-! ### for -/
def forL (g : FG) (body : FS) : List PV → Sig → Store → SR
  | [], sg, st => .nx sg st
  | p :: ps, sg, st => bindE (g p sg st) sg fun sg1 st1 => match body sg1 st1 with
    | .nx sg st => forL g body ps sg st
    | .ct sg st => forL g body ps sg st
    | .bk sg st => .nx sg st
    | r => r
def fsFor (fi : FA) (g : FG) (body : FS) : FS := fun sg st => bindE (fi sg st) sg fun items st => forL g body items sg st
theorem tFor_of : ∀ D σ H, TSv T Wx (fsFor fi gt body) D σ H → tFor (TIv T Wx fi) (TGv T Wx ws gt) (TSv T Wx body) D σ H := fun D σ H ⟨W, sg, st, S, so, q⟩ =>
  ⟨W, sg, st, S, so, (SQ.bindE q so).mono fun items st1 W1 H1 g1 S1 q1 J hJ => by
    refine ⟨fun i m σ2 H2 => m = items.length - i ∧ i ≤ items.length ∧ ∃ W2 sg2 st2, W1.Le W2 ∧ Sim T W2 st2 H2 ∧ SigOk T.K W2 sg2 σ2 ∧ SQ T Wx D W2 H2 (forL gt body (items.drop i) sg2 st2),
      ⟨items.length, by simp, Nat.zero_le _, W1, sg, st1, .refl _, S1, so.up g1.le, q1⟩, ?_⟩
    rintro i m σ2 H2 ⟨rfl, hi, W2, sg2, st2, l2, S2, so2, q2⟩
    obtain ⟨w1, w2⟩ := hJ W2 st2 H2 i l2 S2
    by_cases hlt : i < items.length
    · obtain ⟨p, hp⟩ : ∃ p, items[i]? = some p := ⟨_, List.getElem?_eq_getElem hlt⟩
      have hdrop : items.drop i = p :: items.drop (i + 1) := by
        rw [List.drop_eq_getElem_cons hlt]
        congr 1
        have := List.getElem?_eq_getElem hlt
        rw [hp] at this
        exact (Option.some.inj this).symm
      obtain ⟨go, yl⟩ := w1 p hp
      rw [hdrop] at q2
      refine .inr ⟨go, fun σ' H' => i + 1 ≤ items.length ∧ ∃ W2 sg2 st2, W1.Le W2 ∧ Sim T W2 st2 H' ∧ SigOk T.K W2 sg2 σ' ∧ SQ T Wx D W2 H' (forL gt body (items.drop (i + 1)) sg2 st2),
        fun σ' H' ⟨h1, h⟩ => ⟨items.length - (i + 1), by omega, rfl, h1, h⟩, fun x H3 y => ?_⟩
      obtain ⟨W3, g3, S3, rx⟩ := yl x H3 y
      have q3 : SQ T Wx D W3 H3 (bindE (gt p sg2 st2) sg2 fun sg1 st1 => match body sg1 st1 with
        | .nx sg st => forL gt body (items.drop (i + 1)) sg st
        | .ct sg st => forL gt body (items.drop (i + 1)) sg st
        | .bk sg st => .nx sg st
        | r => r) := SQ.later q2 g3
      refine ⟨W3, sg2, st2, p, S3, so2.up g3.le, rx, (SQ.bindE q3 (so2.up g3.le)).mono fun sg4 st4 W4 H4 g4 S4 q4 σ4 so4 _ => ⟨W4, sg4, st4, S4, so4, ?_⟩⟩
      have l4 := (l2.trans g3.le).trans g4.le
      cases hb : body sg4 st4 with
      | nx sg5 st5 => rw [hb] at q4; exact fun W' H' σ' g S' so' => ⟨hlt, W', sg5, st5, l4.trans g.le, S', so', SQ.later q4 g⟩
      | ct sg5 st5 => rw [hb] at q4; exact fun W' H' σ' g S' so' => ⟨hlt, W', sg5, st5, l4.trans g.le, S', so', SQ.later q4 g⟩
      | bk sg5 st5 => rw [hb] at q4; exact q4
      | rt p st5 => rw [hb] at q4; exact q4
      | ex x sg5 st5 => rw [hb] at q4; exact q4
      | stuck => rw [hb] at q4; exact q4
    · have hdrop : items.drop i = [] := List.drop_eq_nil_of_le (by omega)
      rw [hdrop] at q2
      exact .inl ⟨w2 (by omega), SQ.nx_here q2 S2 so2⟩⟩
theorem ds_for {iter : Expr} {b : List Stmt} (hp : PassesOwn (model X.prog X.w) X.A X.env X.xe) (hc : X.calm = true) (hi : PI X tg iter (TIv T Wx fi)) (hg : PG X tg (TGv T Wx ws gt)) (hb : PSs X b (TSv T Wx body)) (hs : notSet iter = true) :
    PS X (.For tg iter b [] pos) (TSv T Wx (fsFor fi gt body)) := PSimp (ps_for hp hc hi hg hb (folded_of hs X.env)) tFor_of

/-! ### while: at most so many turns are served -/
def whileN (c : FT) (body : FS) : Nat → FS
  | 0, _, _ => .stuck
  | n + 1, sg, st => bindE (c sg st) sg fun b st1 => if b then (match body sg st1 with
    | .nx sg st => whileN c body n sg st
    | .ct sg st => whileN c body n sg st
    | .bk sg st => .nx sg st
    | r => r) else .nx sg st1
def fuelW : Nat := 1000000000
def fsWhile (c : FT) (body : FS) : FS := fun sg st => whileN c body fuelW sg st
theorem tWhile_of : ∀ D σ H, TSv T Wx (fsWhile ft body) D σ H → tWhile (TTv T Wx ft) (TSv T Wx body) D σ H := fun D σ H ⟨W, sg, st, S, so, q⟩ => by
  refine ⟨fun m σ H => ∃ W sg st, Sim T W st H ∧ SigOk T.K W sg σ ∧ SQ T Wx D W H (whileN ft body m sg st), ⟨fuelW, W, sg, st, S, so, q⟩, ?_⟩
  rintro m σ2 H2 ⟨W2, sg2, st2, S2, so2, q2⟩
  cases m with
  | zero => exact q2.elim
  | succ n =>
    have q2 : SQ T Wx D W2 H2 (bindE (ft sg2 st2) sg2 fun b st1 => if b then (match body sg2 st1 with
      | .nx sg st => whileN ft body n sg st
      | .ct sg st => whileN ft body n sg st
      | .bk sg st => .nx sg st
      | r => r) else .nx sg2 st1) := q2
    refine ⟨W2, sg2, st2, S2, so2, (SQ.bindE q2 so2).mono fun b st3 W3 H3 g3 S3 q3 => ?_⟩
    cases b with
    | false => rw [if_neg Bool.false_ne_true]; exact SQ.nx_here q3 S3 (so2.up g3.le)
    | true =>
      rw [if_pos rfl]
      rw [if_pos rfl] at q3
      refine ⟨fun σ' H' => ∃ W sg st, Sim T W st H' ∧ SigOk T.K W sg σ' ∧ SQ T Wx D W H' (whileN ft body n sg st), fun σ' H' h => ⟨n, Nat.lt_succ_self _, h⟩, W3, sg2, st3, S3, so2.up g3.le, ?_⟩
      cases hb : body sg2 st3 with
      | nx sg5 st5 => rw [hb] at q3; exact fun W' H' σ' g S' so' => ⟨W', sg5, st5, S', so', SQ.later q3 g⟩
      | ct sg5 st5 => rw [hb] at q3; exact fun W' H' σ' g S' so' => ⟨W', sg5, st5, S', so', SQ.later q3 g⟩
      | bk sg5 st5 => rw [hb] at q3; exact q3
      | rt p st5 => rw [hb] at q3; exact q3
      | ex x sg5 st5 => rw [hb] at q3; exact q3
      | stuck => rw [hb] at q3; exact q3
theorem ds_while {b : List Stmt} (hp : PassesOwn (model X.prog X.w) X.A X.env X.xe) (hc : PT X c (TTv T Wx ft)) (hb : PSs X b (TSv T Wx body)) : PS X (.While c b [] pos) (TSv T Wx (fsWhile ft body)) := PSimp (ps_while hp hc hb) tWhile_of

/-! ### o.f = v, o.f op= v -/
def fsFld (ok : Nat → Bool) (l : List Nat) (fv fo : FE) : FS := fun sg st => bindE (fv sg st) sg fun p st => bindE (fo sg st) sg fun q st => match setF ok l q p st with
  | some st => .nx sg st
  | none => .stuck
variable {ok : Nat → Bool} {l : List Nat} {pos' tpos : Pos}
theorem ds_fld (hK : T.K = X.K) (hok : ∀ c, ok c = true → NoAttr T.K (T.cl c) (nmS l)) (ho : PE X o (TEv T Wx g)) (he : PE X e (TEv T Wx f)) : PS X (.Assign [.Attribute o (nmS l) pos'] e pos) (TSv T Wx (fsFld ok l f g)) :=
  PSimp (ps_fld ho he (by cases e <;> rfl)) fun D σ H ⟨W, sg, st, S, so, q⟩ => ⟨W, sg, st, S, so, (SQ.bindE q so).mono fun p st1 W1 H1 g1 S1 q1 vv rv => ⟨W1, sg, st1, S1, so.up g1.le, (SQ.bindE q1 (so.up g1.le)).mono fun q st2 W2 H2 g2 S2 q2 ov ro => by
    cases hs : setF ok l q p st2 with
    | none => simp only [hs] at q2; exact q2.elim
    | some st3 =>
      simp only [hs] at q2
      obtain ⟨a, C, dx, us, rfl, hH, cl, na, hl, g', S'⟩ := setF_at hok S2 ro (rv.up g2.le) hs
      exact ⟨a, C, dx, us, rfl, hH, hK ▸ cl, hK ▸ na, hl, q2 W2 _ σ g' S' (so.up (g1.le.trans g2.le))⟩⟩⟩
def fsFldAug (ok : Nat → Bool) (l : List Nat) (op : Operator) (fv fo : FE) : FS := fun sg st => bindE (fo sg st) sg fun q st => match insAt q st with
  | some (c, fs) => match lookF l fs with
    | some z => bindE (fv sg st) sg fun p st => match augP op z p st, insAt q st with
      | some y, some (c', _) => if c' = c then match setF ok l q y st with
        | some st => .nx sg st
        | none => .stuck else .stuck
      | _, _ => .stuck
    | none => .stuck
  | none => .stuck
theorem setF_ins {ok : Nat → Bool} {l : List Nat} {n : Nat} {v : PV} {st st' : Store} (h : setF ok l (.ref n) v st = some st') : ∃ c fs, st[n]? = some (.ins c fs) := by
  cases hc : st[n]? with
  | none => simp only [setF, hc] at h; cases h
  | some c =>
    cases c with
    | ins c fs => exact ⟨c, fs, rfl⟩
    | _ => simp only [setF, hc] at h; cases h
theorem ds_fldaug {op : Operator} (hop : augOk op = true) (hK : T.K = X.K) (hok : ∀ c, ok c = true → NoAttr T.K (T.cl c) (nmS l)) (ho : PE X o (TEv T Wx g)) (he : PE X e (TEv T Wx f)) : PS X (.AugAssign (.Attribute o (nmS l) tpos) op e pos) (TSv T Wx (fsFldAug ok l op f g)) := by
  have core : ∀ (h : Int → Int → Int) (rd : V → V → Hp → VK → Prop), (∀ i j H Q, Q (.int (h i j)) H → rd (.int i) (.int j) H Q) → (∀ p q st z, augP op p q st = some z → ∃ i j, p = .int i ∧ q = .int j ∧ z = .int (h i j)) →
      ∀ D σ H, TSv T Wx (fsFldAug ok l op f g) D σ H → sFldAug X.K (TEv T Wx g) (TEv T Wx f) rd (nmS l) D σ H := fun h rd hrd hh D σ H ⟨W, sg, st, S, so, q⟩ =>
    ⟨W, sg, st, S, so, (SQ.bindE q so).mono fun p st1 W1 H1 g1 S1 q1 v rv => by
      cases hi : insAt p st1 with
      | none => simp only [hi] at q1; exact q1.elim
      | some z =>
        obtain ⟨c, fs⟩ := z
        simp only [hi] at q1
        cases hm : lookF l fs with
        | none => simp only [hm] at q1; exact q1.elim
        | some z =>
          simp only [hm] at q1
          obtain ⟨n, a, dx, us, rfl, e1, e2, rfl, e3, rf, cl, na⟩ := insAt_at S1 rv hi
          have lk := lookF_at (f := l) rf
          rw [hm] at lk
          obtain ⟨w, lu, rw'⟩ := lk
          obtain ⟨g', hg', rfl⟩ := lookF_mem hm
          refine ⟨a, T.cl c, dx, us, w, rfl, e3, hK ▸ cl, hK ▸ na g' hg', lu, W1, sg, st1, S1, so.up g1.le, (SQ.bindE q1 (so.up g1.le)).mono fun y st2 W2 H2 g2 S2 q2 u ru => ?_⟩
          cases ha : augP op z y st2 with
          | none => simp only [ha] at q2; exact q2.elim
          | some y2 =>
            cases hi2 : insAt (.ref n) st2 with
            | none => simp only [ha, hi2] at q2; exact q2.elim
            | some z2 =>
              obtain ⟨c2, fs2⟩ := z2
              simp only [ha, hi2] at q2
              by_cases hcc : c2 = c
              rotate_left
              · rw [if_neg hcc] at q2; exact q2.elim
              rw [if_pos hcc] at q2
              subst hcc
              obtain ⟨i, j, rfl, rfl, rfl⟩ := hh _ _ _ _ ha
              cases rw'; cases ru
              cases hs : setF ok g'.1 (.ref n) (.int (h i j)) st2 with
              | none => simp only [hs] at q2; exact q2.elim
              | some st3 =>
                simp only [hs] at q2
                obtain ⟨n', a', dx', us', e6, e7, e8, e9, hH', _⟩ := insAt_at S2 (rv.up g2.le) hi2
                cases e6; cases e9
                obtain ⟨a2, C2, dx2, us2, e5, hH, cl2, na2, hl, g5, S5⟩ := setF_at hok S2 (rv.up g2.le) (show Rep T.K W2 (.int (h i j)) (.int (h i j)) from rfl) hs
                cases e5
                rw [hH] at hH'
                cases hH'
                exact hrd _ _ _ _ ⟨_, _, hH, hl, q2 W2 _ σ g5 S5 (so.up (g1.le.trans g2.le))⟩⟩
  cases op <;> first | cases hop | skip
  · refine PSimp (ps_fldaug ho he in_add) (core (fun i j => i + j) _ (fun i j H Q q => ⟨i, j, rfl, rfl, q⟩) fun p q st z h => ?_)
    cases p <;> cases q <;> first | (cases h; exact ⟨_, _, rfl, rfl, rfl⟩) | cases h
  · refine PSimp (ps_fldaug ho he in_sub) (core (fun i j => i - j) _ (fun i j H Q q => ⟨i, j, rfl, rfl, q⟩) fun p q st z h => ?_)
    cases p <;> cases q <;> first | (cases h; exact ⟨_, _, rfl, rfl, rfl⟩) | cases h
end

/-! ### a def's body -/
def startS (n : Nat) (ps : List PV) : Sig := ps.map some ++ List.replicate (n - ps.length) none
theorem SigOk.start {K : PySem.W.Frag} {W : Wd} {N : List Str} {ps : List PV} {vs : List V} (r : Reps K W ps vs) : SigOk K W (startS N.length ps) (L2.start N vs) := by
  refine ⟨?_, fun i p h => ?_⟩
  · unfold startS L2.start; rw [List.length_append, List.length_append, List.length_map, List.length_map, List.length_replicate, List.length_replicate, Reps.length r]
  · unfold startS at h
    unfold L2.start
    by_cases hi : i < ps.length
    · rw [List.getElem?_append_left (by simpa using hi), List.getElem?_map] at h
      cases hp : ps[i]? with
      | none => rw [hp] at h; cases h
      | some q =>
        rw [hp] at h
        cases h
        obtain ⟨v, hv, rv⟩ := r.get hp
        refine ⟨v, ?_, rv⟩
        rw [List.getElem?_append_left (by rw [List.length_map, Reps.length r]; exact hi), List.getElem?_map, hv]
        rfl
    · rw [List.getElem?_append_right (by simpa using hi), List.getElem?_replicate] at h
      split at h <;> cases h
/-- n parameters, m names -/
def fnF (n m : Nat) (f : FS) : FF := fun ps st => if ps.length = n then match f (startS m ps) st with
  | .nx _ st => .ok .non st
  | .rt p st => .ok p st
  | .ex x _ st => .ex x st
  | _ => .stuck else .stuck
theorem tBody_of {T : Txt} {N : List Str} {n : Nat} {f : FS} {vs : List V} {H : Hp} {Q : VK} {E : XK} (h : spF T (fnF n N.length f) vs H Q E) : vs.length = n ∧ TSv T (fun cls d _ H => E cls d H) f { nx := fun _ H' => Q .non H', rt := Q } (L2.start N vs) H := by
  obtain ⟨W, ps, st, S, r, q⟩ := h
  unfold fnF at q
  by_cases hl : ps.length = n
  rotate_left
  · rw [if_neg hl] at q; exact q.elim
  rw [if_pos hl] at q
  refine ⟨by rw [Reps.length r, hl], W, startS N.length ps, st, S, SigOk.start r, ?_⟩
  cases hf : f (startS N.length ps) st with
  | nx sg st1 => rw [hf] at q; exact fun W' H' σ' g S' so' => q W' H' g S' .non rfl
  | rt p st1 => rw [hf] at q; exact fun W' H' v g S' rv => q W' H' g S' v rv
  | ex x sg st1 => rw [hf] at q; exact fun W' H' σ' cls d g S' so' at_ => q W' H' cls d g S' at_
  | bk sg st1 => rw [hf] at q; exact q.elim
  | ct sg st1 => rw [hf] at q; exact q.elim
  | stuck => rw [hf] at q; exact q.elim
/-- a def by its body, where there is room R; the body runs in R' -/
theorem fn_okR {P : Program} {w : World} {K : PySem.W.Frag} {mg : Str → Option Value} {base : Heap} {T : Txt} {x qual : Str} {st : Stmt} {f : Addr} {fd : FuncData} {N ps : List Str} {R R' : Around → Prop} {b : FS} (F : Fun K x qual st f fd) (S : FnScope N ps (defScope st))
    (hR : ∀ A, R A → A.handled = none ∧ A.depth < recursionLimit ∧ ∀ env, R' (A.deeper env))
    (hbody : ∀ (cdv : Value) (A : Around) (outer : List Env) (s : Shared) (H : Hp) (E : XK), R' (A.deeper (envOfC qual (defScope st) s.heap.objs.size f cdv)) →
      PSs (cxOf (L2.CX P w) P w K mg base N qual (defScope st) f cdv A outer s H E) (defBody st) (TSv T (fun cls d _ H => E cls d H) b)) :
    FnR P w K mg base R f fd ps (spF T (fnF ps.length N.length b)) := by
  obtain ⟨oc, od, kV, doc, pm, an, cdv, ct, osl, rfl, lk, hcd⟩ := F.ex
  refine ⟨fun vs H Q E h => (tBody_of (N := N) h).1, fun A outer s H args us vs Q E ra e0 hb rv hz => ?_⟩
  obtain ⟨r1, r2, r3⟩ := hR A ra
  obtain ⟨many, tb⟩ := tBody_of (N := N) hz
  have kin : K.In s.heap := e0.mod.kin.keeps fun c o e => (e0.bs c o e).1
  have nolim : s.heap.NoLimit := e0.mod.nolimit.keeps fun c o e => (e0.bs c o e).1
  refine codeAny_call_function r2 (kin _ _ lk) rfl S.co S.gen rfl (PySem.W.codeRec_of kin hcd) (hb _ _ _ _ ?_)
  refine wpAny_newFunctionEnv_cells S.kind (fun ⟨n, v⟩ hy => (S.par n (List.of_mem_zip hy).1).imp id fun q => ⟨q, PySem.W.cellsFrom_some _ _ _ (.inl q)⟩) fun env he s1 entered => ?_
  subst he
  refine ⟨nolim.keeps entered.toInCall.keep, codeAny_func ?_⟩
  have body := hbody cdv A outer s H E (r3 _)
  have inv := inv_start (CX := L2.CX P w) (P := P) (w := w) (mg := mg) (base := base) (E := E) (cd := cdv) (f := f) (qual := qual) S r1 e0 many rv entered
  refine wpAny_mono (body.run [] s1 (start N vs) H _ inv tb) (fun out s2 got => ?_) fun _ _ got => got
  have done : ∀ {σ2 : L2.St} {H2 : Hp} {z : V} {u : Value}, Inv (cxOf (L2.CX P w) P w K mg base N qual (defScope st) f cdv A outer s H E) [] σ2 H2 s2 → RelV z u → Q z H2 → CE outer P w H s Q u s2 :=
    fun {_ H2 z _} J ru q => ⟨z, H2, J.os, J.bare, J.base, J.hok, ru, q⟩
  match out, got with
  | .next, ⟨_, _, J, q⟩ => exact done (z := .non) (u := .none) J rfl q
  | .ret _, ⟨_, _, _, J, ru, q⟩ => exact done J ru q
  | .brk, ⟨_, _, _, q⟩ => exact False.elim q
  | .cont, ⟨_, _, _, q⟩ => exact False.elim q
end Pv
/-! Pv, part X: raise of an own class with one value, try .. except X: return a constant. -/
namespace Pv
open PySem PySem.Spec PyProof.Rows PySem.SeqAt L2 SkE
section
variable {X : Cx} {T : Txt} {Wx : WX} {pos p p2 : Pos} {e : Expr} {f : FE} {u : FS}
/-- raise C(e): the value is not kept -/
def fsRaise (c : Nat) (f : FE) : FS := fun sg st => bindE (f sg st) sg fun _ st => .ex ⟨c, none⟩ sg st
/-- what is known of an own exception class -/
structure ExOk (X : Cx) (x : Str) (C : Addr) : Prop where
  made : ∃ (B newId initId : String) (bmB : List Value), ExcBaseFacts B newId initId bmB ∧ PySem.W.excIn X.K C bmB newId = true
  glob : X.mg x = some (.ref C)
  keep : PySem.W.keepIn X.K (.ref C) = true
  rs : Raises X (.ref C)
theorem ds_raise {c : Nat} {x : Str} (hc : X.calm = true) (tk : Takes X Wx) (h : ExOk X x (T.cl c)) (hg : Gl X x) (hdb : (x == ("__debug__" : Str)) = false) (he : PE X e (TEv T Wx f)) (hn : notStar e = true) :
    PS X (.Raise (some (.Call (.Name x p) [e] [] p2)) none pos) (TSv T Wx (fsRaise c f)) := by
  obtain ⟨B, n, i, bm, F, q⟩ := h.made
  refine PSimp (ps_raise hc tk (pmk_own1 F q h.glob h.keep h.rs hg he (star_of hn) hdb)) fun D σ H ⟨W, sg, st, S, so, k⟩ => ⟨W, sg, st, S, so, ?_⟩
  have k : SQ T Wx D W H (bindE (f sg st) sg fun _ st => .ex ⟨c, none⟩ sg st) := k
  refine (SQ.bindE k so).mono fun v st1 W1 H1 g1 S1 k1 w rw => ?_
  exact k1 W1 H1 σ (.ref (T.cl c)) none (.refl _ _) S1 (so.up g1.le) ⟨rfl, rfl⟩
/-- try: u, except X: return p -/
def fsTry (l : List (Nat × Bool)) (u : FS) (p : PV) : FS := fun sg st => match u sg st with
  | .ex x sg st => match l.lookup x.c with
    | some true => .rt p st
    | some false => .ex x sg st
    | none => .stuck
  | r => r
theorem ds_try {x : Str} {c : Value} {body suite : List Stmt} {b₀ : Stmt} {np pos' : Pos} {l : List (Nat × Bool)} {q : PV} (hs : X.stack = X.env :: X.outer) (hf : X.env.frame = some X.env.locals) (hc : Names X x c) (tk : Takes X Wx)
    (hl : ∀ n b, l.lookup n = some b → PySem.W.exmOne X.K (.ref (T.cl n)) c = some b)
    (hb : ∀ (W : WX) (pn : List (Addr × Obj)) (xe : Value → Shared → Prop), Takes (X.tr pn xe) W → PassesOwn (model X.prog X.w) X.A X.env xe → PSs (X.tr pn xe) body (TSv T W u))
    (hsu : ∀ (a : Addr) (oe : Obj) (pn : List (Addr × Obj)), PSs (X.suite a ((a, oe) :: pn)) (b₀ :: suite) (TSv T WxF (fsSeq (fsRet (fC q)) fsNil))) :
    PS X (.Try body [.ExceptHandler (some (.Name x np)) none (b₀ :: suite) pos'] [] [] pos) (TSv T Wx (fsTry l u q)) := by
  refine PSimp (ps_try_only (tb := fun W => TSv T W u) (ts := fun a cls d => TSv T WxF (fsSeq (fsRet (fC q)) fsNil)) hs hf hc tk hb (fun a oe cls d pn _ _ => hsu a oe pn)) fun D σ H ⟨W, sg, st, S, so, k⟩ => ⟨W, sg, st, S, so, ?_⟩
  have k : SQ T Wx D W H (match u sg st with
    | .ex x sg st => match l.lookup x.c with
      | some true => .rt q st
      | some false => .ex x sg st
      | none => .stuck
    | r => r) := k
  cases hu : u sg st with
  | ex x sg1 st1 =>
    rw [hu] at k
    simp only [] at k
    intro W' H' σ' cls d g S' so' ea
    obtain ⟨rfl, hd⟩ := ea
    cases hx : l.lookup x.c with
    | none => rw [hx] at k; exact k.elim
    | some b =>
      rw [hx] at k
      refine ⟨b, hl _ _ hx, fun z a _ => ?_, fun z => ?_⟩
      · subst z
        exact ⟨W', sg1, st1, S', so', fun W2 H2 v g2 S2 rv => k W2 H2 v (g.trans g2) S2 rv⟩
      · subst z
        exact k W' H' σ' _ d g S' so' ⟨rfl, hd⟩
  | nx _ _ => rw [hu] at k; exact k
  | rt _ _ => rw [hu] at k; exact k
  | bk _ _ => rw [hu] at k; exact k
  | ct _ _ => rw [hu] at k; exact k
  | stuck => rw [hu] at k; exact k
end
end Pv
/-! Pv, part U: sorted() of nested tuples, empty ones among them. -/
namespace Pv
open PySem PySem.Spec PyProof.Rows PySem.SeqAt PySem.W L2

/-! ### values as data -/
mutual
def encD : PV → Option PyData
  | .bl b => some (.bool b)
  | .int i => some (.int i)
  | .str s => some (.str ⟨s.toArray⟩)
  | .tup xs => (encL xs).map .tuple
  | _ => none
def encL : List PV → Option (List PyData)
  | [] => some []
  | p :: ps => (encD p).bind fun d => (encL ps).map fun ds => d :: ds
end
mutual
theorem encD_dp {K : PySem.W.Frag} {W : Wd} {H : Hp} (S : ∀ a o, W.F a = some o → H a = some o) : ∀ {p : PV} {v : V} {d : PyData}, Rep K W p v → encD p = some d → Dp K H v d
  | .bl b, _, _, r, e => by cases r; cases e; exact .bl b
  | .int i, _, _, r, e => by cases r; cases e; exact .int i
  | .str s, _, _, r, e => by obtain ⟨rfl, _⟩ := r; cases e; exact .str _
  | .tup xs, _, _, r, e => by
    obtain ⟨a, vs, rfl, q, rs⟩ := r
    obtain ⟨ds, h1, rfl⟩ := Option.map_eq_some_iff.mp (show (encL xs).map PyData.tuple = some _ from e)
    exact .tup (SqT.up q S) (encL_dp S rs h1)
  | .non, _, _, _, e => by cases e
  | .lst _, _, _, _, e => by cases e
  | .scr _, _, _, _, e => by cases e
  | .dic _ _, _, _, _, e => by cases e
  | .ref _, _, _, _, e => by cases e
theorem encL_dp {K : PySem.W.Frag} {W : Wd} {H : Hp} (S : ∀ a o, W.F a = some o → H a = some o) : ∀ {ps : List PV} {vs : List V} {ds : List PyData}, Reps K W ps vs → encL ps = some ds → DpAll K H vs ds
  | [], _, _, r, e => by cases r; cases e; exact .nil
  | p :: ps, _, _, ⟨v, r, e0, rp, rr⟩, e => by
    subst e0
    obtain ⟨d, h1, e⟩ := Option.bind_eq_some_iff.mp (show (encD p).bind (fun d => (encL ps).map fun ds => d :: ds) = some _ from e)
    obtain ⟨ds, h2, rfl⟩ := Option.map_eq_some_iff.mp e
    exact .cons (encD_dp S rp h1) (encL_dp S rr h2)
end
/-! ### which kind of keys the sort takes -/
section
variable {prog : Program} {w : World} {A : Around} {s : Shared}
theorem readsAll_nil {h : Heap} {L : List Value} {as : List Addr} (r : ReadsAll h L [] as) : L = [] := by cases r; rfl
theorem firstsAny : ∀ {vs : List Value} {ds : List PyData}, EachIs (fun v d => ∃ as, Reads s.heap v d as) vs ds → (∀ d ∈ ds, ∃ xs, d = .tuple xs) →
    ∃ fs : List (Option Value), (∀ (E : Value → Shared → Prop) (Q : List (Option Value) → Shared → Prop), Q fs s → wpAny (model prog w) A (vs.mapM firstOfTuple') Q E s) ∧ (fs.all (·.isSome) = true → ∀ d ∈ ds, ∃ x r, d = .tuple (x :: r))
  | _, _, .nil, _ => ⟨[], fun E Q h => by rw [List.mapM_nil]; exact wpAny_pure h, fun _ d hd => absurd hd (by simp)⟩
  | _, _, .cons (b := d) (as := vs) (bs := ds) ⟨as, r⟩ t, ht => by
    obtain ⟨fs, h1, h2⟩ := firstsAny t fun d hd => ht d (List.mem_cons_of_mem _ hd)
    obtain ⟨xs, rfl⟩ := ht d (List.mem_cons_self ..)
    cases r with
    | @tuple a o its n _ _ ho hc hd hr =>
      refine ⟨its[0]? :: fs, fun E Q h => ?_, fun hall => ?_⟩
      · rw [List.mapM_cons]
        refine wpAny_bind ?_
        rw [kas_first_eq]
        refine wpAny_bind (Looks.here (show Looks (model prog w) s.heap (typeOf (.ref a)) o.cls from (Looks.ld ho).andThen .now) ?_)
        rw [hc, if_neg (by first | decide | simp)]
        exact wpAny_bind (listItems_at ho hd (wpAny_pure (wpAny_bind (h1 E _ (wpAny_pure h)))))
      · rw [List.all_cons, Bool.and_eq_true] at hall
        refine fun d hd => ?_
        rcases List.mem_cons.mp hd with rfl | hd
        · cases xs with
          | nil =>
            have z : its.toList = [] := readsAll_nil hr
            have : its[0]? = none := by rw [← Array.getElem?_toList, z]; rfl
            rw [this] at hall; cases hall.1
          | cons x r => exact ⟨x, r, rfl⟩
        · exact h2 hall.2 d hd
/-- two tuples by their own < -/
theorem oneLtT {f : Bool} {da db : PyData} {a b : Value} {as bs : List Addr} {E : Value → Shared → Prop} {Q : Bool → Shared → Prop} (ht : ∃ xs, da = .tuple xs) (ra : Reads s.heap a da as) (rb : Reads s.heap b db bs) (h : alike da db = true)
    (hu : A.units + min da.depth db.depth < cLine) (hq : Q (dataLt da db) s) : wpAny (model prog w) A (oneLt' f a b) Q E s := by
  obtain ⟨xs, rfl⟩ := ht
  cases f with
  | false => exact oneLt_alike (fun z => absurd z Bool.false_ne_true) ra rb h (fun z => by cases z) hu hq
  | true =>
    cases db with
    | tuple ys =>
      have hal : alikeAll xs ys = true := by simpa [alike] using h
      cases ra with
      | @tuple l o vs n _ _ h1 h2 h3 h4 =>
        cases rb with
        | @tuple l' o' vs' n' _ _ k1 k2 k3 k4 =>
          have n1 : vs.size = xs.length := by simpa using ReadsAll.length _ _ _ h4
          have n2 : vs'.size = ys.length := by simpa using ReadsAll.length _ _ _ k4
          rw [dataLt_tuple, ← firstLt_toks xs ys hal, ← n1, ← n2] at hq
          rw [oneLt'_eq]
          simp only [if_true]
          refine wpAny_bind (wpAny_cRoomFor (room_here hu) ?_)
          obtain ⟨⟨cls, dd, data, sl⟩, ho, hc, n, hd⟩ := (show s.heap.IsTuple l vs from ⟨_, h1, h2, _, h3⟩)
          obtain ⟨⟨cls2, dd2, data2, sl2⟩, ho2, hc2, n2', hd2⟩ := (show s.heap.IsTuple l' vs' from ⟨_, k1, k2, _, k3⟩)
          simp only at hc hd hc2 hd2
          subst hc hd hc2 hd2
          refine wpAny_bind (wpAny_callSpecialIfBound?_slot (T := "tuple") ⟨_, ho, rfl⟩ F.slot_tuple_lt (call_meets F.slot_tuple_lt ⟨_, ho, rfl⟩ F.entry_tuple_lt (F.args_tuple_lt_2 _ _)
            (tuple_ltAt l l' vs vs' n n2' dd dd2 sl sl2 (pairEq xs ys) (fun j => dataLt (xs.getD j .none) (ys.getD j .none))) ⟨ho, ho2, fun j j1 j2 => ?_, fun j j1 j2 hj => ?_, ?_⟩))
          · have := eqAt_alikeAll xs ys A.in1 s vs.toList vs'.toList _ _ h4 k4 hal (room_in hu) j (by simpa using j1) (by simpa using j2)
            simpa using this
          · have := rcLt_alikeAll xs ys A.in1 s vs.toList vs'.toList _ _ h4 k4 hal (room_in hu) j (by simpa using j1) (by simpa using j2) hj
            simpa using this
          · exact wpAny_truthy_bool hq
    | _ => exact absurd h (by simp [alike])
/-- tuples, empty ones among them, can be sorted -/
theorem sortsT {vs : List Value} {ds : List PyData} (e : EachIs (fun v d => ∃ as, Reads s.heap v d as) vs ds) (hal : AllAlike ds) (ht : ∀ d ∈ ds, ∃ xs, d = .tuple xs) (hu : ∀ d, d ∈ ds → A.units + d.depth < cLine) : SortsAt prog w A s (dataKind s.heap ds) vs := by
  obtain ⟨fs, f1, f2⟩ := firstsAny (prog := prog) (w := w) (A := A) e ht
  by_cases hall : fs.all (·.isSome) = true
  · exact SortsAt.data e hal (.inl (f2 hall)) hu
  have ltA : ∀ (f : Bool) (kd : SortKind), (∀ x y, keyLt' kd x y = oneLt' f x y) → H.LtAt prog w A s (dataKind s.heap ds) kd := fun f kd hk => by
    intro E x y a b Q ha hb hq
    obtain ⟨d, as, hd, ra, rfl⟩ := dataKind_inv ha
    obtain ⟨d', as', hd', rb, rfl⟩ := dataKind_inv hb
    rw [hk]
    exact oneLtT (ht d hd) ra rb (hal d hd d' hd') (Nat.lt_of_le_of_lt (Nat.add_le_add_left (Nat.min_le_left _ _) _) (hu d hd)) hq
  refine ⟨fun v hv => ?_, ?_⟩
  · obtain ⟨d, hd, as, r⟩ := e.left v hv
    exact ⟨_, dataKind_some hal hd r⟩
  by_cases h0 : (fs.toArray[0]?.bind id).isSome = true
  · refine ⟨general', ltA false general' fun _ _ => rfl, fun h2 E Q hq => ?_⟩
    rw [kat_kind_eq, List.mapM_toArray, map_eq_pure_bind]
    refine wpAny_bind (wpAny_bind (f1 E _ (wpAny_pure ?_)))
    rw [if_neg (by simpa using hall), if_pos h0]
    exact wpAny_pure hq
  · refine ⟨oneType', ltA true oneType' fun _ _ => rfl, fun h2 E Q hq => ?_⟩
    rw [kat_kind_eq, List.mapM_toArray, map_eq_pure_bind]
    refine wpAny_bind (wpAny_bind (f1 E _ (wpAny_pure ?_)))
    rw [if_neg (by simpa using hall), if_neg h0, oneTypeOnly'_eq, List.mapM_toArray, map_eq_pure_bind]
    refine wpAny_bind (wpAny_bind (wpAny_bind (kas_mapM (r := .type "tuple") _ (fun v hv Q' hq' => ?_) (wpAny_pure ?_))))
    · obtain ⟨d, hd, as, r⟩ := e.left v hv
      obtain ⟨xs, rfl⟩ := ht d hd
      exact (looks_reads r).here hq'
    · have a1 : ((vs.map fun _ => Value.type "tuple").toArray.all fun x => x == Value.type "tuple") = true := by
        simp only [List.all_toArray, List.all_map, List.all_eq_true]
        intro _ _
        rfl
      have a0 : (vs.map fun _ => Value.type "tuple").toArray[0]? = some (.type "tuple") := by
        cases vs with
        | nil => simp at h2
        | cons v r => simp
      rw [a0]
      simp only [a1, if_true]
      exact wpAny_pure (wpAny_pure hq)
end
/-! ### the call -/
def allAlikeB (ds : List PyData) : Bool := ds.all fun d => ds.all fun d' => alike d d'
def isTupD : PyData → Bool
  | .tuple _ => true
  | _ => false
def leD : PV → PV → Bool := dataLe false fun p => (encD p).getD .none
def srtG (bx : Bool) (ps : List PV) (st : Store) : Option (PV × Store) := match srtT bx ps st with
  | some z => some z
  | none => match ps with
    | [p] => (asR p st).bind fun xs => (encL xs).bind fun ds => if allAlikeB ds && ds.all isTupD && ds.all (fun d => decide (d.depth ≤ 100)) then some (newL bx (xs.mergeSort leD) st) else none
    | _ => none
theorem encL_map : ∀ {ps : List PV} {ds : List PyData}, encL ps = some ds → ps.map (fun p => (encD p).getD .none) = ds
  | [], _, e => by cases e; rfl
  | p :: ps, _, e => by
    obtain ⟨d, h1, e⟩ := Option.bind_eq_some_iff.mp (show (encD p).bind (fun d => (encL ps).map fun ds => d :: ds) = some _ from e)
    obtain ⟨ds, h2, rfl⟩ := Option.map_eq_some_iff.mp e
    rw [List.map_cons, h1, encL_map h2]; rfl
def Is3 (K : PySem.W.Frag) (W : Wd) (u : Value) (p : PV) : Prop := ∃ v, Rep K W p v ∧ RelV v u
theorem is3_of {K : PySem.W.Frag} {W : Wd} : ∀ {ps : List PV} {vs : List V} {us : List Value}, Reps K W ps vs → Vals vs us → EachIs (Is3 K W) us ps
  | [], _, _, r, q => by cases r; cases q; exact .nil
  | p :: ps, _, _, ⟨v, r, e, a, b⟩, q => by
    subst e
    cases q with
    | cons q1 q2 => exact .cons ⟨v, a, q1⟩ (is3_of b q2)
theorem of_is3 {K : PySem.W.Frag} {W : Wd} : ∀ {us : List Value} {ps : List PV}, EachIs (Is3 K W) us ps → ∃ vs, Reps K W ps vs ∧ Vals vs us
  | _, _, .nil => ⟨[], rfl, .nil⟩
  | _, _, .cons ⟨v, a, q⟩ t => by
    obtain ⟨vs, h1, h2⟩ := of_is3 t
    exact ⟨v :: vs, ⟨v, vs, rfl, a, h1⟩, .cons q h2⟩
theorem each_reads {X : Cx} {pins : List (Addr × Obj)} {σ : L2.St} {H : Hp} {s : Shared} {W : Wd} (I : Inv X pins σ H s) (S : ∀ a o, W.F a = some o → H a = some o) : ∀ {us : List Value} {ps : List PV} {ds : List PyData}, EachIs (Is3 X.K W) us ps → encL ps = some ds →
    EachIs (fun v p => ∃ as, Reads s.heap v ((encD p).getD .none) as) us ps
  | _, _, _, .nil, _ => .nil
  | _, _, _, .cons (b := p) (bs := ps) ⟨v, a, q⟩ t, e => by
    obtain ⟨d, h1, e⟩ := Option.bind_eq_some_iff.mp (show (encD p).bind (fun d => (encL ps).map fun ds => d :: ds) = some _ from e)
    obtain ⟨ds, h2, rfl⟩ := Option.map_eq_some_iff.mp e
    refine .cons ?_ (each_reads I S t h2)
    rw [h1]
    exact Dp.reads I d v _ (encD_dp S a h1) q
theorem each_map' {α β γ : Type} {R : α → γ → Prop} (f : β → γ) : ∀ {as : List α} {bs : List β}, EachIs (fun a b => R a (f b)) as bs → EachIs R as (bs.map f)
  | _, _, .nil => .nil
  | _, _, .cons h t => .cons h (each_map' f t)
theorem biSrtG {X : Cx} {T : Txt} (hK : T.K = X.K) (hc : X.calm = true) (hu : X.A.units + 200 < cLine) (bx : Bool) : CallR X (.builtin "sorted") (rC T (srtG bx)) := by
  rintro pins s σ H xs us Q I r ⟨W, st, ps, z, S, rs, h, k⟩
  unfold srtG at h
  cases h0 : srtT bx ps st with
  | some z' =>
    simp only [h0] at h
    cases h
    exact biSrtT hK hc bx pins s σ H xs us Q I r ⟨W, st, ps, z, S, rs, h0, k⟩
  | none =>
    simp only [h0] at h
    obtain ⟨K, cl⟩ := T
    have hK : K = X.K := hK
    subst hK
    match ps, h with
    | [p], h =>
      obtain ⟨ys, h1, h⟩ := Option.bind_eq_some_iff.mp h
      obtain ⟨ds, h2, h⟩ := Option.bind_eq_some_iff.mp h
      by_cases ha : (allAlikeB ds && ds.all isTupD && ds.all fun d => decide (d.depth ≤ 100)) = true
      rotate_left
      · rw [if_neg ha] at h; cases h
      rw [if_pos ha] at h
      have h := Option.some.inj h
      subst h
      rw [Bool.and_eq_true, Bool.and_eq_true] at ha
      obtain ⟨⟨ha, hb⟩, hd⟩ := ha
      obtain ⟨v, rfl, rp⟩ := reps1 rs
      obtain ⟨a, vs, rfl, e1, r1⟩ := asR_at S rp h1
      obtain ⟨its, rv, hl, hz⟩ := I.list e1
      rw [Vals.ref1 r]
      have em := encL_map h2
      have is3 := is3_of r1 rv
      have e3 : ∀ h' : Heap, (∀ b o, s.heap.get? b = some o → h'.get? b = some o) → EachIs (fun v d => ∃ as, Reads h' v d as) its ds := fun h' keep => by
        rw [← em]
        exact each_map' (R := fun v d => ∃ as, Reads h' v d as) (fun p => (encD p).getD .none) ((each_reads I S.sub is3 h2).mono fun _ _ ⟨as, r⟩ => ⟨as, PyProof.Rows.Reads.keeps keep r⟩)
      have hal : AllAlike ds := fun d hd d' hd' => (List.all_eq_true.mp ((List.all_eq_true.mp ha) d hd)) d' hd'
      have ht : ∀ d ∈ ds, ∃ xs, d = .tuple xs := fun d hd => by
        have := (List.all_eq_true.mp hb) d hd
        cases d <;> first | exact ⟨_, rfl⟩ | cases this
      have hu' : ∀ d, d ∈ ds → X.A.in1.in1.units + d.depth < cLine := fun d hd' => by
        have := of_decide_eq_true ((List.all_eq_true.mp hd) d hd')
        show X.A.units + 1 + 1 + d.depth < cLine
        omega
      have er' := (each_reads I S.sub is3 h2).mono (R' := fun v p => ∃ as, Reads (sortingHeap (copyHeap s.heap its) (s.heap.objs.size + 1) its) v ((encD p).getD .none) as) fun _ _ ⟨as, r⟩ => ⟨as, PyProof.Rows.Reads.keeps (fun _ _ => sorting_copy_old) r⟩
      have hal' : AllAlike (ys.map fun p => (encD p).getD .none) := em ▸ hal
      refine sorted_vals hl.isList (sortsT (s := { s with heap := sortingHeap (copyHeap s.heap its) (s.heap.objs.size + 1) its }) (e3 _ fun _ _ => sorting_copy_old) hal ht hu') (by rw [← rv.length]; exact hz) ?_
      have out3 := sortVals_data false is3 er' hal'
      rw [em] at out3
      obtain ⟨vs', q1, q2⟩ := of_is3 out3
      obtain ⟨ep, he'⟩ := PyProof.Rows.sortedAll_at s.heap its (sortVals (dataKind (sortingHeap (copyHeap s.heap its) (s.heap.objs.size + 1) its) ds) false its its).toArray
      have hz' : vs'.length ≤ sizeLine := by
        rw [Reps.length q1, List.length_mergeSort, ← Reps.length r1]; exact hz
      exact ⟨.ref _, upd H (s.heap.objs.size + 1) (.lst vs'), I.laid (t' := s.toks) (fun _ _ => PyProof.Rows.sortedAll_old) (Nat.le_succ _) ⟨hz', _, ep, q2, he'⟩, rfl, k.newL S q1 _ (I.hok.fresh (Nat.le_succ _))⟩
    | [], h => cases h
    | _ :: _ :: _, h => cases h
end Pv
/-! Pv, part Y: a list's cell that is walked as it stands; dict comprehensions; d.get, d.update, dict(zip(..)); a sum of lists as a cell. -/
namespace Pv
open PySem PySem.Spec PyProof.Rows PySem.SeqAt L2

/-! ### a cell walked -/
def cellL (n : Nat) (st : Store) : Option (List PV) := match st[n]? with
  | some (.lst xs) => some xs
  | _ => none
theorem cellL_at {n : Nat} {st : Store} {xs : List PV} (h : cellL n st = some xs) : st[n]? = some (.lst xs) := by
  unfold cellL at h
  split at h
  · rename_i q; cases h; exact q
  · cases h
/-- k turns are left of N -/
def compV (body : PV → Store → R (Option PV)) (n N : Nat) : Nat → Store → R (List PV)
  | 0, st => match cellL n st with
    | some xs => if xs.length = N then .ok [] st else .stuck
    | none => .stuck
  | k + 1, st => match cellL n st with
    | some xs => if xs.length = N then (match xs[N - (k + 1)]? with
      | some p => (body p st).bind fun o st => (compV body n N k st).bind fun ys st => .ok (o.toList ++ ys) st
      | none => .stuck) else .stuck
    | none => .stuck
def fCompV (bx : Bool) (ws : List Nat) (fv : FE) (g : FG) (ft : FT) (f : FE) : FE := fun sg st => (fv sg st).bind fun p st => match p with
  | .ref n => match cellL n st with
    | some xs => if xs.length ≤ sizeLine then (compV (turnC ws g ft f sg) n xs.length xs.length st).bind fun ys st => .ok (newL bx ys st).1 (newL bx ys st).2 else .stuck
    | none => .stuck
  | _ => .stuck
def TLr (T : Txt) (Wx : WX) (fv : FE) : TI := fun σ H R => TEv T Wx fv σ H fun x H1 => ∃ l, x = .ref l ∧ (∃ xs, SqL T.K H1 l xs) ∧ R (Itl T.K l) H1
theorem tLcV_of {T : Txt} {Wx : WX} {bx : Bool} {ws : List Nat} {fv : FE} {g : FG} {ft : FT} {f : FE} : ∀ σ H Q, TEv T Wx (fCompV bx ws fv g ft f) σ H Q → tLc (TLr T Wx fv) (TGv T WxF ws g) (TTv T WxF ft) (TEv T WxF f) ws σ H Q := fun σ H Q ⟨W, sg, st, S, so, q⟩ => by
  refine ⟨W, sg, st, S, so, (RQ.bind q).mono fun p st1 W1 H1 g1 S1 q1 pv rpv => ?_⟩
  have so1 := so.up g1.le
  cases p with
  | ref n =>
    cases hn : cellL n st1 with
    | none => simp only [hn] at q1; exact q1.elim
    | some xs =>
      simp only [hn] at q1
      by_cases hz : xs.length ≤ sizeLine
      rotate_left
      · rw [if_neg hz] at q1; exact q1.elim
      rw [if_pos hz] at q1
      obtain ⟨a, ea, rfl⟩ := rpv
      obtain ⟨vs0, f0, r0⟩ := S1.cell n a _ ea (cellL_at hn)
      generalize hN : xs.length = N at q1 hz
      refine ⟨a, rfl, ⟨vs0, SqL.of f0⟩, fun D hD => ?_⟩
      obtain ⟨gD, SD⟩ := S1.loose hD (.lst [])
      have hnr : D ∉ W1.ρ := fun z => S1.dom D z hD
      refine ⟨fun i m H => m = N - i ∧ i ≤ N ∧ ∃ W2 st2 acc accV, Go W1 H1 W2 H ∧ Sim T W2 st2 H ∧ H D = some (.lst accV) ∧ W2.F D = none ∧ D ∉ W2.ρ ∧ Reps T.K W2 acc accV ∧ acc.length ≤ i ∧
        RQ T Wx σ W1 H1 ((compV (turnC ws g ft f sg) n N (N - i) st2).bind fun ys st => .ok (newL bx (acc ++ ys) st).1 (newL bx (acc ++ ys) st).2) fun p st' W' H' => ∀ v, Rep T.K W' p v → Q v H',
        ⟨N, by simp, Nat.zero_le _, W1, st1, [], [], gD, SD, upd_same, S1.fresh hD, hnr, rfl, Nat.zero_le _, q1⟩, ?_⟩
      rintro i m H2 ⟨rfl, hi, W2, st2, acc, accV, g2, S2, hH, hF, hr, ra, hl, q2⟩
      have ea2 := g2.le.ρ n a ea
      by_cases hlt : i < N
      · obtain ⟨k, hk⟩ : ∃ k, N - i = k + 1 := ⟨N - i - 1, by omega⟩
        have hk' : N - (i + 1) = k := by omega
        have hki : N - (k + 1) = i := by omega
        rw [hk] at q2
        have e0 : compV (turnC ws g ft f sg) n N (k + 1) st2 = match cellL n st2 with
          | some xs => if xs.length = N then (match xs[N - (k + 1)]? with
            | some p => (turnC ws g ft f sg p st2).bind fun o st => (compV (turnC ws g ft f sg) n N k st).bind fun ys st => .ok (o.toList ++ ys) st
            | none => .stuck) else .stuck
          | none => .stuck := rfl
        rw [e0] at q2
        cases hc : cellL n st2 with
        | none => rw [hc] at q2; exact q2.elim
        | some ys =>
          rw [hc] at q2
          simp only [] at q2
          by_cases hy : ys.length = N
          rotate_left
          · rw [if_neg hy] at q2; exact q2.elim
          rw [if_pos hy, hki] at q2
          cases hp : ys[i]? with
          | none => rw [hp] at q2; exact q2.elim
          | some p =>
            rw [hp] at q2
            simp only [] at q2
            obtain ⟨vs2, f2, r2⟩ := S2.cell n a _ ea2 (cellL_at hc)
            obtain ⟨pv, hpv, rp⟩ := r2.get hp
            refine .inr ⟨⟨vs2, pv, SqL.of f2, hpv⟩, fun H' => N - (i + 1) = N - (i + 1) ∧ i + 1 ≤ N ∧ ∃ W2 st2 acc accV, Go W1 H1 W2 H' ∧ Sim T W2 st2 H' ∧ H' D = some (.lst accV) ∧ W2.F D = none ∧ D ∉ W2.ρ ∧ Reps T.K W2 acc accV ∧ acc.length ≤ i + 1 ∧
              RQ T Wx σ W1 H1 ((compV (turnC ws g ft f sg) n N (N - (i + 1)) st2).bind fun ys st => .ok (newL bx (acc ++ ys) st).1 (newL bx (acc ++ ys) st).2) fun p st' W' H' => ∀ v, Rep T.K W' p v → Q v H',
              fun H' h => ⟨N - (i + 1), by omega, h⟩, fun x H3 y => ?_⟩
            obtain ⟨rfl, y⟩ := y
            have e1 := y vs2 (SqL.of f2)
            rw [hpv] at e1; cases e1
            rw [R.assoc] at q2
            cases hb : turnC ws g ft f sg p st2 with
            | stuck => rw [hb] at q2; exact q2.elim
            | ex x s => exact (turnC_not hb).elim
            | ok o st3 =>
              rw [hb] at q2
              have q3 : RQ T Wx σ W1 H1 ((compV (turnC ws g ft f sg) n N (N - (i + 1)) st3).bind fun ys st => .ok (newL bx (acc ++ (o.toList ++ ys)) st).1 (newL bx (acc ++ (o.toList ++ ys)) st).2) fun p st' W' H' => ∀ v, Rep T.K W' p v → Q v H' := by
                rw [hk']
                have e : (((compV (turnC ws g ft f sg) n N k st3).bind fun ys st => R.ok (o.toList ++ ys) st).bind fun ys st => R.ok (newL bx (acc ++ ys) st).1 (newL bx (acc ++ ys) st).2) =
                    (compV (turnC ws g ft f sg) n N k st3).bind fun ys st => R.ok (newL bx (acc ++ (o.toList ++ ys)) st).1 (newL bx (acc ++ (o.toList ++ ys)) st).2 := R.assoc _ _ _
                rw [← e]; exact q2
              obtain ⟨sg', s1, b, s2, e1, e2, e3⟩ := turnC_ok hb
              refine ⟨W2, wipeS sg ws, st2, p, S2, SigOk.wipe (so1.up g2.le) ws, rp, ?_⟩
              rw [e1]
              intro W4 H4 g4 S4 σ2 so2 out
              refine ⟨(Out.wipe out).trans (wipe_wipe σ ws), W4, sg', s1, S4, so2, ?_⟩
              rw [e2]
              intro W5 H5 g5 S5
              have g25 := g4.trans g5
              rcases e3 with ⟨rfl, q, e3, rfl⟩ | ⟨rfl, rfl, rfl⟩
              · refine iteT ?_
                refine ⟨W5, sg', s2, S5, so2.up g5.le, ?_⟩
                rw [e3]
                intro W6 H6 g6 S6 y ry
                have g26 := g25.trans g6
                obtain ⟨k1, k2, k3⟩ := g26.keep D _ hH hF hr
                refine ⟨accV, k1, by rw [Reps.length ra]; omega, rfl, hlt, W6, st3, acc ++ [q], accV ++ [y], ?_, S6.loosen k2 k3 _, upd_same, k2, k3, (ra.up g26.le).app (Reps.one ry), by simp; omega, ?_⟩
                · refine ⟨(g2.trans g26).le, fun b o e1 e2 e3 => ?_⟩
                  obtain ⟨z1, z2, z3⟩ := (g2.trans g26).keep b o e1 e2 e3
                  have : b ≠ D := fun z => by subst z; rw [hD] at e1; cases e1
                  exact ⟨(upd_ne this).trans z1, z2, z3⟩
                · have e : (fun ys (st : Store) => (R.ok (newL bx (acc ++ ((some q).toList ++ ys)) st).1 (newL bx (acc ++ ((some q).toList ++ ys)) st).2 : R PV)) = fun ys st => R.ok (newL bx (acc ++ [q] ++ ys) st).1 (newL bx (acc ++ [q] ++ ys) st).2 := by
                    funext ys st
                    rw [List.append_assoc]; rfl
                  rw [e] at q3; exact q3
              · refine iteF ?_
                obtain ⟨k1, k2, k3⟩ := g25.keep D _ hH hF hr
                exact ⟨rfl, hlt, W5, _, acc, accV, g2.trans g25, S5, k1, k2, k3, ra.up g25.le, by omega, q3⟩
      · have hie : i = N := by omega
        have h0 : N - i = 0 := by omega
        rw [h0] at q2
        have e0 : compV (turnC ws g ft f sg) n N 0 st2 = match cellL n st2 with
          | some xs => if xs.length = N then .ok [] st2 else .stuck
          | none => .stuck := rfl
        rw [e0] at q2
        cases hc : cellL n st2 with
        | none => rw [hc] at q2; exact q2.elim
        | some ys =>
          rw [hc] at q2
          simp only [] at q2
          by_cases hy : ys.length = N
          rotate_left
          · rw [if_neg hy] at q2; exact q2.elim
          rw [if_pos hy] at q2
          obtain ⟨vs2, f2, r2⟩ := S2.cell n a _ ea2 (cellL_at hc)
          have q2 : RQ T Wx σ W1 H1 (.ok (newL bx (acc ++ []) st2).1 (newL bx (acc ++ []) st2).2) fun p st' W' H' => ∀ v, Rep T.K W' p v → Q v H' := q2
          rw [List.append_nil] at q2
          refine .inl ⟨⟨vs2, SqL.of f2, by rw [Reps.length r2]; omega⟩, ?_⟩
          cases bx with
          | false =>
            obtain ⟨l, S3⟩ := S2.adopt hF hr hH
            exact q2 _ H2 (g2.adopt hD l fun b nb k1 k2 => ⟨(upd_ne nb).trans k1, k2⟩) S3 _ ⟨D, accV, rfl, upd_same, ra.up l⟩
          | true =>
            obtain ⟨l, S3, e⟩ := S2.adoptB hF hr (by rw [hH]; simp) (c := .lst acc) ⟨accV, hH, ra⟩
            exact q2 _ H2 (g2.adopt hD l fun b nb k1 k2 => ⟨k1, by rw [List.mem_append]; exact fun z => z.elim k2 fun z => nb (by simpa using z)⟩) S3 _ ⟨D, e, rfl⟩
  | _ => exact q1.elim
/-- what a comprehension walks -/
inductive Wk where
  | it (fi : FA) | live (f : FE)
def TWk (T : Txt) (Wx : WX) : Wk → TI
  | .it fi => TIv T Wx fi
  | .live f => TLr T Wx f
def fCompW (bx : Bool) (ws : List Nat) (w : Wk) (g : FG) (ft : FT) (f : FE) : FE := match w with
  | .it fi => fComp bx ws fi g ft f
  | .live fv => fCompV bx ws fv g ft f
theorem tLcW_of {T : Txt} {Wx : WX} {bx : Bool} {ws : List Nat} {w : Wk} {g : FG} {ft : FT} {f : FE} : ∀ σ H Q, TEv T Wx (fCompW bx ws w g ft f) σ H Q → tLc (TWk T Wx w) (TGv T WxF ws g) (TTv T WxF ft) (TEv T WxF f) ws σ H Q := by
  cases w with
  | it fi => exact tLc_of
  | live fv => exact tLcV_of
section
variable {X : Cx} {T : Txt} {Wx : WX} {elt tg iter : Expr} {ifs : List Expr} {scope : Scope} {own : List (Str × Nat)} {pos : Pos} {w : Wk} {g : FG} {ft : FT} {f : FE}
theorem di_live {e : Expr} {fv : FE} (hK : T.K = X.K) (h : PE X e (TEv T Wx fv)) : PI X tg e (TWk T Wx (.live fv)) := PIimp (pi_list h) fun σ H R q => by
  obtain ⟨K, cl⟩ := T
  cases hK
  exact q
theorem de_compW (bx : Bool) (hc : X.calm = true) (hN : X.N.Nodup) (hi : PI X tg iter (TWk T Wx w)) (ok : BlkOk X.N X.env.scope scope own)
    (hg : ∀ (s : Shared) (H : Hp) (C : Addr) (cl : List (Str × Addr)) (fp : List Addr), PG (X.blk s H scope (compEnvC scope cl C X.env) fp) tg (TGv T WxF (own.map (·.2)) g))
    (ht : ∀ (s : Shared) (H : Hp) (C : Addr) (cl : List (Str × Addr)) (fp : List Addr), PTs (X.blk s H scope (compEnvC scope cl C X.env) fp) ifs (TTv T WxF ft))
    (he : ∀ (s : Shared) (H : Hp) (C : Addr) (cl : List (Str × Addr)) (fp : List Addr), PE (X.blk s H scope (compEnvC scope cl C X.env) fp) elt (TEv T WxF f)) (hs : notSet iter = true) :
    PE X (.ListComp elt [⟨tg, iter, ifs, 0⟩] scope pos) (TEv T Wx (fCompW bx (own.map (·.2)) w g ft f)) :=
  PEimp (pe_lc hc hN hi ok hg ht he (folded_of hs X.env)) tLcW_of
theorem ds_setLcW {sc : Scope} {i : Nat} {y : Str} {py : Pos} {p2 : Pos} (bx : Bool) (hsc : X.env.scope = sc) (hk : sc.kind = .function) (hc : X.calm = true) (hN : X.N.Nodup) (hy : X.N[i]? = some y) (hyl : X.env.scope.names.lookup y = some .local)
    (hsw : noSwap sc (.Name y py) (.ListComp elt [⟨tg, iter, ifs, 0⟩] scope p2) = false)
    (hi : PI X tg iter (TWk T Wx w)) (ok : BlkOk X.N X.env.scope scope own)
    (hg : ∀ (s : Shared) (H : Hp) (C : Addr) (cl : List (Str × Addr)) (fp : List Addr), PG (X.blk s H scope (compEnvC scope cl C X.env) fp) tg (TGv T WxF (own.map (·.2)) g))
    (ht : ∀ (s : Shared) (H : Hp) (C : Addr) (cl : List (Str × Addr)) (fp : List Addr), PTs (X.blk s H scope (compEnvC scope cl C X.env) fp) ifs (TTv T WxF ft))
    (he : ∀ (s : Shared) (H : Hp) (C : Addr) (cl : List (Str × Addr)) (fp : List Addr), PE (X.blk s H scope (compEnvC scope cl C X.env) fp) elt (TEv T WxF f)) (hs : notSet iter = true) :
    PS X (.Assign [.Name y py] (.ListComp elt [⟨tg, iter, ifs, 0⟩] scope p2) pos) (TSv T Wx (fsAsg (fCompW bx (own.map (·.2)) w g ft f) (gtName i))) :=
  PSimp (ps_setLc hc hN hy hyl (swap_of hsc hk hsw ⟨_, _, _, _, rfl⟩) hi ok hg ht he (folded_of hs X.env)) fun D σ H q =>
    tLcW_of (Wx := Wx) (bx := bx) σ H _ (show TEv T Wx _ σ H _ from by
      obtain ⟨W, sg, st, S, so, q⟩ := q
      exact ⟨W, sg, st, S, so, (SQ.bindE q so).mono fun p st1 W1 H1 g1 S1 q1 v rv => q1 W1 H1 _ (.refl _ _) S1 ((so.up g1.le).put i rv)⟩)
end
end Pv
/-! Pv, part Y2: dict comprehensions; d.get, d.update, dict(zip(..)); a sum of lists as a cell. -/
namespace Pv
open PySem PySem.Spec PyProof.Rows PySem.SeqAt L2

/-! ### dict comprehensions -/
def turnD (ws : List Nat) (g : FG) (ft : FT) (fk fv : FE) (sg : Sig) (p : PV) (st : Store) : R (Option (PV × PV)) :=
  noX ((g p (wipeS sg ws) st).bind fun sg' st => (ft sg' st).bind fun b st => if b then (fk sg' st).bind fun k st => (fv sg' st).bind fun v st => .ok (some (k, v)) st else .ok none st)
def dcompL (body : PV → Store → R (Option (PV × PV))) : List PV → List PV → List PV → Store → R (List PV × List PV)
  | [], ks, vs, st => .ok (ks, vs) st
  | p :: ps, ks, vs, st => (body p st).bind fun o st => match o with
    | none => dcompL body ps ks vs st
    | some kv => if (keyOf kv.1).isSome && decide (ks.length < sizeLine) then dcompL body ps (putDk kv.1 ks) (putDv kv.1 kv.2 ks vs) st else .stuck
def fDComp (bx : Bool) (ws : List Nat) (fi : FA) (g : FG) (ft : FT) (fk fv : FE) : FE := fun sg st => (fi sg st).bind fun items st =>
  (dcompL (turnD ws g ft fk fv sg) items [] [] st).bind fun kv st => .ok (newD bx kv.1 kv.2 st).1 (newD bx kv.1 kv.2 st).2
theorem turnD_ok {ws : List Nat} {g : FG} {ft : FT} {fk fv : FE} {sg : Sig} {p : PV} {st st' : Store} {o : Option (PV × PV)} (h : turnD ws g ft fk fv sg p st = .ok o st') :
    ∃ sg' s1 b s2, g p (wipeS sg ws) st = .ok sg' s1 ∧ ft sg' s1 = .ok b s2 ∧ ((b = true ∧ ∃ k s3 v, fk sg' s2 = .ok k s3 ∧ fv sg' s3 = .ok v st' ∧ o = some (k, v)) ∨ (b = false ∧ o = none ∧ st' = s2)) := by
  have h : ((g p (wipeS sg ws) st).bind fun sg' st => (ft sg' st).bind fun b st => if b then (fk sg' st).bind fun k st => (fv sg' st).bind fun v st => .ok (some (k, v)) st else .ok none st) = .ok o st' := by
    unfold turnD noX at h
    split at h
    · cases h
    · exact h
  obtain ⟨sg', s1, h1, h⟩ := R.bind_ok h
  obtain ⟨b, s2, h2, h⟩ := R.bind_ok h
  refine ⟨sg', s1, b, s2, h1, h2, ?_⟩
  cases b with
  | true =>
    rw [if_pos rfl] at h
    obtain ⟨k, s3, h3, h⟩ := R.bind_ok h
    obtain ⟨v, s4, h4, h⟩ := R.bind_ok h
    cases h
    exact .inl ⟨rfl, k, s3, v, h3, h4, rfl⟩
  | false =>
    rw [if_neg Bool.false_ne_true] at h
    cases h
    exact .inr ⟨rfl, rfl, rfl⟩
theorem turnD_not {ws : List Nat} {g : FG} {ft : FT} {fk fv : FE} {sg : Sig} {p : PV} {st st' : Store} {x : Exc} : turnD ws g ft fk fv sg p st ≠ .ex x st' := by
  intro h
  unfold turnD noX at h
  split at h
  · cases h
  · rename_i hn; exact hn _ _ h
theorem tDc_of {T : Txt} {Wx : WX} {bx : Bool} {ws : List Nat} {fi : FA} {g : FG} {ft : FT} {fk fv : FE} : ∀ σ H Q, TEv T Wx (fDComp bx ws fi g ft fk fv) σ H Q → tDc (TIv T Wx fi) (TGv T WxF ws g) (TTv T WxF ft) (TEv T WxF fk) (TEv T WxF fv) ws σ H Q := fun σ H Q ⟨W, sg, st, S, so, q⟩ => by
  refine ⟨W, sg, st, S, so, (RQ.bind q).mono fun items st1 W1 H1 g1 S1 q1 J hJ D hD => ?_⟩
  have so1 := so.up g1.le
  obtain ⟨gD, SD⟩ := S1.loose hD (.dK [])
  have hnr : D ∉ W1.ρ := fun z => S1.dom D z hD
  refine ⟨fun i m H => m = items.length - i ∧ i ≤ items.length ∧ ∃ W2 st2 ks vs kvs, Go W1 H1 W2 H ∧ Sim T W2 st2 H ∧ H D = some (.dK kvs) ∧ W2.F D = none ∧ D ∉ W2.ρ ∧ RepK ks (kvs.map (·.1)) ∧ Reps T.K W2 vs (kvs.map (·.2)) ∧
    RQ T Wx σ W1 H1 ((dcompL (turnD ws g ft fk fv sg) (items.drop i) ks vs st2).bind fun kv st => .ok (newD bx kv.1 kv.2 st).1 (newD bx kv.1 kv.2 st).2) fun p st' W' H' => ∀ v, Rep T.K W' p v → Q v H',
    ⟨items.length, by simp, Nat.zero_le _, W1, st1, [], [], [], gD, SD, upd_same, S1.fresh hD, hnr, rfl, rfl, q1⟩, ?_⟩
  rintro i m H2 ⟨rfl, hi, W2, st2, ks, vs, kvs, g2, S2, hH, hF, hr, rk, rv, q2⟩
  obtain ⟨w1, w2⟩ := hJ W2 st2 H2 i g2.le S2
  by_cases hlt : i < items.length
  · obtain ⟨p, hp⟩ : ∃ p, items[i]? = some p := ⟨_, List.getElem?_eq_getElem hlt⟩
    have hdrop : items.drop i = p :: items.drop (i + 1) := by
      rw [List.drop_eq_getElem_cons hlt]
      congr 1
      have := List.getElem?_eq_getElem hlt
      rw [hp] at this
      exact (Option.some.inj this).symm
    obtain ⟨go, yl⟩ := w1 p hp
    rw [hdrop] at q2
    refine .inr ⟨go, fun H' => items.length - (i + 1) = items.length - (i + 1) ∧ i + 1 ≤ items.length ∧ ∃ W2 st2 ks vs kvs, Go W1 H1 W2 H' ∧ Sim T W2 st2 H' ∧ H' D = some (.dK kvs) ∧ W2.F D = none ∧ D ∉ W2.ρ ∧ RepK ks (kvs.map (·.1)) ∧ Reps T.K W2 vs (kvs.map (·.2)) ∧
      RQ T Wx σ W1 H1 ((dcompL (turnD ws g ft fk fv sg) (items.drop (i + 1)) ks vs st2).bind fun kv st => .ok (newD bx kv.1 kv.2 st).1 (newD bx kv.1 kv.2 st).2) fun p st' W' H' => ∀ v, Rep T.K W' p v → Q v H',
      fun H' h => ⟨items.length - (i + 1), by omega, h⟩, fun x H3 y => ?_⟩
    obtain ⟨W3, g3, S3, rx⟩ := yl x H3 y
    have hstep : dcompL (turnD ws g ft fk fv sg) (p :: items.drop (i + 1)) ks vs st2 = (turnD ws g ft fk fv sg p st2).bind fun o st => match o with
      | none => dcompL (turnD ws g ft fk fv sg) (items.drop (i + 1)) ks vs st
      | some kv => if (keyOf kv.1).isSome && decide (ks.length < sizeLine) then dcompL (turnD ws g ft fk fv sg) (items.drop (i + 1)) (putDk kv.1 ks) (putDv kv.1 kv.2 ks vs) st else .stuck := rfl
    rw [hstep, R.assoc] at q2
    cases hb : turnD ws g ft fk fv sg p st2 with
    | stuck => rw [hb] at q2; exact q2.elim
    | ex x s => exact (turnD_not hb).elim
    | ok o st3 =>
      rw [hb] at q2
      obtain ⟨sg', s1, b, s2, e1, e2, e3⟩ := turnD_ok hb
      refine ⟨W3, wipeS sg ws, st2, p, S3, SigOk.wipe (so1.up (g2.le.trans g3.le)) ws, rx, ?_⟩
      rw [e1]
      intro W4 H4 g4 S4 σ2 so2 out
      refine ⟨(Out.wipe out).trans (wipe_wipe σ ws), W4, sg', s1, S4, so2, ?_⟩
      rw [e2]
      intro W5 H5 g5 S5
      have g25 : Go W2 H2 W5 H5 := g3.trans (g4.trans g5)
      rcases e3 with ⟨rfl, k, s3, v, e3, e4, rfl⟩ | ⟨rfl, rfl, rfl⟩
      · refine iteT ?_
        refine ⟨W5, sg', s2, S5, so2.up g5.le, ?_⟩
        rw [e3]
        intro W6 H6 g6 S6 y ry
        refine ⟨W6, sg', s3, S6, so2.up (g5.le.trans g6.le), ?_⟩
        rw [e4]
        intro W7 H7 g7 S7 z rz
        have g27 : Go W2 H2 W7 H7 := (g25.trans g6).trans g7
        obtain ⟨k1, k2, k3⟩ := g27.keep D _ hH hF hr
        have q3 : RQ T Wx σ W1 H1 ((if (keyOf k).isSome && decide (ks.length < sizeLine) then dcompL (turnD ws g ft fk fv sg) (items.drop (i + 1)) (putDk k ks) (putDv k v ks vs) st3 else .stuck).bind fun kv st => .ok (newD bx kv.1 kv.2 st).1 (newD bx kv.1 kv.2 st).2) fun p st' W' H' => ∀ v, Rep T.K W' p v → Q v H' := q2
        by_cases hk : ((keyOf k).isSome && decide (ks.length < sizeLine)) = true
        rotate_left
        · rw [if_neg hk] at q3; exact q3.elim
        rw [if_pos hk] at q3
        rw [Bool.and_eq_true] at hk
        obtain ⟨key, hkey⟩ := Option.isSome_iff_exists.mp hk.1
        have ry' := ry.up g7.le
        obtain ⟨h1, h2⟩ := putD_at (repK1_of ry' hkey) rz rk (rv.up g27.le)
        have hlen : kvs.length = ks.length := by have := rk.length; simpa using this
        refine ⟨kvs, key, keyOf_V ry' hkey, k1, by rw [hlen]; exact of_decide_eq_true hk.2, rfl, hlt, W7, st3, _, _, _, ?_, S7.loosen k2 k3 _, upd_same, k2, k3, h1, h2, q3⟩
        refine ⟨(g2.trans g27).le, fun b o e1 e2 e3 => ?_⟩
        obtain ⟨z1, z2, z3⟩ := (g2.trans g27).keep b o e1 e2 e3
        have : b ≠ D := fun z => by subst z; rw [hD] at e1; cases e1
        exact ⟨(upd_ne this).trans z1, z2, z3⟩
      · refine iteF ?_
        obtain ⟨k1, k2, k3⟩ := g25.keep D _ hH hF hr
        exact ⟨rfl, hlt, W5, _, ks, vs, kvs, g2.trans g25, S5, k1, k2, k3, rk, rv.up g25.le, q2⟩
  · have hie : i = items.length := by omega
    have hdrop : items.drop i = [] := List.drop_eq_nil_of_le (by omega)
    rw [hdrop] at q2
    have q2 : RQ T Wx σ W1 H1 (.ok (newD bx ks vs st2).1 (newD bx ks vs st2).2) fun p st' W' H' => ∀ v, Rep T.K W' p v → Q v H' := q2
    refine .inl ⟨w2 (by omega), ?_⟩
    cases bx with
    | false =>
      obtain ⟨l, S3⟩ := S2.adopt hF hr hH
      exact q2 _ H2 (g2.adopt hD l fun b nb k1 k2 => ⟨(upd_ne nb).trans k1, k2⟩) S3 _ ⟨D, kvs, rfl, upd_same, rk, rv.up l⟩
    | true =>
      obtain ⟨l, S3, e⟩ := S2.adoptB hF hr (by rw [hH]; simp) (c := .dic ks vs) ⟨kvs, hH, rk, rv⟩
      exact q2 _ H2 (g2.adopt hD l fun b nb k1 k2 => ⟨k1, by rw [List.mem_append]; exact fun z => z.elim k2 fun z => nb (by simpa using z)⟩) S3 _ ⟨D, e, rfl⟩
section
variable {X : Cx} {T : Txt} {Wx : WX} {kx vx tg iter : Expr} {ifs : List Expr} {scope : Scope} {own : List (Str × Nat)} {pos : Pos} {fi : FA} {g : FG} {ft : FT} {fk fv : FE}
theorem de_dcomp (bx : Bool) (hc : X.calm = true) (hN : X.N.Nodup) (hi : PI X tg iter (TIv T Wx fi)) (ok : BlkOk X.N X.env.scope scope own)
    (hg : ∀ (s : Shared) (H : Hp) (C : Addr) (cl : List (Str × Addr)) (fp : List Addr), PG (X.blk s H scope (compEnvC scope cl C X.env) fp) tg (TGv T WxF (own.map (·.2)) g))
    (ht : ∀ (s : Shared) (H : Hp) (C : Addr) (cl : List (Str × Addr)) (fp : List Addr), PTs (X.blk s H scope (compEnvC scope cl C X.env) fp) ifs (TTv T WxF ft))
    (hk : ∀ (s : Shared) (H : Hp) (C : Addr) (cl : List (Str × Addr)) (fp : List Addr), PE (X.blk s H scope (compEnvC scope cl C X.env) fp) kx (TEv T WxF fk))
    (he : ∀ (s : Shared) (H : Hp) (C : Addr) (cl : List (Str × Addr)) (fp : List Addr), PE (X.blk s H scope (compEnvC scope cl C X.env) fp) vx (TEv T WxF fv)) (hs : notSet iter = true) :
    PE X (.DictComp kx vx [⟨tg, iter, ifs, 0⟩] scope pos) (TEv T Wx (fDComp bx (own.map (·.2)) fi g ft fk fv)) :=
  PEimp (pe_dc hc hN hi ok hg ht hk he (folded_of hs X.env)) tDc_of
end

/-! ### d.get, d.update -/
def isDic (p : PV) (st : Store) : Bool := match p with
  | .ref n => match st[n]? with
    | some (.dic _ _) => true
    | _ => false
  | .dic _ _ => true
  | _ => false
theorem isDic_at {T : Txt} {W : Wd} {st : Store} {H : Hp} (S : Sim T W st H) {p : PV} {v : V} (r : Rep T.K W p v) (h : isDic p st = true) : tyV T.K "dict" v H := by
  cases p with
  | ref n =>
    cases hc : st[n]? with
    | none => simp only [isDic, hc] at h; cases h
    | some c =>
      cases c with
      | dic ks vs =>
        obtain ⟨a, e, rfl⟩ := r
        obtain ⟨kvs, f, _⟩ := S.cell n a _ e hc
        exact .inr (.inr (.inl ⟨rfl, .inl ⟨kvs, f⟩⟩))
      | _ => simp only [isDic, hc] at h; cases h
  | dic ks vs => obtain ⟨a, kvs, rfl, f, _⟩ := r; exact .inr (.inr (.inl ⟨rfl, .inl ⟨kvs, S.sub _ _ f⟩⟩))
  | _ => cases h
def getM (p : PV) (ps : List PV) (st : Store) : Option (PV × Store) := match asDw p st with
  | some (ks, vs) => match ps with
    | [k] => (keyOf k).map fun _ => ((lookD k ks vs).getD .non, st)
    | [k, d] => (keyOf k).map fun _ => ((lookD k ks vs).getD d, st)
    | _ => none
  | none => none
theorem look_getD {K : PySem.W.Frag} {W : Wd} {k d : PV} {u : V} {key : Key} (hk : RepK1 k key) (rd : Rep K W d u) {ks vs : List PV} {kvs : List (Key × V)} (r1 : RepK ks (kvs.map (·.1))) (r2 : Reps K W vs (kvs.map (·.2))) : Rep K W ((lookD k ks vs).getD d) ((valV kvs key).getD u) := by
  rcases lookD_at hk r1 r2 with ⟨e1, e2⟩ | ⟨z, y, e1, e2, rz⟩
  · rw [e1, e2]; exact rd
  · rw [e1, e2]; exact rz
section
variable {X : Cx} {T : Txt}
theorem meGet (hK : T.K = X.K) (hu : X.A.units + 1 < cLine) : MtR X "dict.get" (rM T getM) := by
  rintro pins s σ H x xs v us Q I rx rs ⟨W, st, p, ps, z, S, rp, rps, h, k⟩
  unfold getM at h
  cases hd : asDw p st with
  | none => simp only [hd] at h; cases h
  | some kv =>
    obtain ⟨ks, vs⟩ := kv
    simp only [hd] at h
    obtain ⟨a, kvs, rfl, hH, r1, r2⟩ := asDw_at S rp hd
    cases (show v = Value.ref a from rx)
    match ps, h with
    | [q], h =>
      obtain ⟨y, rfl, rq⟩ := reps1 rps
      obtain ⟨u, rfl, ru⟩ := vals1 rs
      obtain ⟨key, hk, rfl⟩ := Option.map_eq_some_iff.mp h
      exact d_get1 hu I (.inl ⟨kvs, key, .inl hH, keyOf_V rq hk, rfl⟩) ru fun w' s' I' rw' => ⟨_, H, I', rw', k.here S (look_getD (repK1_of rq hk) (show Rep T.K W .non .non from rfl) r1 r2)⟩
    | [q, d], h =>
      obtain ⟨y, y2, rfl, rq, rd⟩ := reps2 rps
      obtain ⟨u, u2, rfl, ru, ru2⟩ := vals2 rs
      obtain ⟨key, hk, rfl⟩ := Option.map_eq_some_iff.mp h
      exact d_get2 hu I (.inl ⟨kvs, key, .inl hH, keyOf_V rq hk, rfl⟩) ru ru2 fun w' s' I' rw' => ⟨_, H, I', rw', k.here S (look_getD (repK1_of rq hk) rd r1 r2)⟩
    | [], h => cases h
    | _ :: _ :: _ :: _, h => cases h
def mrgD : List PV → List PV → List PV → List PV → List PV × List PV
  | k :: ks2, v :: vs2, ks, vs => mrgD ks2 vs2 (putDk k ks) (putDv k v ks vs)
  | _, _, ks, vs => (ks, vs)
theorem mrgD_at {K : PySem.W.Frag} {W : Wd} : ∀ {ks2 vs2 : List PV} {more : List (Key × V)} {ks vs : List PV} {kvs : List (Key × V)}, RepK ks2 (more.map (·.1)) → Reps K W vs2 (more.map (·.2)) → RepK ks (kvs.map (·.1)) → Reps K W vs (kvs.map (·.2)) →
    RepK (mrgD ks2 vs2 ks vs).1 ((mergeK kvs more).map (·.1)) ∧ Reps K W (mrgD ks2 vs2 ks vs).2 ((mergeK kvs more).map (·.2))
  | [], vs2, more, ks, vs, kvs, r1, r2, r3, r4 => by
    have : more = [] := List.map_eq_nil_iff.mp (show more.map (·.1) = [] from r1)
    subst this
    cases vs2 <;> exact ⟨r3, r4⟩
  | _ :: _, [], more, ks, vs, kvs, r1, r2, r3, r4 => by
    have : more = [] := List.map_eq_nil_iff.mp (show more.map (·.2) = [] from r2)
    subst this
    obtain ⟨k, r, e, _⟩ := r1
    cases e
  | k :: ks2, v :: vs2, [], ks, vs, kvs, r1, r2, r3, r4 => by obtain ⟨k, r, e, _⟩ := r1; cases e
  | k :: ks2, v :: vs2, (key, u) :: more, ks, vs, kvs, ⟨k', r, e, hk, t⟩, ⟨v', r', e', rv, t'⟩, r3, r4 => by
    cases e
    cases e'
    obtain ⟨h1, h2⟩ := putD_at hk rv r3 r4
    exact mrgD_at (ks2 := ks2) (vs2 := vs2) (more := more) (ks := putDk k ks) (vs := putDv k v ks vs) t t' h1 h2
/-- another dict than cell n -/
def notRef (n : Nat) : PV → Bool
  | .ref m => decide (m ≠ n)
  | _ => true
def updM (p : PV) (ps : List PV) (st : Store) : Option (PV × Store) := match p with
  | .ref n => match st[n]?, ps with
    | some (.dic ks vs), [q] => match asDw q st with
      | some (ks2, vs2) => if notRef n q && decide (ks.length + ks2.length ≤ sizeLine) then some (.non, st.set n (.dic (mrgD ks2 vs2 ks vs).1 (mrgD ks2 vs2 ks vs).2)) else none
      | none => none
    | _, _ => none
  | _ => none
theorem meUpd (hK : T.K = X.K) : MtR X "dict.update" (rM T updM) := by
  rintro pins s σ H x xs v us Q I rx rs ⟨W, st, p, ps, z, S, rp, rps, h, k⟩
  cases p with
  | ref n =>
    cases hc : st[n]? with
    | none => simp only [updM, hc] at h; cases h
    | some c =>
      cases c with
      | dic ks vs =>
        match ps, h with
        | [q], h =>
          have h : (match asDw q st with
            | some (ks2, vs2) => if notRef n q && decide (ks.length + ks2.length ≤ sizeLine) then some (PV.non, st.set n (Cell.dic (mrgD ks2 vs2 ks vs).1 (mrgD ks2 vs2 ks vs).2)) else none
            | none => none) = some z := by simpa only [updM, hc] using h
          obtain ⟨y, rfl, rq⟩ := reps1 rps
          obtain ⟨u, rfl, ru⟩ := vals1 rs
          cases hd : asDw q st with
          | none => simp only [hd] at h; cases h
          | some kv =>
            obtain ⟨ks2, vs2⟩ := kv
            simp only [hd] at h
            by_cases hz : (notRef n q && decide (ks.length + ks2.length ≤ sizeLine)) = true
            rotate_left
            · rw [if_neg hz] at h; cases h
            rw [if_pos hz] at h
            have h := Option.some.inj h
            subst h
            rw [Bool.and_eq_true] at hz
            obtain ⟨a, ea, rfl⟩ := rp
            obtain ⟨kvs, hH, r1, r2⟩ := S.cell n a _ ea hc
            obtain ⟨b, more, rfl, hB, r3, r4⟩ := asDw_at S rq hd
            cases (show v = Value.ref a from rx)
            cases (show u = Value.ref b from ru)
            have hab : a ≠ b := by
              cases q with
              | ref m =>
                obtain ⟨b', eb, e'⟩ := rq
                cases e'
                exact S.other ea eb (Ne.symm (of_decide_eq_true hz.1))
              | dic ks' vs' =>
                obtain ⟨b', kvs', e', f', _⟩ := rq
                cases e'
                rintro rfl
                have := S.off n a _ ea hc rfl
                rw [this] at f'; cases f'
              | _ => simp [asDw] at hd
            obtain ⟨z1, n1, us1, rel1, dd1⟩ := dk_of I.hok hH
            obtain ⟨z2, n2, us2, rel2, dd2⟩ := dk_of I.hok hB
            have l1 : kvs.length = ks.length := by have := r1.length; simpa using this
            have l2 : more.length = ks2.length := by have := r3.length; simpa using this
            have hsz := of_decide_eq_true hz.2
            refine call_meetsIn F.slot_dict_update dd1.typeIs F.entry_dict_update (F.args_dict_update_2 _ _) (meets_dict_update (mixKind X.prog X.w) a b hab n2) ⟨us1, us2, dd1, dd2, by rw [← KV.length rel1, ← KV.length rel2]; omega, fun h' d1 d2 sb => ?_⟩
            have hl : (mergeK kvs more).length ≤ sizeLine := by have := length_mergeK more kvs; omega
            have I' : Inv X pins σ (upd H a (.dK (mergeK kvs more))) { s with heap := h' } := d_write (t' := s.toks) I (by rw [hH]; exact True.intro) sb (let ⟨q, _, _, hq, _⟩ := d1; ⟨q, hq⟩) (dk_new hl n1 (KV.merge rel2 rel1) d1)
            obtain ⟨m1, m2⟩ := mrgD_at r3 r4 r1 r2
            obtain ⟨g, S'⟩ := S.write ea hc rfl (.dK (mergeK kvs more)) (c' := .dic (mrgD ks2 vs2 ks vs).1 (mrgD ks2 vs2 ks vs).2) ⟨_, upd_same, m1, m2⟩
            exact ⟨.non, _, I', rfl, k _ _ g S' _ rfl⟩
        | [], h => simp only [updM, hc] at h; cases h
        | _ :: _ :: _, h => simp only [updM, hc] at h; cases h
      | _ => simp only [updM, hc] at h; cases h
  | _ => cases h
end

/-! ### a list made of two, a cell -/
def fCat (bx : Bool) (f g : FE) : FE := fun sg st => (f sg st).bind fun p st => (g sg st).bind fun q st => match asL p st, asL q st with
  | some xs, some ys => if xs.length + ys.length ≤ sizeLine then .ok (newL bx (xs ++ ys) st).1 (newL bx (xs ++ ys) st).2 else .stuck
  | _, _ => .stuck
section
variable {X : Cx} {T : Txt} {Wx : WX} {a b : Expr} {f g : FE} {pos : Pos}
theorem de_cat (bx : Bool) (ha : PE X a (TEv T Wx f)) (hb : PE X b (TEv T Wx g)) : PE X (.BinOp a .Add b pos) (TEv T Wx (fCat bx f g)) :=
  PEimp (pe_op op_cat ha hb) fun σ H Q ⟨W, sg, st, S, so, q⟩ => ⟨W, sg, st, S, so, (RQ.bind q).mono fun p st1 W1 H1 g1 S1 q1 v rv => ⟨W1, sg, st1, S1, so.up g1.le, (RQ.bind q1).mono fun p2 st2 W2 H2 g2 S2 q2 u ru => by
    cases h1 : asL p st2 with
    | none => simp only [h1] at q2; exact q2.elim
    | some xs =>
      cases h2 : asL p2 st2 with
      | none => simp only [h1, h2] at q2; exact q2.elim
      | some ys =>
        simp only [h1, h2] at q2
        by_cases hz : xs.length + ys.length ≤ sizeLine
        rotate_left
        · rw [if_neg hz] at q2; exact q2.elim
        rw [if_pos hz] at q2
        obtain ⟨l, vs, rfl, e1, r1⟩ := asL_at S2 (rv.up g2.le) h1
        obtain ⟨l2, us, rfl, e2, r2⟩ := asL_at S2 ru h2
        exact ⟨l, l2, vs, us, rfl, rfl, e1, e2, by rw [Reps.length r1, Reps.length r2]; exact hz, PostS.newL (bx := bx) (show PostS T W2 H2 (newL bx (xs ++ ys) st2) Q from q2) S2 (r1.app r2)⟩⟩⟩

/-! ### dict(zip(a, b)) -/
def zipD : List PV → List PV → List PV → List PV → Option (List PV × List PV)
  | k :: ks2, v :: vs2, ks, vs => if (keyOf k).isSome then zipD ks2 vs2 (putDk k ks) (putDv k v ks vs) else none
  | _, _, ks, vs => some (ks, vs)
def fDictZip (bx : Bool) (f g : FE) : FE := fun sg st => (f sg st).bind fun p st => (g sg st).bind fun q st => match seqX p st, seqX q st with
  | some xs, some ys => match zipD xs.2 ys.2 [] [] with
    | some kv => .ok (newD bx kv.1 kv.2 st).1 (newD bx kv.1 kv.2 st).2
    | none => .stuck
  | _, _ => .stuck
where
  seqX : PV → Store → Option (Bool × List PV)
  | .tup xs, _ => some (true, xs)
  | p, st => (asR p st).map fun xs => (false, xs)
theorem seqX_at (hK : T.K = X.K) {W : Wd} {st : Store} {H : Hp} (S : Sim T W st H) {p : PV} {v : V} (r : Rep T.K W p v) {x : Bool × List PV} (h : fDictZip.seqX p st = some x) : ∃ l vs, v = .ref l ∧ SqX x.1 X.K H l vs ∧ Reps T.K W x.2 vs := by
  have oth : (asR p st).map (fun xs => (false, xs)) = some x → ∃ l vs, v = .ref l ∧ SqX x.1 X.K H l vs ∧ Reps T.K W x.2 vs := fun e => by
    obtain ⟨xs, h1, rfl⟩ := Option.map_eq_some_iff.mp e
    obtain ⟨a, vs, rfl, e1, r1⟩ := asR_at S r h1
    exact ⟨a, vs, rfl, hK ▸ e1, r1⟩
  cases p with
  | tup xs => cases h; obtain ⟨a, vs, rfl, q, rs⟩ := r; exact ⟨a, vs, rfl, hK ▸ SqT.up q S.sub, rs⟩
  | _ => exact oth h
theorem zipD_at {K : PySem.W.Frag} {W : Wd} : ∀ {xs ys : List PV} {vs us : List V} {ks ws : List PV} {kvs : List (Key × V)} {out : List PV × List PV}, Reps K W xs vs → Reps K W ys us → RepK ks (kvs.map (·.1)) → Reps K W ws (kvs.map (·.2)) → zipD xs ys ks ws = some out →
    ∃ more, ZipK vs us more ∧ RepK out.1 ((mergeK kvs more).map (·.1)) ∧ Reps K W out.2 ((mergeK kvs more).map (·.2))
  | [], ys, vs, us, ks, ws, kvs, out, r1, r2, r3, r4, h => by
    cases r1
    have : (ks, ws) = out := by cases ys <;> exact Option.some.inj h
    subst this
    exact ⟨[], by cases us <;> rfl, r3, r4⟩
  | x :: xs, [], vs, us, ks, ws, kvs, out, r1, r2, r3, r4, h => by
    cases r2
    have : (ks, ws) = out := Option.some.inj h
    subst this
    obtain ⟨v, r, rfl, _, _⟩ := r1
    exact ⟨[], rfl, r3, r4⟩
  | x :: xs, y :: ys, _, _, ks, ws, kvs, out, ⟨v, r, e, rx, rr⟩, ⟨u, t, e', ry, rt⟩, r3, r4, h => by
    subst e e'
    unfold zipD at h
    cases hk : keyOf x with
    | none => rw [hk] at h; cases h
    | some key =>
      have h : zipD xs ys (putDk x ks) (putDv x y ks ws) = some out := by simpa [hk] using h
      obtain ⟨h1, h2⟩ := putD_at (repK1_of rx hk) ry r3 r4
      obtain ⟨more, z, m1, m2⟩ := zipD_at rr rt h1 h2 h
      exact ⟨(key, u) :: more, ⟨key, more, rfl, keyOf_V rx hk, z⟩, m1, m2⟩
theorem de_dictZip {p p2 pos2 : Pos} (bx : Bool) (hK : T.K = X.K) (hc : X.calm = true) (hd : Gl X "dict") (hdm : X.mg "dict" = none) (hg : Gl X "zip") (hm : X.mg "zip" = none) (ha : PE X a (TEv T Wx f)) (hb : PE X b (TEv T Wx g)) (hs : notStar a = true) (hs' : notStar b = true) :
    PE X (.Call (.Name "dict" p) [.Call (.Name "zip" p2) [a, b] [] pos2] [] pos) (TEv T Wx (fDictZip bx f g)) :=
  PEimp (pe_dictZip hc hd hdm hg hm (pa_cons ha (pa_cons hb pa_nil (star_of hs')) (star_of hs)) (star_of hs) (fun _ => stars_of (by simp [hs']))) fun σ H Q ⟨W, sg, st, S, so, q⟩ => ⟨W, sg, st, S, so, (RQ.bind q).mono fun p st1 W1 H1 g1 S1 q1 v rv => ⟨W1, sg, st1, S1, so.up g1.le, (RQ.bind q1).mono fun p2 st2 W2 H2 g2 S2 q2 u ru => by
    cases h1 : fDictZip.seqX p st2 with
    | none => simp only [h1] at q2; exact q2.elim
    | some xs =>
      cases h2 : fDictZip.seqX p2 st2 with
      | none => simp only [h1, h2] at q2; exact q2.elim
      | some ys =>
        simp only [h1, h2] at q2
        cases h3 : zipD xs.2 ys.2 [] [] with
        | none => simp only [h3] at q2; exact q2.elim
        | some kv =>
          simp only [h3] at q2
          obtain ⟨l, vs, rfl, e1, r1⟩ := seqX_at hK S2 (rv.up g2.le) h1
          obtain ⟨l2, us, rfl, e2, r2⟩ := seqX_at hK S2 ru h2
          obtain ⟨more, zk, m1, m2⟩ := zipD_at (kvs := []) (ks := []) (ws := []) r1 r2 rfl rfl h3
          exact ⟨l, l2, vs, us, _, _, more, rfl, e1, e2, zk, PostS.newD (bx := bx) (show PostS T W2 H2 (newD bx kv.1 kv.2 st2) Q from q2) S2 m1 m2⟩⟩⟩
end
end Pv
/-! Pv, part Y3: name = {k: v for ..}: the dict goes straight into the name. -/
namespace Pv
open PySem PySem.Spec PyProof.Rows PySem.SeqAt L2
section
variable {X : Cx} {T : Txt} {Wx : WX} {kx vx tg iter : Expr} {ifs : List Expr} {scope : Scope} {own : List (Str × Nat)} {pos spos : Pos} {i : Nat} {y : Str} {py : Pos}
theorem ps_setDc {wi : TI} {g : TG} {tt : TT} {tk tv : TE} (hc : X.calm = true) (hN : X.N.Nodup) (hy : X.N[i]? = some y) (hyl : X.env.scope.names.lookup y = some .local)
    (hsw : swapsWith (.DictComp kx vx [⟨tg, iter, ifs, 0⟩] scope pos) (some (.Name y py)) spos.line X.env = pure true) (hi : PI X tg iter wi) (ok : BlkOk X.N X.env.scope scope own)
    (hg : ∀ (s : Shared) (H : Hp) (C : Addr) (cl : List (Str × Addr)) (fp : List Addr), PG (X.blk s H scope (compEnvC scope cl C X.env) fp) tg g) (ht : ∀ (s : Shared) (H : Hp) (C : Addr) (cl : List (Str × Addr)) (fp : List Addr), PTs (X.blk s H scope (compEnvC scope cl C X.env) fp) ifs tt)
    (hk : ∀ (s : Shared) (H : Hp) (C : Addr) (cl : List (Str × Addr)) (fp : List Addr), PE (X.blk s H scope (compEnvC scope cl C X.env) fp) kx tk)
    (he : ∀ (s : Shared) (H : Hp) (C : Addr) (cl : List (Str × Addr)) (fp : List Addr), PE (X.blk s H scope (compEnvC scope cl C X.env) fp) vx tv) (hs : ∀ x, foldedSetIterable iter X.env x = pure x) :
    PS X (.Assign [.Name y py] (.DictComp kx vx [⟨tg, iter, ifs, 0⟩] scope pos) spos) (tAsg (tDc wi g tt tk tv (own.map (·.2))) (gName i)) := by
  refine ⟨fun pins s σ H D I q => ?_⟩
  rw [exec_Assign_Name_used _ _ _ _ hsw]
  refine wpAny_bind (wpAny_standAt (wpAny_bind ?_))
  refine (show wpAny _ X.A (do let _ ← comprehension (.DictComp kx vx [⟨tg, iter, ifs, 0⟩] scope pos) scope X.env (firstIterPos [⟨tg, iter, ifs, 0⟩] pos) newDict false (eval iter X.env) (some (assign (.Name y py) X.env))) _ _ s from ?_)
  have q : tDc wi g tt tk tv (own.map (·.2)) σ H (fun x H1 => gName i x σ H1 D.nx) := q
  refine wpAny_bind (thn (dc_core (Qf := fun _ s' => SP X pins D .next s') hc hN I hi ok hg ht hk he hs q fun L C s' m H' I' q hn f => ?_) fun _ s' hq => wpAny_pure (wpAny_pure hq))
  refine (show wpAny _ _ (assign (.Name y py) X.env (.ref L)) _ _ _ from ?_)
  refine wpAny_assign_Name (store_ok2 (v := V.ref L) I' hN hy (.inl hyl) rfl (fun s2 I2 ⟨a, sb, ha⟩ => ?_) (.inr hyl))
  obtain ⟨f0, f1, f2, f3, f4, f5⟩ := f
  have haC : C ≠ a := ha.elim (fun z => by rw [z]; exact f1) fun z e => f4 y a z e.symm
  exact ⟨m, hn.sameBut sb haC, fun h3 sb3 => ⟨_, H', I2.turned (t' := s2.toks) (fun b o hb e => (sb3.2 b hb).trans e) f0 f1 f3 f4 f5, q⟩⟩
/-- the dict goes straight into the name, or not -/
def noSwapD (sc : Scope) (t : Str) (q p : Pos) (s : Scope) : Bool := !(sc.names.lookup t == some .local && q.line == p.line && !(s.names.any fun (n, k) => n == t && (k == .local || k == .cell)))
theorem swapD_of {sc : Scope} {l : Nat} {env : Env} {gs : List Comprehension} (hs : env.scope = sc) (hk : sc.kind = .function) : swapsWith (.DictComp kx vx gs scope pos) (some (.Name y py)) l env = pure (!noSwapD sc y py pos scope) := by
  subst hs
  unfold swapsWith noSwapD
  have hb : env.blockKind = .function := by unfold Env.blockKind; rw [hk]; rfl
  simp only [hb, Env.kindOf, Expr.pos, beq_self_eq_true, Bool.true_and, Bool.not_not]
variable {fi : FA} {g : FG} {ft : FT} {fk fv : FE} {sc : Scope}
theorem ds_setDc (bx : Bool) (hsc : X.env.scope = sc) (hkn : sc.kind = .function) (hc : X.calm = true) (hN : X.N.Nodup) (hy : X.N[i]? = some y) (hyl : X.env.scope.names.lookup y = some .local) (hsw : noSwapD sc y py pos scope = false)
    (hi : PI X tg iter (TIv T Wx fi)) (ok : BlkOk X.N X.env.scope scope own)
    (hg : ∀ (s : Shared) (H : Hp) (C : Addr) (cl : List (Str × Addr)) (fp : List Addr), PG (X.blk s H scope (compEnvC scope cl C X.env) fp) tg (TGv T WxF (own.map (·.2)) g))
    (ht : ∀ (s : Shared) (H : Hp) (C : Addr) (cl : List (Str × Addr)) (fp : List Addr), PTs (X.blk s H scope (compEnvC scope cl C X.env) fp) ifs (TTv T WxF ft))
    (hk : ∀ (s : Shared) (H : Hp) (C : Addr) (cl : List (Str × Addr)) (fp : List Addr), PE (X.blk s H scope (compEnvC scope cl C X.env) fp) kx (TEv T WxF fk))
    (he : ∀ (s : Shared) (H : Hp) (C : Addr) (cl : List (Str × Addr)) (fp : List Addr), PE (X.blk s H scope (compEnvC scope cl C X.env) fp) vx (TEv T WxF fv)) (hs : notSet iter = true) :
    PS X (.Assign [.Name y py] (.DictComp kx vx [⟨tg, iter, ifs, 0⟩] scope pos) spos) (TSv T Wx (fsAsg (fDComp bx (own.map (·.2)) fi g ft fk fv) (gtName i))) :=
  PSimp (ps_setDc hc hN hy hyl (by rw [swapD_of hsc hkn, hsw]; rfl) hi ok hg ht hk he (folded_of hs X.env)) fun D σ H q =>
    tDc_of (Wx := Wx) (bx := bx) σ H _ (show TEv T Wx _ σ H _ from by
      obtain ⟨W, sg, st, S, so, q⟩ := q
      exact ⟨W, sg, st, S, so, (SQ.bindE q so).mono fun p st1 W1 H1 g1 S1 q1 v rv => q1 W1 H1 _ (.refl _ _) S1 ((so.up g1.le).put i rv)⟩)
end
end Pv
/-! Pv, part V: a cell walked by a statement; two clauses in a comprehension. -/
namespace Pv
open PySem PySem.Spec PyProof.Rows PySem.SeqAt L2

/-! ### for x in a cell that keeps its length -/
def forV (g : FG) (body : FS) (n N : Nat) : Nat → Sig → Store → SR
  | 0, sg, st => match cellL n st with
    | some xs => if xs.length = N then .nx sg st else .stuck
    | none => .stuck
  | k + 1, sg, st => match cellL n st with
    | some xs => if xs.length = N then (match xs[N - (k + 1)]? with
      | some p => bindE (g p sg st) sg fun sg1 st1 => match body sg1 st1 with
        | .nx sg st => forV g body n N k sg st
        | .ct sg st => forV g body n N k sg st
        | .bk sg st => .nx sg st
        | r => r
      | none => .stuck) else .stuck
    | none => .stuck
def fsForV (fv : FE) (g : FG) (body : FS) : FS := fun sg st => bindE (fv sg st) sg fun p st => match p with
  | .ref n => match cellL n st with
    | some xs => forV g body n xs.length xs.length sg st
    | none => .stuck
  | _ => .stuck
section
variable {X : Cx} {T : Txt} {Wx : WX} {pos : Pos} {tg iter : Expr} {fv : FE} {body : FS} {gt : FG} {ws : List Nat}
theorem tForV_of : ∀ D σ H, TSv T Wx (fsForV fv gt body) D σ H → tFor (TLr T Wx fv) (TGv T Wx ws gt) (TSv T Wx body) D σ H := fun D σ H ⟨W, sg, st, S, so, q⟩ =>
  ⟨W, sg, st, S, so, (SQ.bindE q so).mono fun p st1 W1 H1 g1 S1 q1 pv rpv => by
    cases p with
    | ref n =>
      cases hn : cellL n st1 with
      | none => simp only [hn] at q1; exact q1.elim
      | some xs =>
        simp only [hn] at q1
        obtain ⟨a, ea, rfl⟩ := rpv
        obtain ⟨vs0, f0, r0⟩ := S1.cell n a _ ea (cellL_at hn)
        generalize hN : xs.length = N at q1
        refine ⟨a, rfl, ⟨vs0, SqL.of f0⟩, fun i m σ2 H2 => m = N - i ∧ i ≤ N ∧ ∃ W2 sg2 st2, W1.Le W2 ∧ Sim T W2 st2 H2 ∧ SigOk T.K W2 sg2 σ2 ∧ SQ T Wx D W2 H2 (forV gt body n N (N - i) sg2 st2),
          ⟨N, by simp, Nat.zero_le _, W1, sg, st1, .refl _, S1, so.up g1.le, q1⟩, ?_⟩
        rintro i m σ2 H2 ⟨rfl, hi, W2, sg2, st2, l2, S2, so2, q2⟩
        have ea2 := l2.ρ n a ea
        by_cases hlt : i < N
        · obtain ⟨k, hk⟩ : ∃ k, N - i = k + 1 := ⟨N - i - 1, by omega⟩
          have hk' : N - (i + 1) = k := by omega
          have hki : N - (k + 1) = i := by omega
          rw [hk] at q2
          have e0 : forV gt body n N (k + 1) sg2 st2 = match cellL n st2 with
            | some xs => if xs.length = N then (match xs[N - (k + 1)]? with
              | some p => bindE (gt p sg2 st2) sg2 fun sg1 st1 => match body sg1 st1 with
                | .nx sg st => forV gt body n N k sg st
                | .ct sg st => forV gt body n N k sg st
                | .bk sg st => .nx sg st
                | r => r
              | none => .stuck) else .stuck
            | none => .stuck := rfl
          rw [e0] at q2
          cases hc : cellL n st2 with
          | none => rw [hc] at q2; exact q2.elim
          | some ys =>
            rw [hc] at q2
            simp only [] at q2
            by_cases hy : ys.length = N
            rotate_left
            · rw [if_neg hy] at q2; exact q2.elim
            rw [if_pos hy, hki] at q2
            cases hp : ys[i]? with
            | none => rw [hp] at q2; exact q2.elim
            | some p =>
              rw [hp] at q2
              simp only [] at q2
              obtain ⟨vs2, f2, r2⟩ := S2.cell n a _ ea2 (cellL_at hc)
              obtain ⟨pv, hpv, rp⟩ := r2.get hp
              refine .inr ⟨⟨vs2, pv, SqL.of f2, hpv⟩, fun σ' H' => i + 1 ≤ N ∧ ∃ W2 sg2 st2, W1.Le W2 ∧ Sim T W2 st2 H' ∧ SigOk T.K W2 sg2 σ' ∧ SQ T Wx D W2 H' (forV gt body n N (N - (i + 1)) sg2 st2),
                fun σ' H' ⟨h1, h⟩ => ⟨N - (i + 1), by omega, rfl, h1, h⟩, fun x H3 y => ?_⟩
              obtain ⟨rfl, y⟩ := y
              have e1 := y vs2 (SqL.of f2)
              rw [hpv] at e1; cases e1
              refine ⟨W2, sg2, st2, p, S2, so2, rp, (SQ.bindE q2 so2).mono fun sg4 st4 W4 H4 g4 S4 q4 σ4 so4 _ => ⟨W4, sg4, st4, S4, so4, ?_⟩⟩
              have l4 := l2.trans g4.le
              rw [hk']
              cases hb : body sg4 st4 with
              | nx sg5 st5 => rw [hb] at q4; exact fun W' H' σ' g S' so' => ⟨hlt, W', sg5, st5, l4.trans g.le, S', so', SQ.later q4 g⟩
              | ct sg5 st5 => rw [hb] at q4; exact fun W' H' σ' g S' so' => ⟨hlt, W', sg5, st5, l4.trans g.le, S', so', SQ.later q4 g⟩
              | bk sg5 st5 => rw [hb] at q4; exact q4
              | rt p st5 => rw [hb] at q4; exact q4
              | ex x sg5 st5 => rw [hb] at q4; exact q4
              | stuck => rw [hb] at q4; exact q4
        · have h0 : N - i = 0 := by omega
          rw [h0] at q2
          have e0 : forV gt body n N 0 sg2 st2 = match cellL n st2 with
            | some xs => if xs.length = N then .nx sg2 st2 else .stuck
            | none => .stuck := rfl
          rw [e0] at q2
          cases hc : cellL n st2 with
          | none => rw [hc] at q2; exact q2.elim
          | some ys =>
            rw [hc] at q2
            simp only [] at q2
            by_cases hy : ys.length = N
            rotate_left
            · rw [if_neg hy] at q2; exact q2.elim
            rw [if_pos hy] at q2
            obtain ⟨vs2, f2, r2⟩ := S2.cell n a _ ea2 (cellL_at hc)
            exact .inl ⟨⟨vs2, SqL.of f2, by rw [Reps.length r2]; omega⟩, SQ.nx_here q2 S2 so2⟩
    | _ => exact q1.elim⟩
theorem ds_forV {b : List Stmt} (hp : PassesOwn (model X.prog X.w) X.A X.env X.xe) (hc : X.calm = true) (hi : PI X tg iter (TLr T Wx fv)) (hg : PG X tg (TGv T Wx ws gt)) (hb : PSs X b (TSv T Wx body)) (hs : notSet iter = true) :
    PS X (.For tg iter b [] pos) (TSv T Wx (fsForV fv gt body)) := PSimp (ps_for hp hc hi hg hb (folded_of hs X.env)) tForV_of
end
end Pv
/-! Pv, part V2: comprehensions of two clauses. -/
namespace Pv
open PySem PySem.Spec PyProof.Rows PySem.SeqAt L2

def inL (body : PV → Store → R (Option PV)) : List PV → List PV → Store → R (List PV)
  | [], acc, st => .ok acc st
  | p :: ps, acc, st => (body p st).bind fun o st => match o with
    | none => inL body ps acc st
    | some q => if acc.length < sizeLine then inL body ps (acc ++ [q]) st else .stuck
def outL (turn : PV → List PV → Store → R (List PV)) : List PV → List PV → Store → R (List PV)
  | [], acc, st => .ok acc st
  | p :: ps, acc, st => (turn p acc st).bind fun acc st => outL turn ps acc st
def turn2 (ws ws1 : List Nat) (g : FG) (ft : FT) (fi1 : FA) (g1 : FG) (ft1 : FT) (f : FE) (sg : Sig) (p : PV) (acc : List PV) (st : Store) : R (List PV) :=
  noX ((g p (wipeS sg ws) st).bind fun sg' st => (ft sg' st).bind fun b st => if b then (fi1 sg' st).bind fun items st => inL (turnC ws1 g1 ft1 f sg') items acc st else .ok acc st)
def fComp2 (bx : Bool) (ws ws1 : List Nat) (fi : FA) (g : FG) (ft : FT) (fi1 : FA) (g1 : FG) (ft1 : FT) (f : FE) : FE := fun sg st => (fi sg st).bind fun items st =>
  (outL (turn2 ws ws1 g ft fi1 g1 ft1 f sg) items [] st).bind fun ys st => .ok (newL bx ys st).1 (newL bx ys st).2
theorem turn2_ok {ws ws1 : List Nat} {g g1 : FG} {ft ft1 : FT} {fi1 : FA} {f : FE} {sg : Sig} {p : PV} {acc ac2 : List PV} {st st' : Store} (h : turn2 ws ws1 g ft fi1 g1 ft1 f sg p acc st = .ok ac2 st') :
    ∃ sg' s1 b s2, g p (wipeS sg ws) st = .ok sg' s1 ∧ ft sg' s1 = .ok b s2 ∧ ((b = true ∧ ∃ items s3, fi1 sg' s2 = .ok items s3 ∧ inL (turnC ws1 g1 ft1 f sg') items acc s3 = .ok ac2 st') ∨ (b = false ∧ ac2 = acc ∧ st' = s2)) := by
  have h : ((g p (wipeS sg ws) st).bind fun sg' st => (ft sg' st).bind fun b st => if b then (fi1 sg' st).bind fun items st => inL (turnC ws1 g1 ft1 f sg') items acc st else .ok acc st) = .ok ac2 st' := by
    unfold turn2 noX at h
    split at h
    · cases h
    · exact h
  obtain ⟨sg', s1, h1, h⟩ := R.bind_ok h
  obtain ⟨b, s2, h2, h⟩ := R.bind_ok h
  refine ⟨sg', s1, b, s2, h1, h2, ?_⟩
  cases b with
  | true =>
    rw [if_pos rfl] at h
    obtain ⟨items, s3, h3, h⟩ := R.bind_ok h
    exact .inl ⟨rfl, items, s3, h3, h⟩
  | false =>
    rw [if_neg Bool.false_ne_true] at h
    cases h
    exact .inr ⟨rfl, rfl, rfl⟩
theorem turn2_not {ws ws1 : List Nat} {g g1 : FG} {ft ft1 : FT} {fi1 : FA} {f : FE} {sg : Sig} {p : PV} {acc : List PV} {st st' : Store} {x : Exc} : turn2 ws ws1 g ft fi1 g1 ft1 f sg p acc st ≠ .ex x st' := by
  intro h
  unfold turn2 noX at h
  split at h
  · cases h
  · rename_i hn; exact hn _ _ h
theorem tLc2_of {T : Txt} {Wx : WX} {bx : Bool} {ws ws1 : List Nat} {fi fi1 : FA} {g g1 : FG} {ft ft1 : FT} {f : FE} : ∀ σ H Q, TEv T Wx (fComp2 bx ws ws1 fi g ft fi1 g1 ft1 f) σ H Q →
    tLc2 (TIv T Wx fi) (TGv T WxF ws g) (TTv T WxF ft) (TIv T WxF fi1) (TGv T WxF ws1 g1) (TTv T WxF ft1) (TEv T WxF f) ws ws1 σ H Q := fun σ H Q ⟨W, sg, st, S, so, q⟩ => by
  refine ⟨W, sg, st, S, so, (RQ.bind q).mono fun items st1 W1 H1 g1' S1 q1 J hJ D hD => ?_⟩
  have so1 := so.up g1'.le
  obtain ⟨gD, SD⟩ := S1.loose hD (.lst [])
  have hnr : D ∉ W1.ρ := fun z => S1.dom D z hD
  refine ⟨fun i m H => m = items.length - i ∧ i ≤ items.length ∧ ∃ W2 st2 acc accV, Go W1 H1 W2 H ∧ Sim T W2 st2 H ∧ H D = some (.lst accV) ∧ W2.F D = none ∧ D ∉ W2.ρ ∧ Reps T.K W2 acc accV ∧
    RQ T Wx σ W1 H1 ((outL (turn2 ws ws1 g ft fi1 g1 ft1 f sg) (items.drop i) acc st2).bind fun ys st => .ok (newL bx ys st).1 (newL bx ys st).2) fun p st' W' H' => ∀ v, Rep T.K W' p v → Q v H',
    ⟨items.length, by simp, Nat.zero_le _, W1, st1, [], [], gD, SD, upd_same, S1.fresh hD, hnr, rfl, q1⟩, ?_⟩
  rintro i m H2 ⟨rfl, hi, W2, st2, acc, accV, g2, S2, hH, hF, hr, ra, q2⟩
  obtain ⟨w1, w2⟩ := hJ W2 st2 H2 i g2.le S2
  by_cases hlt : i < items.length
  · obtain ⟨p, hp⟩ : ∃ p, items[i]? = some p := ⟨_, List.getElem?_eq_getElem hlt⟩
    have hdrop : items.drop i = p :: items.drop (i + 1) := by
      rw [List.drop_eq_getElem_cons hlt]
      congr 1
      have := List.getElem?_eq_getElem hlt
      rw [hp] at this
      exact (Option.some.inj this).symm
    obtain ⟨go, yl⟩ := w1 p hp
    rw [hdrop] at q2
    refine .inr ⟨go, fun H' => ∃ W2 st2 acc accV, Go W1 H1 W2 H' ∧ Sim T W2 st2 H' ∧ H' D = some (.lst accV) ∧ W2.F D = none ∧ D ∉ W2.ρ ∧ Reps T.K W2 acc accV ∧
      RQ T Wx σ W1 H1 ((outL (turn2 ws ws1 g ft fi1 g1 ft1 f sg) (items.drop (i + 1)) acc st2).bind fun ys st => .ok (newL bx ys st).1 (newL bx ys st).2) fun p st' W' H' => ∀ v, Rep T.K W' p v → Q v H',
      fun H' h => ⟨items.length - (i + 1), by omega, rfl, hlt, h⟩, fun x H3 y => ?_⟩
    obtain ⟨W3, g3, S3, rx⟩ := yl x H3 y
    have hstep : outL (turn2 ws ws1 g ft fi1 g1 ft1 f sg) (p :: items.drop (i + 1)) acc st2 = (turn2 ws ws1 g ft fi1 g1 ft1 f sg p acc st2).bind fun acc st => outL (turn2 ws ws1 g ft fi1 g1 ft1 f sg) (items.drop (i + 1)) acc st := rfl
    rw [hstep, R.assoc] at q2
    cases hb : turn2 ws ws1 g ft fi1 g1 ft1 f sg p acc st2 with
    | stuck => rw [hb] at q2; exact q2.elim
    | ex x s => exact (turn2_not hb).elim
    | ok ac2 st3 =>
      rw [hb] at q2
      have q3 : RQ T Wx σ W1 H1 ((outL (turn2 ws ws1 g ft fi1 g1 ft1 f sg) (items.drop (i + 1)) ac2 st3).bind fun ys st => .ok (newL bx ys st).1 (newL bx ys st).2) fun p st' W' H' => ∀ v, Rep T.K W' p v → Q v H' := q2
      obtain ⟨sg', s1, b, s2, e1, e2, e3⟩ := turn2_ok hb
      refine ⟨W3, wipeS sg ws, st2, p, S3, SigOk.wipe (so1.up (g2.le.trans g3.le)) ws, rx, ?_⟩
      rw [e1]
      intro W4 H4 g4 S4 σ2 so2 out
      refine ⟨(Out.wipe out).trans (wipe_wipe σ ws), W4, sg', s1, S4, so2, ?_⟩
      rw [e2]
      intro W5 H5 g5 S5
      have g25 : Go W2 H2 W5 H5 := g3.trans (g4.trans g5)
      rcases e3 with ⟨rfl, its, s3, e3, e4⟩ | ⟨rfl, rfl, rfl⟩
      · refine iteT ?_
        refine ⟨W5, sg', s2, S5, so2.up g5.le, ?_⟩
        rw [e3]
        intro W6 H6 g6 S6 J1 hJ1
        have g26 : Go W2 H2 W6 H6 := g25.trans g6
        obtain ⟨k1, k2, k3⟩ := g26.keep D _ hH hF hr
        have so6 := so2.up (g5.le.trans g6.le)
        refine ⟨fun j k H => k = its.length - j ∧ j ≤ its.length ∧ ∃ W7 st7 ac7 acV, Go W1 H1 W7 H ∧ W6.Le W7 ∧ Sim T W7 st7 H ∧ H D = some (.lst acV) ∧ W7.F D = none ∧ D ∉ W7.ρ ∧ Reps T.K W7 ac7 acV ∧
          inL (turnC ws1 g1 ft1 f sg') (its.drop j) ac7 st7 = .ok ac2 st3, ⟨its.length, by simp, Nat.zero_le _, W6, s3, acc, accV, g2.trans g26, .refl _, S6, k1, k2, k3, ra.up g26.le, e4⟩, ?_⟩
        rintro j k H7 ⟨rfl, hj, W7, st7, ac7, acV, g7, l7, S7, hH7, hF7, hr7, ra7, e7⟩
        obtain ⟨w3, w4⟩ := hJ1 W7 st7 H7 j l7 S7
        by_cases hlj : j < its.length
        · obtain ⟨p1, hp1⟩ : ∃ p, its[j]? = some p := ⟨_, List.getElem?_eq_getElem hlj⟩
          have hdr : its.drop j = p1 :: its.drop (j + 1) := by
            rw [List.drop_eq_getElem_cons hlj]
            congr 1
            have := List.getElem?_eq_getElem hlj
            rw [hp1] at this
            exact (Option.some.inj this).symm
          obtain ⟨go1, yl1⟩ := w3 p1 hp1
          rw [hdr] at e7
          refine .inr ⟨go1, fun H' => ∃ W7 st7 ac7 acV, Go W1 H1 W7 H' ∧ W6.Le W7 ∧ Sim T W7 st7 H' ∧ H' D = some (.lst acV) ∧ W7.F D = none ∧ D ∉ W7.ρ ∧ Reps T.K W7 ac7 acV ∧ inL (turnC ws1 g1 ft1 f sg') (its.drop (j + 1)) ac7 st7 = .ok ac2 st3,
            fun H' h => ⟨its.length - (j + 1), by omega, rfl, hlj, h⟩, fun x1 H8 y1 => ?_⟩
          obtain ⟨W8, g8, S8, rx1⟩ := yl1 x1 H8 y1
          have e7 : ((turnC ws1 g1 ft1 f sg' p1 st7).bind fun o st => match o with
            | none => inL (turnC ws1 g1 ft1 f sg') (its.drop (j + 1)) ac7 st
            | some q => if ac7.length < sizeLine then inL (turnC ws1 g1 ft1 f sg') (its.drop (j + 1)) (ac7 ++ [q]) st else .stuck) = .ok ac2 st3 := e7
          obtain ⟨o, st8, hc8, e8⟩ := R.bind_ok e7
          obtain ⟨sg9, s9, b9, s10, f1, f2, f3⟩ := turnC_ok hc8
          refine ⟨W8, wipeS sg' ws1, st7, p1, S8, SigOk.wipe (so6.up (l7.trans g8.le)) ws1, rx1, ?_⟩
          rw [f1]
          intro W9 H9 g9 S9 σ9 so9 out9
          refine ⟨(Out.wipe out9).trans (wipe_wipe _ ws1), W9, sg9, s9, S9, so9, ?_⟩
          rw [f2]
          intro W10 H10 g10 S10
          have g710 : Go W7 H7 W10 H10 := g8.trans (g9.trans g10)
          rcases f3 with ⟨rfl, q, f3, rfl⟩ | ⟨rfl, rfl, rfl⟩
          · refine iteT ?_
            simp only [] at e8
            split at e8
            rotate_left
            · cases e8
            rename_i hsz
            refine ⟨W10, sg9, s10, S10, so9.up g10.le, ?_⟩
            rw [f3]
            intro W11 H11 g11 S11 yv ry
            have g711 : Go W7 H7 W11 H11 := g710.trans g11
            obtain ⟨k1, k2, k3⟩ := g711.keep D _ hH7 hF7 hr7
            refine ⟨acV, k1, by rw [Reps.length ra7]; exact hsz, W11, st8, ac7 ++ [q], acV ++ [yv], ?_, l7.trans g711.le, S11.loosen k2 k3 _, upd_same, k2, k3, (ra7.up g711.le).app (Reps.one ry), e8⟩
            refine ⟨(g7.trans g711).le, fun b o e1 e2 e3 => ?_⟩
            obtain ⟨z1, z2, z3⟩ := (g7.trans g711).keep b o e1 e2 e3
            have : b ≠ D := fun z => by subst z; rw [hD] at e1; cases e1
            exact ⟨(upd_ne this).trans z1, z2, z3⟩
          · refine iteF ?_
            obtain ⟨k1, k2, k3⟩ := g710.keep D _ hH7 hF7 hr7
            exact ⟨W10, _, ac7, acV, g7.trans g710, l7.trans g710.le, S10, k1, k2, k3, ra7.up g710.le, e8⟩
        · have hie : j = its.length := by omega
          have hdr : its.drop j = [] := List.drop_eq_nil_of_le (by omega)
          rw [hdr] at e7
          cases e7
          exact .inl ⟨w4 (by omega), W7, st3, ac2, acV, g7, S7, hH7, hF7, hr7, ra7, q3⟩
      · refine iteF ?_
        obtain ⟨k1, k2, k3⟩ := g25.keep D _ hH hF hr
        exact ⟨W5, _, _, accV, g2.trans g25, S5, k1, k2, k3, ra.up g25.le, q3⟩
  · have hie : i = items.length := by omega
    have hdrop : items.drop i = [] := List.drop_eq_nil_of_le (by omega)
    rw [hdrop] at q2
    have q2 : RQ T Wx σ W1 H1 (.ok (newL bx acc st2).1 (newL bx acc st2).2) fun p st' W' H' => ∀ v, Rep T.K W' p v → Q v H' := q2
    refine .inl ⟨w2 (by omega), ?_⟩
    cases bx with
    | false =>
      obtain ⟨l, S3⟩ := S2.adopt hF hr hH
      exact q2 _ H2 (g2.adopt hD l fun b nb k1 k2 => ⟨(upd_ne nb).trans k1, k2⟩) S3 _ ⟨D, accV, rfl, upd_same, ra.up l⟩
    | true =>
      obtain ⟨l, S3, e⟩ := S2.adoptB hF hr (by rw [hH]; simp) (c := .lst acc) ⟨accV, hH, ra⟩
      exact q2 _ H2 (g2.adopt hD l fun b nb k1 k2 => ⟨k1, by rw [List.mem_append]; exact fun z => z.elim k2 fun z => nb (by simpa using z)⟩) S3 _ ⟨D, e, rfl⟩
section
variable {X : Cx} {T : Txt} {Wx : WX} {elt tg iter tg1 iter1 : Expr} {ifs ifs1 : List Expr} {scope : Scope} {own : List (Str × Nat)} {vs1 : List Nat} {pos : Pos} {fi fi1 : FA} {g g1 : FG} {ft ft1 : FT} {f : FE}
theorem de_comp2 (bx : Bool) (hc : X.calm = true) (hN : X.N.Nodup) (hi : PI X tg iter (TIv T Wx fi)) (ok : BlkOk X.N X.env.scope scope own) (hv : ∀ i ∈ vs1, i ∈ own.map (·.2))
    (hg : ∀ (s : Shared) (H : Hp) (C : Addr) (cl : List (Str × Addr)) (fp : List Addr), PG (X.blk s H scope (compEnvC scope cl C X.env) fp) tg (TGv T WxF (own.map (·.2)) g))
    (ht : ∀ (s : Shared) (H : Hp) (C : Addr) (cl : List (Str × Addr)) (fp : List Addr), PTs (X.blk s H scope (compEnvC scope cl C X.env) fp) ifs (TTv T WxF ft))
    (hi1 : ∀ (s : Shared) (H : Hp) (C : Addr) (cl : List (Str × Addr)) (fp : List Addr), PI (X.blk s H scope (compEnvC scope cl C X.env) fp) tg1 iter1 (TIv T WxF fi1))
    (hg1 : ∀ (s : Shared) (H : Hp) (C : Addr) (cl : List (Str × Addr)) (fp : List Addr), PG (X.blk s H scope (compEnvC scope cl C X.env) fp) tg1 (TGv T WxF vs1 g1))
    (ht1 : ∀ (s : Shared) (H : Hp) (C : Addr) (cl : List (Str × Addr)) (fp : List Addr), PTs (X.blk s H scope (compEnvC scope cl C X.env) fp) ifs1 (TTv T WxF ft1))
    (he : ∀ (s : Shared) (H : Hp) (C : Addr) (cl : List (Str × Addr)) (fp : List Addr), PE (X.blk s H scope (compEnvC scope cl C X.env) fp) elt (TEv T WxF f)) (hs : notSet iter = true) (hs1 : notSet iter1 = true) :
    PE X (.ListComp elt [⟨tg, iter, ifs, 0⟩, ⟨tg1, iter1, ifs1, 0⟩] scope pos) (TEv T Wx (fComp2 bx (own.map (·.2)) vs1 fi g ft fi1 g1 ft1 f)) :=
  PEimp (pe_lc2 hc hN hi ok hv hg ht hi1 hg1 ht1 he (folded_of hs X.env) (fun env => folded_of hs1 env)) tLc2_of
theorem ds_setLc2 {sc : Scope} {i : Nat} {y : Str} {py : Pos} {p2 : Pos} (bx : Bool) (hsc : X.env.scope = sc) (hk : sc.kind = .function) (hc : X.calm = true) (hN : X.N.Nodup) (hy : X.N[i]? = some y) (hyl : X.env.scope.names.lookup y = some .local)
    (hsw : noSwap sc (.Name y py) (.ListComp elt [⟨tg, iter, ifs, 0⟩, ⟨tg1, iter1, ifs1, 0⟩] scope p2) = false)
    (hi : PI X tg iter (TIv T Wx fi)) (ok : BlkOk X.N X.env.scope scope own) (hv : ∀ i ∈ vs1, i ∈ own.map (·.2))
    (hg : ∀ (s : Shared) (H : Hp) (C : Addr) (cl : List (Str × Addr)) (fp : List Addr), PG (X.blk s H scope (compEnvC scope cl C X.env) fp) tg (TGv T WxF (own.map (·.2)) g))
    (ht : ∀ (s : Shared) (H : Hp) (C : Addr) (cl : List (Str × Addr)) (fp : List Addr), PTs (X.blk s H scope (compEnvC scope cl C X.env) fp) ifs (TTv T WxF ft))
    (hi1 : ∀ (s : Shared) (H : Hp) (C : Addr) (cl : List (Str × Addr)) (fp : List Addr), PI (X.blk s H scope (compEnvC scope cl C X.env) fp) tg1 iter1 (TIv T WxF fi1))
    (hg1 : ∀ (s : Shared) (H : Hp) (C : Addr) (cl : List (Str × Addr)) (fp : List Addr), PG (X.blk s H scope (compEnvC scope cl C X.env) fp) tg1 (TGv T WxF vs1 g1))
    (ht1 : ∀ (s : Shared) (H : Hp) (C : Addr) (cl : List (Str × Addr)) (fp : List Addr), PTs (X.blk s H scope (compEnvC scope cl C X.env) fp) ifs1 (TTv T WxF ft1))
    (he : ∀ (s : Shared) (H : Hp) (C : Addr) (cl : List (Str × Addr)) (fp : List Addr), PE (X.blk s H scope (compEnvC scope cl C X.env) fp) elt (TEv T WxF f)) (hs : notSet iter = true) (hs1 : notSet iter1 = true) :
    PS X (.Assign [.Name y py] (.ListComp elt [⟨tg, iter, ifs, 0⟩, ⟨tg1, iter1, ifs1, 0⟩] scope p2) pos) (TSv T Wx (fsAsg (fComp2 bx (own.map (·.2)) vs1 fi g ft fi1 g1 ft1 f) (gtName i))) :=
  PSimp (ps_setLc2 hc hN hy hyl (swap_of hsc hk hsw ⟨_, _, _, _, rfl⟩) hi ok hv hg ht hi1 hg1 ht1 he (folded_of hs X.env) (fun env => folded_of hs1 env)) fun D σ H q =>
    tLc2_of (Wx := Wx) (bx := bx) σ H _ (show TEv T Wx _ σ H _ from by
      obtain ⟨W, sg, st, S, so, q⟩ := q
      exact ⟨W, sg, st, S, so, (SQ.bindE q so).mono fun p st1 W1 H1 g1 S1 q1 v rv => q1 W1 H1 _ (.refl _ _) S1 ((so.up g1.le).put i rv)⟩)
end
end Pv
/-! Pv, part V3: a dict that is locked while an expression or a statement runs; its items, values walked. -/
namespace Pv
open PySem PySem.Spec PyProof.Rows PySem.SeqAt L2

/-- the cell that slot i holds, or its field l -/
def pathN (i : Nat) (l : Option (List Nat)) (sg : Sig) (st : Store) : Option Nat := match sg[i]? with
  | some (some (.ref n)) => match l with
    | none => some n
    | some l => match st[n]? with
      | some (.ins _ fs) => match lookF l fs with
        | some (.ref m) => some m
        | _ => none
      | _ => none
  | _ => none
def lockD (o : Option Nat) (st : Store) : Option (Nat × List PV × List PV) := match o with
  | some n => match st[n]? with
    | some (.dic ks vs) => some (n, ks, vs)
    | _ => none
  | none => none
def unlockD (n : Nat) (st : Store) : Option Store := match st[n]? with
  | some (.dlk ks vs) => some (st.set n (.dic ks vs))
  | _ => none
theorem lockD_at {o : Option Nat} {st : Store} {n : Nat} {ks vs : List PV} (h : lockD o st = some (n, ks, vs)) : st[n]? = some (.dic ks vs) := by
  unfold lockD at h
  split at h
  · split at h
    · rename_i q; cases h; exact q
    · cases h
  · cases h
theorem unlockD_at {n : Nat} {st st' : Store} (h : unlockD n st = some st') : ∃ ks vs, st[n]? = some (.dlk ks vs) ∧ st' = st.set n (.dic ks vs) := by
  unfold unlockD at h
  split at h
  · rename_i ks vs q; cases h; exact ⟨ks, vs, q, rfl⟩
  · cases h
def fLockP (i : Nat) (l : Option (List Nat)) (f : FE) : FE := fun sg st => match lockD (pathN i l sg st) st with
  | some z => (noX (f sg (st.set z.1 (.dlk z.2.1 z.2.2)))).bind fun p st2 => match unlockD z.1 st2 with
    | some st3 => .ok p st3
    | none => .stuck
  | none => .stuck
def fsLockP (i : Nat) (l : Option (List Nat)) (u : FS) : FS := fun sg st => match lockD (pathN i l sg st) st with
  | some z => match u sg (st.set z.1 (.dlk z.2.1 z.2.2)) with
    | .nx sg st2 => match unlockD z.1 st2 with
      | some st3 => .nx sg st3
      | none => .stuck
    | .rt p st2 => match unlockD z.1 st2 with
      | some st3 => .rt p st3
      | none => .stuck
    | _ => .stuck
  | none => .stuck
section
variable {X : Cx} {T : Txt} {Wx : WX} {e : Expr} {st : Stmt} {f : FE} {u : FS}
theorem Go.unlock {W W2 : Wd} {H H1 H2 : Hp} {d : Addr} {n : Nat} {o : HO} (g : Go W H W2 H2) (hd : W.ρ[n]? = some d) (hFd : W.F d = none) : Go W H ⟨dropF W2.F d, W2.ρ⟩ (upd H2 d o) := by
  refine ⟨⟨fun b u e => ?_, g.le.ρ⟩, fun b u e1 e2 e3 => ?_⟩
  · have nb : b ≠ d := fun z => by subst z; rw [hFd] at e; cases e
    show dropF W2.F d b = some u
    unfold dropF; rw [if_neg nb]; exact g.le.F b u e
  · obtain ⟨k1, k2, k3⟩ := g.keep b u e1 e2 e3
    have nb : b ≠ d := fun z => e3 (by rw [z]; exact List.mem_of_getElem? hd)
    exact ⟨(upd_ne nb).trans k1, (by show dropF W2.F d b = none; unfold dropF; rw [if_neg nb]; exact k2), k3⟩
theorem SigOk.unlock {K : PySem.W.Frag} {W : Wd} {sg : Sig} {σ : L2.St} {d : Addr} {ob : Obj} {kvs : List (Key × V)} (h : SigOk K W sg σ) (hd : W.F d = some (.frz ob (.dK kvs))) : SigOk K ⟨dropF W.F d, W.ρ⟩ sg σ :=
  ⟨h.len, fun i p e => let ⟨v, a, b⟩ := h.get i p e; ⟨v, a, Rep.unlock hd b⟩⟩
theorem de_lockP (i : Nat) (l : Option (List Nat)) (h : PE X e (TEv T Wx f)) : PE X e (TEv T Wx (fLockP i l f)) :=
  PEimp (pe_lock h) fun σ H Q ⟨W, sg, st, S, so, q⟩ => by
    unfold fLockP at q
    cases hl : lockD (pathN i l sg st) st with
    | none => simp only [hl] at q; exact q.elim
    | some z =>
      obtain ⟨n, ks, vs⟩ := z
      simp only [hl] at q
      have hc := lockD_at hl
      obtain ⟨d, hd⟩ := S.at hc
      obtain ⟨kvs, hH, rk, rs, lock⟩ := S.lock hd hc
      refine ⟨d, .dK kvs, hH, True.intro, fun ob => ?_⟩
      obtain ⟨g1, S1⟩ := lock ob
      have hFd : W.F d = none := S.off n d _ hd hc rfl
      refine ⟨_, sg, st.set n (.dlk ks vs), S1, so.up g1.le, ?_⟩
      cases hf : f sg (st.set n (.dlk ks vs)) with
      | stuck => rw [hf] at q; exact q.elim
      | ex x s => rw [hf] at q; exact q.elim
      | ok z st2 =>
        rw [hf] at q
        intro W2 H2 g2 S2 w rw'
        have hF2 : W2.F d = some (.frz ob (.dK kvs)) := g2.le.F d _ upd_same
        have hr2 : W2.ρ[n]? = some d := g2.le.ρ n d hd
        refine ⟨S2.sub _ _ hF2, ?_⟩
        cases hu : unlockD n st2 with
        | none => exact (show False from by have q := q; simp only [noX, R.bind, hu] at q; exact q).elim
        | some st3 =>
          obtain ⟨ks2, vs2, hc2, rfl⟩ := unlockD_at hu
          have q : RQ T Wx σ W H (.ok z (st2.set n (.dic ks2 vs2))) fun p st' W' H' => ∀ v, Rep T.K W' p v → Q v H' := by
            have q := q; simp only [noX, R.bind, hu] at q; exact q
          exact q ⟨dropF W2.F d, W2.ρ⟩ (upd H2 d (.dK kvs)) (Go.unlock (H1 := H) (g1.trans g2) hd hFd) (S2.unlock hr2 hc2 hF2) w (Rep.unlock hF2 rw')
theorem ds_lockP (i : Nat) (l : Option (List Nat)) (h : PS X st (TSv T Wx u)) : PS X st (TSv T Wx (fsLockP i l u)) :=
  PSimp (ps_lock h) fun D σ H ⟨W, sg, st, S, so, q⟩ => by
    unfold fsLockP at q
    cases hl : lockD (pathN i l sg st) st with
    | none => simp only [hl] at q; exact q.elim
    | some z =>
      obtain ⟨n, ks, vs⟩ := z
      simp only [hl] at q
      have hc := lockD_at hl
      obtain ⟨d, hd⟩ := S.at hc
      obtain ⟨kvs, hH, rk, rs, lock⟩ := S.lock hd hc
      refine ⟨d, .dK kvs, hH, True.intro, fun ob => ?_⟩
      obtain ⟨g1, S1⟩ := lock ob
      have hFd : W.F d = none := S.off n d _ hd hc rfl
      refine ⟨_, sg, st.set n (.dlk ks vs), S1, so.up g1.le, ?_⟩
      cases hf : u sg (st.set n (.dlk ks vs)) with
      | nx sg2 st2 =>
        rw [hf] at q
        simp only [] at q
        intro W2 H2 σ2 g2 S2 so2
        have hF2 : W2.F d = some (.frz ob (.dK kvs)) := g2.le.F d _ upd_same
        have hr2 : W2.ρ[n]? = some d := g2.le.ρ n d hd
        refine ⟨S2.sub _ _ hF2, ?_⟩
        cases hu : unlockD n st2 with
        | none => simp only [hu] at q; exact q.elim
        | some st3 =>
          simp only [hu] at q
          obtain ⟨ks2, vs2, hc2, rfl⟩ := unlockD_at hu
          exact q ⟨dropF W2.F d, W2.ρ⟩ (upd H2 d (.dK kvs)) σ2 (Go.unlock (H1 := H) (g1.trans g2) hd hFd) (S2.unlock hr2 hc2 hF2) (so2.unlock hF2)
      | rt p st2 =>
        rw [hf] at q
        simp only [] at q
        intro W2 H2 v g2 S2 rv
        have hF2 : W2.F d = some (.frz ob (.dK kvs)) := g2.le.F d _ upd_same
        have hr2 : W2.ρ[n]? = some d := g2.le.ρ n d hd
        refine ⟨S2.sub _ _ hF2, ?_⟩
        cases hu : unlockD n st2 with
        | none => simp only [hu] at q; exact q.elim
        | some st3 =>
          simp only [hu] at q
          obtain ⟨ks2, vs2, hc2, rfl⟩ := unlockD_at hu
          exact q ⟨dropF W2.F d, W2.ρ⟩ (upd H2 d (.dK kvs)) v (Go.unlock (H1 := H) (g1.trans g2) hd hFd) (S2.unlock hr2 hc2 hF2) (Rep.unlock hF2 rv)
      | bk _ _ => rw [hf] at q; exact q.elim
      | ct _ _ => rw [hf] at q; exact q.elim
      | ex _ _ _ => rw [hf] at q; exact q.elim
      | stuck => rw [hf] at q; exact q.elim
end

/-! ### items, values -/
def itemsL (ks vs : List PV) : List PV := (ks.zip vs).map fun z => .tup [z.1, z.2]
section
variable {X : Cx} {T : Txt} {Wx : WX} {e tg : Expr} {f : FE} {W : Wd}
theorem walks_items {d : Addr} {ob : Obj} {kvs : List (Key × V)} {ks vs : List PV} (h : W.F d = some (.frz ob (.dK kvs))) (rk : RepK ks (kvs.map (·.1))) (rv : Reps T.K W vs (kvs.map (·.2))) : Walks T W (Iti d ob kvs) (itemsL ks vs) := fun W1 st1 H1 i l S => by
  have h1 : H1 d = some (.frz ob (.dK kvs)) := S.sub _ _ (l.F _ _ h)
  have hl1 : kvs.length = ks.length := by have := rk.length; simpa using this
  have hl2 : kvs.length = vs.length := by have := rv.length; simpa using this
  have hlen : (itemsL ks vs).length = kvs.length := by unfold itemsL; rw [List.length_map, List.length_zip]; omega
  refine ⟨fun p hp => ?_, fun hi => ⟨h1, by omega⟩⟩
  have hi : i < kvs.length := by have := (List.getElem?_eq_some_iff.mp hp).1; omega
  unfold itemsL at hp
  rw [List.getElem?_map] at hp
  obtain ⟨⟨k, v⟩, hz, rfl⟩ := Option.map_eq_some_iff.mp hp
  rw [List.getElem?_zip_eq_some] at hz
  obtain ⟨hk, hv⟩ := hz
  obtain ⟨k', hk', rk1⟩ := rk.get hk
  obtain ⟨v', hv', rv1⟩ := rv.get hv
  refine ⟨⟨h1, hi⟩, fun x H2 y => ?_⟩
  obtain ⟨t, k2, v2, e, rfl, ht, rfl⟩ := y
  rw [List.getElem?_map, e] at hk' hv'
  cases hk'; cases hv'
  obtain ⟨g, S'⟩ := S.laid ht (.tup [kV k2, v2])
  exact ⟨_, g, S', t, _, rfl, SqT.of upd_same, ⟨_, _, rfl, rep_of_key rk1, _, _, rfl, (rv1.up l).up g.le, rfl⟩⟩
def itemsV (p : PV) (st : Store) : R (List PV) := match p with
  | .ref n => match st[n]? with
    | some (.dlk ks vs) => .ok (itemsL ks vs) st
    | _ => .stuck
  | _ => .stuck
def fiItems (f : FE) : FA := fun sg st => (f sg st).bind fun p st => itemsV p st
theorem di_items {elts : List Expr} {kk : Nat} {tpos apos cpos : Pos} (h : PE X e (TEv T Wx f)) (hr : recvE e = true) (hp : (apos.endLine == cpos.line) = true) : PI X (.Tuple elts kk tpos) (.Call (.Attribute e "items" apos) [] [] cpos) (TIv T Wx (fiItems f)) :=
  PIimp (pi_items h (base_of hr) hp) fun σ H R ⟨W, sg, st, S, so, q⟩ => ⟨W, sg, st, S, so, (RQ.bind q).mono fun p st1 W1 H1 g1 S1 q1 v rv => by
    cases p with
    | ref n =>
      cases hc : st1[n]? with
      | none => simp only [itemsV, hc] at q1; exact q1.elim
      | some c =>
        cases c with
        | dlk ks vs =>
          simp only [itemsV, hc] at q1
          obtain ⟨a, e, rfl⟩ := rv
          obtain ⟨ob, kvs, f1, rk, rs⟩ := S1.cell n a _ e hc
          exact ⟨a, ob, kvs, rfl, S1.sub _ _ f1, RQ.here q1 S1 _ (walks_items f1 rk rs)⟩
        | _ => simp only [itemsV, hc] at q1; exact q1.elim
    | _ => exact q1.elim⟩
end
end Pv
/-! Pv, part V4: tuples that are known to have no dict; dict(pairs) of such. -/
namespace Pv
open PySem PySem.Spec PyProof.Rows PySem.SeqAt L2
section
variable {T : Txt} {W : Wd} {st : Store} {H : Hp} {p : Addr} {c : Cell}
/-- a frozen object becomes a cell that is never written -/
theorem Sim.adoptF (S : Sim T W st H) (hr : p ∉ W.ρ) (ho : H p ≠ none) (hc : CellAt T W H p c) (hl : live c = false) : Wd.Le W ⟨W.F, W.ρ ++ [p]⟩ ∧ Sim T ⟨W.F, W.ρ ++ [p]⟩ (st ++ [c]) H ∧ (W.ρ ++ [p])[st.length]? = some p := by
  have ne : ∀ b ∈ W.ρ, b ≠ p := fun b hb q => hr (q ▸ hb)
  have l : Wd.Le W ⟨W.F, W.ρ ++ [p]⟩ := ⟨fun _ _ e => e, fun m b e => (List.getElem?_append_left (List.getElem?_eq_some_iff.mp e).1).trans e⟩
  have last : (W.ρ ++ [p])[st.length]? = some p := by simp [← S.len]
  have two : ∀ {m : Nat} {b : Addr} {c' : Cell}, (W.ρ ++ [p])[m]? = some b → (st ++ [c])[m]? = some c' → (W.ρ[m]? = some b ∧ st[m]? = some c') ∨ (b = p ∧ c' = c) := fun {m b c'} e1 e2 => by
    by_cases q : m < st.length
    · rw [List.getElem?_append_left (by rw [S.len]; exact q)] at e1
      rw [List.getElem?_append_left q] at e2
      exact .inl ⟨e1, e2⟩
    · by_cases q2 : m = st.length
      · subst q2
        rw [last] at e1; cases e1
        exact .inr ⟨rfl, by simpa using e2.symm⟩
      · rw [List.getElem?_eq_none (by simp; omega)] at e2; cases e2
  refine ⟨l, ⟨S.sub, ?_, by simp [S.len], fun b hb => ?_, fun m b c' e1 e2 => ?_, fun m b c' e1 e2 e3 => ?_⟩, last⟩
  · show (W.ρ ++ [p]).Nodup
    rw [List.nodup_append]
    exact ⟨S.nd, by simp, fun x hx y hy e => ne x hx (e.trans (by simpa using hy))⟩
  · rcases List.mem_append.mp hb with hb | hb
    · exact S.dom b hb
    · rw [show b = p by simpa using hb]; exact ho
  · rcases two e1 e2 with ⟨k1, k2⟩ | ⟨rfl, rfl⟩
    · exact (S.cell m b c' k1 k2).up l rfl
    · exact hc.up l rfl
  · rcases two e1 e2 with ⟨k1, k2⟩ | ⟨rfl, rfl⟩
    · exact S.off m b c' k1 k2 e3
    · rw [hl] at e3; cases e3
end
section
variable {X : Cx} {T : Txt} {Wx : WX} {es : List Expr} {pos : Pos} {t : TA} {fa : FA} {f : FE} {e : Expr}
/-- a tuple display: the object is a new one -/
theorem pe_tupF {x1} (h : PA X es t) : PE X (.Tuple es x1 pos) (fun σ H Q => t σ H fun xs H1 => xs.length ≤ sizeLine ∧ ∀ p ob, H1 p = none → ob.dict = none → Q (.ref p) (upd H1 p (.frz ob (.tup xs)))) := by
  refine ⟨fun pins s σ H Q I hq => wpAny_Tuple_spliced (thn (h.run pos pins s σ H _ I hq) ?_)⟩
  rintro us s1 ⟨xs, H1, I1, r, z, q⟩
  have hz : us.length ≤ sizeLine := r.length ▸ z
  have free : H1 s1.heap.objs.size = none := I1.hok.fresh (Nat.le_refl _)
  have got : (s1.heap.push { cls := .type "tuple", data := .seq us.toArray }).get? s1.heap.objs.size = some { cls := .type "tuple", data := .seq us.toArray } := Heap.get?_push_size _ rfl
  refine ⟨hz, .ref s1.heap.objs.size, upd H1 s1.heap.objs.size (.frz { cls := .type "tuple", data := .seq us.toArray } (.tup xs)), ?_, rfl, q _ _ free rfl⟩
  refine I1.laid (t' := s1.toks) (fun b u e => Heap.get?_push_of_some _ e) (Nat.le_refl _) ?_
  exact ⟨got, z, us, r, ⟨_, got, rfl, _, rfl⟩⟩
def fTupP (g : FA) : FE := fun sg st => (g sg st).bind fun ps st => if ps.length ≤ sizeLine then .ok (.ref st.length) (st ++ [.ptp ps]) else .stuck
theorem de_tupP {k} (h : PA X es (TAv T Wx fa)) : PE X (.Tuple es k pos) (TEv T Wx (fTupP fa)) :=
  PEimp (pe_tupF h) fun σ H Q ⟨W, sg, st, S, so, q⟩ => ⟨W, sg, st, S, so, (RQ.bind q).mono fun ps st1 W1 H1 g1 S1 q1 vs rvs => by
    by_cases hz : ps.length ≤ sizeLine
    rotate_left
    · rw [if_neg hz] at q1; exact q1.elim
    rw [if_pos hz] at q1
    refine ⟨by rw [Reps.length rvs]; exact hz, fun p ob hp hd => ?_⟩
    obtain ⟨g2, S2⟩ := S1.laid hp (.frz ob (.tup vs))
    have hr : p ∉ W1.ρ := fun z => S1.dom p z hp
    obtain ⟨l3, S3, e3⟩ := S2.adoptF (p := p) (c := .ptp ps) hr (by rw [upd_same]; simp) ⟨ob, vs, upd_same, hd, rvs.up g2.le⟩ rfl
    have g3 : Go W1 H1 ⟨upd W1.F p (.frz ob (.tup vs)), W1.ρ ++ [p]⟩ (upd H1 p (.frz ob (.tup vs))) := ⟨g2.le.trans l3, fun b u e1 e2 e4 => by
      obtain ⟨k1, k2, k3⟩ := g2.keep b u e1 e2 e4
      have nb : b ≠ p := fun z => by subst z; rw [hp] at e1; cases e1
      exact ⟨k1, k2, by rw [List.mem_append]; exact fun z => z.elim k3 fun z => nb (by simpa using z)⟩⟩
    exact q1 _ _ g3 S3 _ ⟨p, e3, rfl⟩⟩
/-- such a tuple taken for any tuple -/
def nrmP (p : PV) (st : Store) : PV := match p with
  | .ref n => match st[n]? with
    | some (.ptp xs) => .tup xs
    | _ => p
  | _ => p
theorem nrmP_at {W : Wd} {st : Store} {H : Hp} (S : Sim T W st H) {p : PV} {v : V} (r : Rep T.K W p v) : Rep T.K W (nrmP p st) v := by
  cases p with
  | ref n =>
    unfold nrmP
    cases hc : st[n]? with
    | none => simp only [hc]; exact r
    | some c =>
      cases c with
      | ptp xs =>
        simp only [hc]
        obtain ⟨a, e, rfl⟩ := r
        obtain ⟨ob, vs, h, _, rs⟩ := S.cell n a _ e hc
        exact ⟨a, vs, rfl, .inl (.inr ⟨ob, h⟩), rs⟩
      | _ => simp only [hc]; exact r
  | _ => exact r
def fNrm (f : FE) : FE := fun sg st => (f sg st).bind fun p st => .ok (nrmP p st) st
theorem de_nrm (h : PE X e (TEv T Wx f)) : PE X e (TEv T Wx (fNrm f)) :=
  PEimp h fun σ H Q ⟨W, sg, st, S, so, q⟩ => ⟨W, sg, st, S, so, (RQ.bind q).mono fun p st1 W1 H1 g1 S1 q1 v rv => RQ.here q1 S1 v (nrmP_at S1 rv)⟩
end

/-! ### dict(pairs) -/
section
variable {X : Cx}
theorem pairsV_of {pins : List (Addr × Obj)} {σ : L2.St} {H : Hp} {s : Shared} (I : Inv X pins σ H s) : ∀ {ps : List Addr} {kvs : List (Key × V)}, Paired (fun p kv => SqT X.K H p [kV kv.1, kv.2]) ps kvs →
    ∃ (pv : List (Value × Value)) (prs : List (Key × Value)), KV kvs prs ∧ pv.length = ps.length ∧ prs.length = ps.length ∧ ∀ (j : Nat) (k v : Value), pv[j]? = some (k, v) → (∃ b, ps[j]? = some b ∧ PairAt s.heap b k v) ∧ ∃ key, prs[j]? = some (key, v) ∧ keyIs key k = true
  | _, _, .nil => ⟨[], [], .nil, rfl, rfl, fun j k v e => by simp at e⟩
  | _, _, .cons (a := p) (b := kv) h t => by
    obtain ⟨pv, prs, r, l1, l2, hp⟩ := pairsV_of I t
    obtain ⟨its, rv, ht, _⟩ := I.tuple h
    obtain ⟨u, y, ei, ru, ry⟩ := vals2 rv
    subst ei
    refine ⟨(u, y) :: pv, (kv.1, y) :: prs, .cons ⟨rfl, ry⟩ r, by simp [l1], by simp [l2], fun j k v e => ?_⟩
    cases j with
    | zero =>
      cases (show (u, y) = (k, v) from Option.some.inj e)
      exact ⟨⟨p, rfl, .inl ht⟩, kv.1, rfl, kV_is (P := X.prog) (w := X.w) ru⟩
    | succ j =>
      obtain ⟨⟨b, e1, e2⟩, key, e3, e4⟩ := hp j k v (by simpa using e)
      exact ⟨⟨b, by simpa using e1, e2⟩, key, by simpa using e3, e4⟩
theorem call_dictPT (hcalm : X.calm = true) : CallR X (.type "dict") (fun xs H Q => ∃ (a : Addr) (ob : Obj) (ps : List Addr) (kvs : List (Key × V)), xs = [.ref a] ∧ H a = some (.frz ob (.tup (ps.map V.ref))) ∧ ob.dict = none ∧ Paired (fun p kv => SqT X.K H p [kV kv.1, kv.2]) ps kvs ∧
    ∀ p, H p = none → Q (.ref p) (upd H p (.dK (mergeK [] kvs)))) := by
  rintro pins s σ H xs us Q I r ⟨a, ob, ps, kvs, rfl, ha, hd, hp, q⟩
  obtain ⟨u, rfl, rx⟩ := vals1 r
  cases rx
  obtain ⟨hget, hz, its, rv, o, ho, hcl, n, hdat⟩ := I.hok a _ ha
  rw [hget] at ho
  cases ho
  have ei := refs_at rv
  subst ei
  rw [List.length_map] at hz
  obtain ⟨pv, prs, rel, l1, l2, hpr⟩ := pairsV_of I hp
  have key := PySem.PairArg.tuple (prog := X.prog) (w := X.w) a (ps.map Value.ref).toArray (fun j => (ps[j]?).getD 0) pv
  refine PySem.call_dict_pairs (knd := mixKind X.prog X.w) (kvs := prs) key (I.ok.hd hcalm) ⟨⟨ob, n, hget, hcl, hd, hdat⟩, by simp [l1], fun j k v e => ?_⟩ ⟨by omega, fun j k v e => (hpr j k v e).2⟩ (by omega) fun h' tk hd' hk => ?_
  · obtain ⟨⟨b, e1, e2⟩, _⟩ := hpr j k v e
    simp only [e1, Option.getD_some]
    exact ⟨by simp [e1], e2⟩
  · have big : (s.heap.objs.size == sysModules) = false := beq_eq_false_iff_ne.mpr (Nat.ne_of_gt I.big)
    have few : (mergeK [] kvs).length ≤ sizeLine := by
      have h1 := length_mergeK kvs []
      have h2 := rel.length
      simp only [List.length_nil] at h1
      omega
    exact ⟨.ref s.heap.objs.size, upd H s.heap.objs.size (.dK (mergeK [] kvs)), I.laid (t' := tk) (fun b o e => hk b o (by simp) e) (Nat.le_refl _) ⟨few, big, merged [] prs, KV.merge rel .nil, hd'⟩, rfl, q _ (I.hok.fresh (Nat.le_refl _))⟩
end
def pairsP : List PV → List PV → List PV → Option (List PV × List PV)
  | [], ks, vs => some (ks, vs)
  | .tup [k, v] :: r, ks, vs => if (keyOf k).isSome then pairsP r (putDk k ks) (putDv k v ks vs) else none
  | _, _, _ => none
theorem pairsP_at {K : PySem.W.Frag} {W : Wd} : ∀ {xs : List PV} {vs : List V} {ks ws : List PV} {kvs : List (Key × V)} {out : List PV × List PV}, Reps K W xs vs → RepK ks (kvs.map (·.1)) → Reps K W ws (kvs.map (·.2)) → pairsP xs ks ws = some out →
    ∃ (as : List Addr) (more : List (Key × V)), vs = as.map V.ref ∧ Paired (fun p kv => SqT K W.F p [kV kv.1, kv.2]) as more ∧ RepK out.1 ((mergeK kvs more).map (·.1)) ∧ Reps K W out.2 ((mergeK kvs more).map (·.2))
  | [], vs, ks, ws, kvs, out, r, r3, r4, h => by
    cases r
    cases (show (ks, ws) = out from Option.some.inj h)
    exact ⟨[], [], rfl, .nil, r3, r4⟩
  | x :: xs, _, ks, ws, kvs, out, ⟨v, r, e, rx, rr⟩, r3, r4, h => by
    subst e
    match x, rx, h with
    | .tup [k, w], rx, h =>
      unfold pairsP at h
      cases hk : keyOf k with
      | none => rw [hk] at h; cases h
      | some key =>
        have h : pairsP xs (putDk k ks) (putDv k w ks ws) = some out := by simpa [hk] using h
        obtain ⟨a, vv, rfl, sq, r2⟩ := rx
        obtain ⟨kv, wv, rfl, rk, rw'⟩ := reps2 r2
        obtain ⟨h1, h2⟩ := putD_at (repK1_of rk hk) rw' r3 r4
        obtain ⟨as, more, e1, pr, m1, m2⟩ := pairsP_at rr h1 h2 h
        refine ⟨a :: as, (key, wv) :: more, by rw [e1]; rfl, .cons ?_ pr, m1, m2⟩
        rw [keyOf_V rk hk] at sq
        exact sq
    | .tup [], _, h => cases h
    | .tup [_], _, h => cases h
    | .tup (_ :: _ :: _ :: _), _, h => cases h
    | .non, _, h => cases h
    | .bl _, _, h => cases h
    | .int _, _, h => cases h
    | .str _, _, h => cases h
    | .lst _, _, h => cases h
    | .scr _, _, h => cases h
    | .dic _ _, _, h => cases h
    | .ref _, _, h => cases h
def dctB (bx : Bool) (ps : List PV) (st : Store) : Option (PV × Store) := match ps with
  | [.ref n] => match st[n]? with
    | some (.ptp xs) => (pairsP xs [] []).map fun kv => newD bx kv.1 kv.2 st
    | _ => none
  | _ => none
theorem biDct {X : Cx} {T : Txt} (hK : T.K = X.K) (hc : X.calm = true) (bx : Bool) : CallR X (.type "dict") (rC T (dctB bx)) := by
  rintro pins s σ H xs us Q I rs ⟨W, st, ps, z, S, rps, h, k⟩
  match ps, h with
  | [.ref n], h =>
    cases hn : st[n]? with
    | none => simp only [dctB, hn] at h; cases h
    | some c =>
      cases c with
      | ptp xs =>
        simp only [dctB, hn] at h
        obtain ⟨kv, h1, rfl⟩ := Option.map_eq_some_iff.mp h
        obtain ⟨v, rfl, rv⟩ := reps1 rps
        obtain ⟨a, e, rfl⟩ := rv
        obtain ⟨ob, vs, hF, hd, r⟩ := S.cell n a _ e hn
        obtain ⟨as, more, rfl, pr, m1, m2⟩ := pairsP_at (kvs := []) r (show RepK [] [] from rfl) (show Reps T.K W [] [] from rfl) h1
        exact call_dictPT hc pins s σ H _ us Q I rs ⟨a, ob, as, more, rfl, S.sub _ _ hF, hd, hK ▸ L2.Paired.mapP pr (fun p kv q => SqT.up q S.sub), PostS.newD (bx := bx) k S m1 m2⟩
      | _ => simp only [dctB, hn] at h; cases h
  | [], h => cases h
  | _ :: _ :: _, h => simp [dctB] at h
  | [.non], h => cases h
  | [.bl _], h => cases h
  | [.int _], h => cases h
  | [.str _], h => cases h
  | [.tup _], h => cases h
  | [.lst _], h => cases h
  | [.scr _], h => cases h
  | [.dic _ _], h => cases h
end Pv
/-! Pv, part V5: sorted(a dict), str(a tuple of one text), list.index. -/
namespace Pv
open PySem PySem.Spec PyProof.Rows PySem.SeqAt L2

/-! ### sorted(d) -/
def dicKs (p : PV) (st : Store) : Option (List PV) := match p with
  | .ref n => match st[n]? with
    | some (.dic ks _) => some ks
    | some (.dlk ks _) => some ks
    | _ => none
  | _ => none
theorem dicKs_at {T : Txt} {W : Wd} {st : Store} {H : Hp} (S : Sim T W st H) {p : PV} {v : V} (r : Rep T.K W p v) {ks : List PV} (h : dicKs p st = some ks) : ∃ a kvs, v = .ref a ∧ Rd H a (.dK kvs) ∧ RepK ks (kvs.map (·.1)) := by
  cases p with
  | ref n =>
    obtain ⟨a, e, rfl⟩ := r
    cases hc : st[n]? with
    | none => simp only [dicKs, hc] at h; cases h
    | some c =>
      have z := S.cell n a _ e hc
      cases c with
      | dic xs ys =>
        simp only [dicKs, hc] at h
        cases h
        obtain ⟨kvs, f, rk, _⟩ := z
        exact ⟨a, kvs, rfl, .inl f, rk⟩
      | dlk xs ys =>
        simp only [dicKs, hc] at h
        cases h
        obtain ⟨ob, kvs, f, rk, _⟩ := z
        exact ⟨a, kvs, rfl, .inr ⟨ob, S.sub _ _ f⟩, rk⟩
      | _ => simp only [dicKs, hc] at h; cases h
  | _ => cases h
theorem keys_strs : ∀ {ks : List PV} {qs : List Key} {ss : List (List Nat)}, RepK ks qs → strL ks = some ss → qs = ss.map (fun x => Sum.inr (⟨x.toArray⟩ : Str)) ∧ ∀ x ∈ ss, x.length ≤ sizeLine
  | [], _, _, h, e => by cases h; cases e; exact ⟨rfl, by simp⟩
  | p :: ps, _, ss, ⟨k, r, e, a, b⟩, h => by
    subst e
    cases p with
    | str s =>
      obtain ⟨rs, h1, rfl⟩ := Option.map_eq_some_iff.mp (show (strL ps).map (s :: ·) = some ss from h)
      obtain ⟨rfl, hz⟩ := a
      obtain ⟨h2, h3⟩ := keys_strs b h1
      exact ⟨by rw [h2]; rfl, fun x hx => (List.mem_cons.mp hx).elim (fun e => e ▸ hz) (h3 x)⟩
    | _ => cases h
def srtD (bx : Bool) (ps : List PV) (st : Store) : Option (PV × Store) := match ps with
  | [p] => (dicKs p st).bind fun ks => (strL ks).bind fun ss => if ss.length < 64 then some (newL bx ((srtS ss).map .str) st) else none
  | _ => none
def srtH (bx : Bool) (ps : List PV) (st : Store) : Option (PV × Store) := match srtG bx ps st with
  | some z => some z
  | none => srtD bx ps st
theorem biSrtH {X : Cx} {T : Txt} (hK : T.K = X.K) (hc : X.calm = true) (hu : X.A.units + 200 < cLine) (bx : Bool) : CallR X (.builtin "sorted") (rC T (srtH bx)) := by
  rintro pins s σ H xs us Q I r ⟨W, st, ps, z, S, rs, h, k⟩
  unfold srtH at h
  cases h0 : srtG bx ps st with
  | some z' =>
    simp only [h0] at h
    cases h
    exact biSrtG hK hc hu bx pins s σ H xs us Q I r ⟨W, st, ps, z, S, rs, h0, k⟩
  | none =>
    simp only [h0] at h
    match ps, h with
    | [p], h =>
      obtain ⟨v, rfl, rp⟩ := reps1 rs
      obtain ⟨ks, h1, h⟩ := Option.bind_eq_some_iff.mp (show (dicKs p st).bind _ = some z from h)
      obtain ⟨ss, h2, h⟩ := Option.bind_eq_some_iff.mp h
      by_cases h64 : ss.length < 64
      rotate_left
      · rw [if_neg h64] at h; cases h
      rw [if_pos h64] at h
      cases h
      obtain ⟨a, kvs, rfl, hd, rk⟩ := dicKs_at S rp h1
      obtain ⟨e1, hz⟩ := keys_strs rk h2
      refine call_sortedD hc pins s σ H _ us Q I r ⟨a, kvs, ss.map fun x => ⟨x.toArray⟩, rfl, hd, by rw [e1, List.map_map]; rfl, by simpa using h64, fun zs p hp hs hn => ?_⟩
      have same : zs = (srtS ss).map fun x => (⟨x.toArray⟩ : Str) := by
        have back : ∀ l : List (List Nat), (l.map fun x => (⟨x.toArray⟩ : Str)).map (fun y : Str => y.cps.toList) = l := fun l => by
          rw [List.map_map]; exact (List.map_congr_left fun x _ => by simp).trans (List.map_id l)
        have forth : ∀ l : List Str, (l.map fun y : Str => y.cps.toList).map (fun x => (⟨x.toArray⟩ : Str)) = l := fun l => by
          rw [List.map_map]; exact (List.map_congr_left fun x _ => by cases x; simp).trans (List.map_id l)
        have q1 := hp.map fun y : Str => y.cps.toList
        rw [back] at q1
        have q2 := List.Perm.eq_of_pairwise (fun _ _ _ _ h1 h2 => List.le_antisymm h1 h2) (sortedS_pair hs) (srtS_sorted ss) (q1.trans (srtS_perm ss).symm)
        rw [← q2, forth]
      subst same
      rw [List.map_map]
      exact k.newL S (reps_strs fun x hx => hz x ((srtS_perm ss).mem_iff.mp hx)) p hn
    | [], h => cases h
    | _ :: _ :: _, h => cases h

/-! ### str((text,)) -/
def shown1 (a : List Nat) : List Nat := (PyData.tuple [.str ⟨a.toArray⟩]).shown.cps.toList
def strT (ps : List PV) (st : Store) : Option (PV × Store) := match ps with
  | [.tup [.str a]] => if (shown1 a).length ≤ sizeLine then some (.str (shown1 a), st) else none
  | _ => strB ps st
theorem biStrT {X : Cx} {T : Txt} (hK : T.K = X.K) (hg : X.A.guards = some []) (hu : X.A.units + 200 < cLine) : CallR X (.type "str") (rC T strT) := by
  rintro pins s σ H xs us Q I r ⟨W, st, ps, z, S, rs, h, k⟩
  unfold strT at h
  split at h
  · rename_i a
    by_cases hz : (shown1 a).length ≤ sizeLine
    rotate_left
    · rw [if_neg hz] at h; cases h
    rw [if_pos hz] at h
    cases h
    obtain ⟨v, rfl, rv⟩ := reps1 rs
    obtain ⟨t, vs, rfl, sq, rr⟩ := rv
    obtain ⟨w, rfl, rw'⟩ := reps1 rr
    obtain ⟨rfl, hza⟩ := rw'
    obtain ⟨u, rfl, rx⟩ := vals1 r
    cases rx
    obtain ⟨its, rv2, ⟨o, ho, hcl, n, hdat⟩, _⟩ := I.tuple (hK ▸ SqT.up sq S.sub)
    obtain ⟨u2, rfl, rx2⟩ := vals1 rv2
    obtain ⟨tk, rfl⟩ := rx2
    have rd : Reads s.heap (.ref t) (.tuple [.str ⟨a.toArray⟩]) [] := .tuple ho hcl hdat (.cons (.str _ _) .nil)
    refine str_of_reads rd rfl (fun z => by cases z) hg (by show X.A.units + (1 + 3) < cLine; omega) (fun b o e => e) (fun h' u' tk' hk => ?_) (by have := hz; unfold shown1 at this; rw [Array.length_toList] at this; exact this)
    refine ⟨.str (PyData.tuple [.str ⟨a.toArray⟩]).shown, H, I.kept (t' := tk') hk, ⟨u', rfl⟩, k.here S ⟨?_, hz⟩⟩
    show V.str _ = strV (shown1 a)
    unfold strV shown1
    rfl
  · exact biStr hK pins s σ H xs us Q I r ⟨W, st, ps, z, S, rs, h, k⟩

/-! ### xs.index(text) -/
def idxM (p : PV) (ps : List PV) (st : Store) : Option (PV × Store) := match ps with
  | [.str a] => (asL p st).bind fun xs => (strL xs).bind fun ss => let j := ss.findIdx fun x => decide (x = a); if j < ss.length then some (.int (j : Nat), st) else none
  | _ => none
theorem meIdx {X : Cx} {T : Txt} (hK : T.K = X.K) : MtR X "list.index" (rM T idxM) := by
  rintro pins s σ H x xs v us Q I rx rs ⟨W, st, p, ps, z, S, rp, rps, h, k⟩
  unfold idxM at h
  split at h
  · rename_i a
    obtain ⟨ys, h1, h⟩ := Option.bind_eq_some_iff.mp h
    obtain ⟨ss, h2, h⟩ := Option.bind_eq_some_iff.mp h
    simp only [] at h
    by_cases hj : (ss.findIdx fun x => decide (x = a)) < ss.length
    rotate_left
    · rw [if_neg hj] at h; cases h
    rw [if_pos hj] at h
    cases h
    obtain ⟨b, vs, rfl, hb, r1⟩ := asL_at S rp h1
    obtain ⟨rfl, _, hz⟩ := strs_at r1 h2
    obtain ⟨y, rfl, ry⟩ := reps1 rps
    obtain ⟨rfl, _⟩ := ry
    have sv : ∀ x : List Nat, eqV (strV x) (strV a) = decide (x = a) := fun x => by
      show ((⟨x.toArray⟩ : Str) == ⟨a.toArray⟩) = _
      by_cases e : x = a
      · simp [e]
      · have : (⟨x.toArray⟩ : Str) ≠ ⟨a.toArray⟩ := fun z => e (by injection z with z; simpa using z)
        simp [e, this]
    refine mt_index pins s σ H _ _ v us Q I rx rs ⟨b, ss.map strV, strV a, _, strV ss[ss.findIdx fun x => decide (x = a)], rfl, rfl, hK ▸ SqL.of hb, rfl, ?_, ?_, ?_, fun m z' hm hz' => ?_, k.here S rfl⟩
    · rw [List.all_eq_true]
      intro w hw
      obtain ⟨x, _, rfl⟩ := List.mem_map.mp hw
      rfl
    · rw [List.getElem?_map, List.getElem?_eq_getElem hj]; rfl
    · rw [sv]
      exact List.findIdx_getElem (p := fun x => decide (x = a)) (w := hj)
    · rw [List.getElem?_map] at hz'
      obtain ⟨x, hx, rfl⟩ := Option.map_eq_some_iff.mp hz'
      rw [sv]
      have := List.not_of_lt_findIdx hm
      obtain ⟨hm', e⟩ := List.getElem?_eq_some_iff.mp hx
      rw [e] at this
      simpa using this
  · cases h
end Pv
/-! Pv, part V6: try .. except X as e: return f(e), where f asks of what classes e is. -/
namespace Pv
open PySem PySem.Spec PyProof.Rows PySem.SeqAt L2

/-! ### isinstance(e, C) of the exception that is handled -/
section
variable {X : Cx} {T : Txt} {Wx : WX} {a D : Addr} {oe : Obj}
theorem call_isX (hp : (a, oe) ∈ X.pn) (C : ExcC X.K D) (hz : L2.Zc (.ref D) none oe) (hf : ∃ vs, oe.data = .fields vs) : CallR X (.builtin "isinstance") (rIsE X.K D a) := by
  rintro pins s σ H xs us Q I r ⟨c, cv, b, rfl, hcv, hk, q⟩
  obtain ⟨u1, u2, rfl, r1, r2⟩ := vals2 r
  cases r1
  cases hcv _ r2
  have here := (I.pin (a, oe) (List.mem_append_left _ hp)).1
  have at_ : PySem.W.InstAt s.heap a oe D none := by
    obtain ⟨vs, hv⟩ := hf
    rcases oe with ⟨oc, od, oda, osl⟩
    rcases hz with ⟨h1, h2⟩
    simp only at h1 h2 hv
    subst h1; subst h2; subst hv
    exact ⟨here, rfl, rfl, True.intro⟩
  exact PySem.W.kia_one (PySem.W.handS_kitx_exc C.hg C.hk C.hs C.hd C.ha C.hn C.ht C.hm) I.kIn at_ hk (fun z => nomatch z) fun tk => ⟨.bl b, H, I.kept (t' := tk) fun _ _ z => z, rfl, q⟩
/-- isinstance(e, C), its answer known -/
def fIsX (a : Addr) (b : Bool) (f : FE) : FE := fun sg st => (f sg st).bind fun p st => match p with
  | .adr x => if x = a then .ok (.bl b) st else .stuck
  | _ => .stuck
theorem de_isX {b : Bool} {v : V} {cv : Value} {f : FE} {e : Expr} {c : Str} {p p2 pos : Pos} (hp : (a, oe) ∈ X.pn) (C : ExcC X.K D) (hz : L2.Zc (.ref D) none oe) (hf : ∃ vs, oe.data = .fields vs) (hg : Gl X "isinstance") (hm : X.mg "isinstance" = none)
    (ha : PE X e (TEv T Wx f)) (hs : notStar e = true) (hc : PE X (.Name c p2) (tC v)) (hv : ∀ u, RelV v u → u = cv) (hk : PySem.W.kitOne X.K (.ref D) cv = some b) :
    PE X (.Call (.Name "isinstance" p) [e, .Name c p2] [] pos) (TEv T Wx (fIsX a b f)) := by
  refine PEimp (pe_callB (call_isX hp C hz hf) hg hm (by rfl) (pa_cons ha (pa_cons hc pa_nil (star_of rfl)) (star_of hs)) (by decide) (by decide) (star_of hs) (stars_of rfl)) fun σ H Q ⟨W, sg, st, S, so, q⟩ => ?_
  refine ⟨W, sg, st, S, so, (RQ.bind q).mono fun z st1 W1 H1 g1 S1 q1 w rw' => ?_⟩
  show rIsE X.K D a [w, v] H1 Q
  cases z with
  | adr x =>
    simp only [] at q1
    by_cases e : x = a
    rotate_left
    · rw [if_neg e] at q1; exact q1.elim
    rw [if_pos e] at q1
    subst e
    cases rw'
    exact ⟨v, cv, b, rfl, hv, hk, RQ.here q1 S1 _ rfl⟩
  | _ => exact q1.elim
end

/-! ### a def that is called with the exception -/
/-- what such a def promises: a new list of texts -/
def hotF (ys : List (List Nat)) : FF := fun ps st => match ps with
  | [.adr _] => .ok (.ref st.length) (st ++ [.lst (ys.map .str)])
  | _ => .stuck
structure FnHot (P : Program) (w : World) (K : PySem.W.Frag) (mg : Str → Option Value) (base : Heap) (T : Txt) (f : Addr) (fd : FuncData) (x : Str) (D : Addr) (ys : List (List Nat)) : Prop where
  go : ∀ (A : Around) (outer : List Env) (s : Shared) (H : Hp) (args : Args) (a : Addr) (oe : Obj) (Q : VK), L2H.RoomH 1 A → L2.Zc (.ref D) none oe → (∃ vs, oe.data = .fields vs) → L2H.PinOk outer H s (a, oe) → Env0 P w K mg base A outer s H →
    BindsTo s fd args [(x, .ref a)] → spF T (hotF ys) [.ref a] H Q (fun _ _ _ => False) → codeAny (model P w) A (.call (.ref f) args) (CR (L2.CX P w) outer P w H s Q fun _ _ _ => False) s
theorem fn_hot {P : Program} {w : World} {K : PySem.W.Frag} {mg : Str → Option Value} {base : Heap} {T : Txt} {x qual y : Str} {st : Stmt} {f D : Addr} {fd : FuncData} {N : List Str} {ys : List (List Nat)} {b : Addr → FS} (F : L2.Fun K x qual st f fd) (S : FnScope N [y] (defScope st))
    (hbody : ∀ (cdv : Value) (A : Around) (outer : List Env) (s : Shared) (H : Hp) (a : Addr) (oe : Obj), L2.Zc (.ref D) none oe → (∃ vs, oe.data = .fields vs) →
      PSs (L2H.cxH (L2.CX P w) P w K mg base N qual (defScope st) f cdv A outer s H (fun _ _ _ => False) (a, oe)) (defBody st) (TSv T (fun _ _ _ _ => False) (b a)))
    (hev : ∀ a st, fnF 1 N.length (b a) [.adr a] st = hotF ys [.adr a] st) : FnHot P w K mg base T f fd y D ys := by
  obtain ⟨oc, od, kV, doc, pm, an, cdv, ct, osl, rfl, lk, hcd⟩ := F.ex
  refine ⟨fun A outer s H args a oe Q ra hz hf pin e0 hb sp => ?_⟩
  have sp2 : spF T (fnF 1 N.length (b a)) [.ref a] H Q fun _ _ _ => False := by
    obtain ⟨W, ps, st', S', r, q⟩ := sp
    match ps, r, q with
    | [p], r, q =>
      cases p with
      | adr a' =>
        obtain ⟨v, e1, e2⟩ := reps1 r
        cases e1
        cases e2
        exact ⟨W, [.adr a], st', S', ⟨_, _, rfl, rfl, rfl⟩, by rw [hev]; exact q⟩
      | _ => exact q.elim
    | [], r, q => exact q.elim
    | _ :: _ :: _, r, q =>
      obtain ⟨_, _, e1, _, _, _, e2, _⟩ := r
      cases e1
      cases e2
  obtain ⟨many, tb⟩ := tBody_of (N := N) sp2
  have kin : K.In s.heap := e0.mod.kin.keeps fun c o e => (e0.bs c o e).1
  have nolim : s.heap.NoLimit := e0.mod.nolimit.keeps fun c o e => (e0.bs c o e).1
  refine codeAny_call_function ra.depth (kin _ _ lk) rfl S.co S.gen rfl (PySem.W.codeRec_of kin hcd) (hb _ _ _ _ ?_)
  refine wpAny_newFunctionEnv_cells S.kind (fun ⟨n, v⟩ hy => ?_) fun env he s1 entered => ?_
  · have : n = y := by
      have h := (show (n, v) ∈ [(y, Value.ref a)] from hy)
      simpa using (congrArg Prod.fst (List.mem_singleton.mp h))
    subst this
    exact (S.par n (by simp)).imp id fun q => ⟨q, PySem.W.cellsFrom_some _ _ _ (.inl q)⟩
  subst he
  refine ⟨nolim.keeps entered.toInCall.keep, codeAny_func ?_⟩
  have body := hbody cdv A outer s H a oe hz hf
  have inv := L2H.inv_startH (CX := L2.CX P w) (P := P) (w := w) (mg := mg) (base := base) (E := fun _ _ _ => False) (cd := cdv) (f := f) (qual := qual) (us := [.ref a]) (vs := [.ref a]) S pin e0 many (.cons rfl .nil) entered
  refine wpAny_mono (body.run [] s1 (start N [.ref a]) H _ inv tb) (fun out s2 got => ?_) fun _ _ got => got
  have done : ∀ {σ2 : L2.St} {H2 : Hp} {z : V} {u : Value}, L2.Inv (L2H.cxH (L2.CX P w) P w K mg base N qual (defScope st) f cdv A outer s H (fun _ _ _ => False) (a, oe)) [] σ2 H2 s2 → RelV z u → Q z H2 → CE outer P w H s Q u s2 :=
    fun {_ H2 z _} J ru q => ⟨z, H2, J.os, J.bare, J.base, J.hok, ru, q⟩
  match out, got with
  | .next, ⟨_, _, J, q⟩ => exact done (z := .non) (u := .none) J rfl q
  | .ret _, ⟨_, _, _, J, ru, q⟩ => exact done J ru q
  | .brk, ⟨_, _, _, q⟩ => exact False.elim q
  | .cont, ⟨_, _, _, q⟩ => exact False.elim q

/-! ### the call in the suite -/
section
variable {X : Cx} {T : Txt} {Wx : WX} {x n z : Str} {i : Nat} {p p1 p2 pos np pos' pos2 : Pos} {a D f : Addr} {oe : Obj} {pn : List (Addr × Obj)} {fd : FuncData} {ys : List (List Nat)}
theorem pe_hot (F : FnHot X.prog X.w X.K X.mg X.base T f fd z D ys) (hr : L2H.RoomH 1 X.A) (hg : Gl X x) (hm : X.mg x = some (.ref f)) (hk : PySem.W.keepIn X.K (.ref f) = true) (hb : Binds X.K fd [z] []) (hd : (x == ("__debug__" : Str)) = false)
    (hN : X.N[i]? = some n) (hv : Vis X.env.scope n) (n1 : (n == ("__debug__" : Str)) = false) (n2 : (n == ("__classdict__" : Str)) = false) (hz : L2.Zc (.ref D) none oe) (hf : ∃ vs, oe.data = .fields vs) (hpn : (a, oe) ∈ X.pn) :
    PE X (.Call (.Name x p) [.Name n p1] [] pos) (fun σ H Q => σ[i]? = some (some (.ref a)) ∧ spF T (hotF ys) [.ref a] H Q fun _ _ _ => False) := by
  refine ⟨fun pins s σ H Q I ⟨h1, h2⟩ => ?_⟩
  refine wpAny_Call_Name_kw (ld_glob I hg hm ?_ hd)
  have arg : PA X [.Name n p1] (tCons (tVar i) tNil) := pa_cons (pe_var hN hv n1 n2) pa_nil (star_of rfl)
  refine PySem.W.callWith_K (h₀ := X.base) I.ok.mod.kin hk (thn (arg.run pos pins s σ H (fun vs H' => vs = [.ref a] ∧ H' = H) I ⟨_, h1, rfl, rfl⟩) fun us s1 got => ?_) (star_of rfl) (stars_of rfl)
  obtain ⟨vs, H1, I1, rv, rfl, rfl⟩ := got
  obtain ⟨u, rfl, ru⟩ := vals1 rv
  cases ru
  refine ⟨I1.kIn, ?_⟩
  have b := hb s1 [.ref a] I1.kIn rfl
  have P1 := I1.pin (a, oe) (List.mem_append_left _ hpn)
  have pin : L2H.PinOk X.stack H1 s1 (a, oe) := ⟨P1.1, P1.2.1, fun hm => (List.mem_cons.mp (I1.stkSub a hm)).elim P1.2.2.1 P1.2.2.2.1, P1.2.2.2.2⟩
  refine wpAny_call (codeAny_mono (F.go X.A X.stack s1 H1 ⟨[.ref a], []⟩ a oe Q hr hz hf pin I1.env0 b h2) fun r s' hq => ?_)
  match r, hq with
  | .error e, ⟨_, _, _, _, _, _, _, _, _, _, _, _, z⟩ => exact z.elim
  | .ok (.ret u), hq => exact I1.after hq
  | .ok .next, hq => exact hq.elim
  | .ok .brk, hq => exact hq.elim
  | .ok .cont, hq => exact hq.elim
/-- try: u, except X as n: return f(n) -/
def fsTryK (i : Nat) (l : List (Nat × Bool)) (kn : Nat → Option (List (List Nat))) (u : FS) : FS := fun sg st => match u sg st with
  | .ex x sg st => match x.fs with
    | none => match l.lookup x.c with
      | some true => match kn x.c with
        | some ys => if i < sg.length then .rt (.ref st.length) (st ++ [.lst (ys.map .str)]) else .stuck
        | none => .stuck
      | some false => .ex x sg st
      | none => .stuck
    | some _ => .stuck
  | r => r
theorem ds_tryK {c : Value} {body : List Stmt} {l : List (Nat × Bool)} {kn : Nat → Option (List (List Nat))} {u : FS} (hs : X.stack = X.env :: X.outer) (hfr : X.env.frame = some X.env.locals) (hN : X.N.Nodup) (hi : X.N[i]? = some n) (hln : X.env.kindOf n = some .local) (hcn : L2.Names X z c) (tk : L2.Takes X Wx)
    (hl : ∀ m b, l.lookup m = some b → PySem.W.exmOne X.K (.ref (T.cl m)) c = some b)
    (hb : ∀ (W : WX) (pn : List (Addr × Obj)) (xe : Value → Shared → Prop), L2.Takes (X.tr pn xe) W → PassesOwn (model X.prog X.w) X.A X.env xe → PSs (X.tr pn xe) body (TSv T W u))
    (hr : L2H.RoomH 1 X.A) (hg : Gl X x) (hk : ∀ m ys, kn m = some ys → ∃ f fd y, FnHot X.prog X.w X.K X.mg X.base T f fd y (T.cl m) ys ∧ X.mg x = some (.ref f) ∧ PySem.W.keepIn X.K (.ref f) = true ∧ Binds X.K fd [y] []) (hd : (x == ("__debug__" : Str)) = false)
    (hv : Vis X.env.scope n) (n1 : (n == ("__debug__" : Str)) = false) (n2 : (n == ("__classdict__" : Str)) = false) :
    PS X (.Try body [.ExceptHandler (some (.Name z np)) (some n) [.Return (some (.Call (.Name x p) [.Name n p1] [] p2)) pos2] pos'] [] [] pos) (TSv T Wx (fsTryK i l kn u)) := by
  refine PSimp (L2.ps_try_as (tb := fun W => TSv T W u) (ts := fun a cls d D σ H => ∃ m ys, cls = .ref (T.cl m) ∧ d = none ∧ kn m = some ys ∧ σ[i]? = some (some (.ref a)) ∧ spF T (hotF ys) [.ref a] H D.rt fun _ _ _ => False)
    hs hfr hN hi hln hcn tk hb (fun a oe cls d pn hz hf => ?_)) fun D σ H ⟨W, sg, st, S, so, k⟩ => ⟨W, sg, st, S, so, ?_⟩
  · refine pss_one ⟨fun pins s σ H D I h => ?_⟩
    obtain ⟨m, ys, rfl, rfl, h1, h2, h3⟩ := h
    obtain ⟨f, fd, y, F, hm, hkp, hbd⟩ := hk m ys h1
    have key : PE (X.suite a ((a, oe) :: pn)) (.Call (.Name x p) [.Name n p1] [] p2) (fun σ H Q => σ[i]? = some (some (.ref a)) ∧ spF T (hotF ys) [.ref a] H Q fun _ _ _ => False) :=
      pe_hot (X := X.suite a ((a, oe) :: pn)) F ⟨hr.dp, hr.un⟩ hg hm hkp hbd hd hi hv n1 n2 hz hf List.mem_cons_self
    exact (ps_ret key).run pins s σ H D I ⟨h2, h3⟩
  · have k : SQ T Wx D W H (match u sg st with
      | .ex x sg st => match x.fs with
        | none => match l.lookup x.c with
          | some true => match kn x.c with
            | some ys => if i < sg.length then .rt (.ref st.length) (st ++ [.lst (ys.map .str)]) else .stuck
            | none => .stuck
          | some false => .ex x sg st
          | none => .stuck
        | some _ => .stuck
      | r => r) := k
    cases hu : u sg st with
    | ex xx sg1 st1 =>
      rw [hu] at k
      simp only [] at k
      intro W' H' σ' cls d g S' so' ea
      obtain ⟨rfl, hd'⟩ := ea
      cases hfs : xx.fs with
      | some _ => rw [hfs] at k; exact k.elim
      | none =>
        rw [hfs] at k hd'
        simp only [] at k hd'
        subst hd'
        cases hx : l.lookup xx.c with
        | none => rw [hx] at k; exact k.elim
        | some b =>
          rw [hx] at k
          refine ⟨b, hl _ _ hx, fun zz a na => ?_, fun zz => ?_⟩
          · subst zz
            simp only [] at k
            cases hkn : kn xx.c with
            | none => rw [hkn] at k; exact k.elim
            | some ys =>
              rw [hkn] at k
              simp only [] at k
              by_cases hil : i < sg1.length
              rotate_left
              · rw [if_neg hil] at k; exact k.elim
              rw [if_pos hil] at k
              refine ⟨xx.c, ys, rfl, rfl, hkn, List.getElem?_set_self (by rw [← so'.len]; exact hil), W', [.adr a], st1, S', ⟨_, _, rfl, rfl, rfl⟩, ?_⟩
              · exact fun W2 H2 g2 S2 v rv => k W2 H2 v (g.trans g2) S2 rv
          · subst zz
            exact k W' H' σ' _ none g S' so' ⟨rfl, by rw [hfs]⟩
    | nx _ _ => rw [hu] at k; exact k
    | rt _ _ => rw [hu] at k; exact k
    | bk _ _ => rw [hu] at k; exact k
    | ct _ _ => rw [hu] at k; exact k
    | stuck => rw [hu] at k; exact k
end
end Pv
/-! Pv, part V7: raise X(str((text,))): what the text is is not asked. -/
namespace Pv
open PySem PySem.Spec PyProof.Rows PySem.SeqAt L2
section
variable {X : Cx} {T : Txt} {Wx : WX}
/-- whether some frame below is such, whatever stands there -/
theorem own_tailAny {M : Model} {A : Around} {c : Code} {E : Value → Shared → Prop} {s : Shared} {f : Code × Pos → Bool} {Q : Bool → Shared → Prop} (h : ∀ b, Q b s) : wpOwn M A c (do return (← stack).tail.any f) Q E s :=
  wpOwn_bind (wpOwn_stack fun p below _ _ _ => wpOwn_of_wpAny (wpAny_pure (h _)))
/-- the text of a tuple of one text is some text -/
theorem repr_some {prog : Program} {w : World} {A : Around} {E : Value → Shared → Prop} {s : Shared} {Q : Value → Shared → Prop} {t : Addr} {o : Obj} {n : Nat} {x : Str} {u : Tok} (ho : s.heap.get? t = some o) (hc : o.cls = .type "tuple") (hd : o.data = .seq #[.str x u] n)
    (hz : (tupleText [reprText x]).length ≤ sizeLine) (h : ∀ y u tk, Q (.str y u) { s with toks := tk }) : wpAny (model prog w) A (call (.builtin "tuple.__repr__") [.ref t]) Q E s := by
  have small : (reprText x).length ≤ sizeLine := by
    have h1 := piled_le_tupleText [reprText x]
    simp only [piled_cons, piled_nil] at h1
    omega
  refine wpAny_call (codeAny_call_builtin_own (Code.quiet_builtin _ (by decide +kernel)) F.entry_tuple_repr (F.slot_tuple_repr.check _ _ _ _ _ _ _ _ ⟨o, ho, hc⟩ (F.args_tuple_repr_1 _) ?_))
  show wpOwn _ _ _ (Builtin.tupleReprAt 0 ⟨[.ref t], []⟩) _ _ _
  rw [tuple_repr_tree, tupleReprUnderWay_eq]
  refine wpOwn_bind (own_tailAny fun b => ?_)
  cases b with
  | true =>
    rw [if_pos rfl]
    exact wpOwn_of_wpAny (wpAny_bind (wpAny_rule (wpAny_bind (wpAny_mkStr (wpAny_pure (h _ _ _)) (by decide +kernel)))))
  | false =>
    rw [if_neg Bool.false_ne_true]
    exact wpOwn_of_wpAny (wpAny_tupleReprRest ho hd (.cons (ReprIs.str x u small) .nil) (fun u tk => h _ u tk) (by omega))
def rStrA (K : PySem.W.Frag) : List V → Hp → VK → Prop := fun xs H Q => ∃ (t : Addr) (x : Str), xs = [.ref t] ∧ SqT K H t [.str x] ∧ (tupleText [reprText x]).length ≤ sizeLine ∧ ∀ y, Q (.str y) H
theorem call_strA (hu : X.A.units + 200 < cLine) : CallR X (.type "str") (rStrA X.K) := by
  rintro pins s σ H xs us Q I r ⟨t, x, rfl, sq, hz, q⟩
  obtain ⟨v, rfl, rv⟩ := vals1 r
  cases rv
  obtain ⟨its, rs, ⟨o, ho, hc, n, hd⟩, _⟩ := I.tuple sq
  obtain ⟨w, rfl, u, rfl⟩ := vals1 rs
  have core : ∀ (A : Around) (E : Value → Shared → Prop) (s2 : Shared) (Q2 : Value → Shared → Prop), s2.heap = s.heap → (∀ y u tk, Q2 (.str y u) { s2 with toks := tk }) → wpAny (model X.prog X.w) A (call (.builtin "tuple.__repr__") [.ref t]) Q2 E s2 :=
    fun A E s2 Q2 e h => repr_some (e ▸ ho) hc hd hz h
  refine callType_new F.called_str (by decide) (F.typeCall_str_1 _) (F.newCall_str_1 _) (fun obj => F.args_object_init_2 obj _) F.entry_str_new
    (meets_str_new (S := fun A' R s' => A'.units + 5 < cLine ∧ s'.heap = s.heap ∧ ∀ y u tk, R (.ok (.ret (.str y u))) { s' with toks := tk }) fun prog' w' A' R s' h => ?_)
    ⟨by show X.A.units + 1 + 5 < cLine; omega, rfl, fun y u tk => ⟨typeIs_str _ _ _, ?_⟩⟩
  · refine wpAny_strOf_slot rfl (by show A'.units + 1 + 1 < cLine; have := h.1; omega) ⟨o, h.2.1 ▸ ho, hc⟩ F.slot_tuple_str F.slot_tuple_repr ?_
    exact repr_some (h.2.1 ▸ ho) hc hd hz fun y u tk => ⟨y, u, rfl, h.2.2 y u tk⟩
  · exact ⟨.str y, H, I.tok _, ⟨u, rfl⟩, q y⟩
variable {e : Expr} {f : FE} {p p2 p3 p4 pos : Pos} {x : Str}
/-- the text in a tuple of one text -/
def one1 : PV → Option (List Nat)
  | .tup [.str a] => some a
  | _ => none
theorem one1_at {p : PV} {a : List Nat} (h : one1 p = some a) : p = .tup [.str a] := by
  unfold one1 at h
  split at h
  · cases h; rfl
  · cases h
/-- its text is not too long -/
def shortT (a : List Nat) : Bool := decide ((tupleText [reprText ⟨a.toArray⟩]).length ≤ sizeLine)
/-- raise C(str(e)), e a tuple of one text -/
def fsRaiseS (c : Nat) (f : FE) : FS := fun sg st => bindE (f sg st) sg fun p st => match one1 p with
  | some a => match shortT a with
    | true => .ex ⟨c, none⟩ sg st
    | false => .stuck
  | none => .stuck
theorem ds_raiseS {c : Nat} (hK : T.K = X.K) (hu : X.A.units + 200 < cLine) (hc : X.calm = true) (tk : L2.Takes X Wx) (h : ExOk X x (T.cl c)) (hg : Gl X x) (hdb : (x == ("__debug__" : Str)) = false) (hgs : Gl X "str") (hm : X.mg "str" = none) (he : PE X e (TEv T Wx f)) (hn : notStar e = true) :
    PS X (.Raise (some (.Call (.Name x p) [.Call (.Name "str" p3) [e] [] p4] [] p2)) none pos) (TSv T Wx (fsRaiseS c f)) := by
  obtain ⟨B, n, i, bm, F, q⟩ := h.made
  have hs : PE X (.Call (.Name "str" p3) [e] [] p4) (tCB (rStrA X.K) (tCons (TEv T Wx f) tNil)) := pe_callTy (call_strA hu) hgs hm (by rfl) (pa_cons he pa_nil (star_of hn)) (by decide) (by decide) (star_of hn) (stars_of rfl)
  refine PSimp (L2.ps_raise hc tk (SkE.pmk_own1 F q h.glob h.keep h.rs hg hs (star_of rfl) hdb)) fun D σ H ⟨W, sg, st, S, so, k⟩ => ⟨W, sg, st, S, so, ?_⟩
  refine (SQ.bindE k so).mono fun v st1 W1 H1 g1 S1 k1 w rw' => ?_
  cases ho : one1 v with
  | none => simp only [ho] at k1; exact k1.elim
  | some a =>
    simp only [ho] at k1
    cases hz : shortT a with
    | false => simp only [hz] at k1; exact k1.elim
    | true =>
      simp only [hz] at k1
      have e1 := one1_at ho
      subst e1
      obtain ⟨t, vs, rfl, sq, rs⟩ := rw'
      obtain ⟨w, rfl, rfl, _⟩ := reps1 rs
      exact ⟨t, ⟨a.toArray⟩, rfl, hK ▸ SqT.up sq S1.sub, of_decide_eq_true hz, fun y => k1 W1 H1 σ (.ref (T.cl c)) none (.refl _ _) S1 (so.up g1.le) ⟨rfl, rfl⟩⟩
end
end Pv
/-! Pv, part V8: enumerate(a tuple). -/
namespace Pv
open PySem PySem.Spec PyProof.Rows PySem.SeqAt L2
theorem meets_enum1 {v : Value} {o : Obj} {H : Heap → Prop} (B : Begins v o H) :
    Meets (Builtin.«enumerate.__new__» ⟨[.type "enumerate", v], []⟩) (fun _ R s => H s.heap ∧
      R (.ok (.ret (.ref (s.heap.push o).objs.size))) { s with heap := (s.heap.push o).push { cls := .type "enumerate", data := .fields #[.none, .bool false, .ref s.heap.objs.size, rawInt 0, .none, .none] } }) :=
  .of_wp fun prog w A R ⟨hp, g, d, tk, os⟩ ⟨h1, h⟩ => by
    have hsub := sub_enumerate
    have it : ∀ {A' : Around} {E : Value → Shared → Prop} {Q : Value → Shared → Prop}, Q (.ref hp.objs.size) ⟨hp.push o, g, d, tk, os⟩ → wpAny (model prog w) A' (pyIter v) Q E ⟨hp, g, d, tk, os⟩ :=
      fun q => B.iter prog w _ _ _ _ h1 q
    wp_walk using it
    refine wpAny_stack_any fun st => wpAny_pure ?_
    split
    · rename_i c _ _ _ _ _
      cases (c == Value.type "enumerate") <;> (wp_walk using it; exact ⟨_, rfl, h⟩)
    · wp_walk using it
      exact ⟨_, rfl, h⟩
section
variable {prog : Program} {w : World} {A : Around} {E : Value → Shared → Prop} {s : Shared}
theorem call_enum1 {v : Value} {o : Obj} {H : Heap → Prop} {Q : Value → Shared → Prop} (B : Begins v o H) (h1 : H s.heap)
    (h : ∀ h', IsEnum h' (s.heap.objs.size + 1) s.heap.objs.size 0 .none → h'.get? s.heap.objs.size = some o → (∀ b o, s.heap.get? b = some o → h'.get? b = some o) → Q (.ref (s.heap.objs.size + 1)) { s with heap := h' }) :
    wpAny (model prog w) A (call (.type "enumerate") [v]) Q E s := by
  refine callType_new F.called_enumerate (by decide) (F.typeCall_enumerate_1 _) (F.newCall_enumerate_1 _) (fun obj => F.args_object_init_2 obj _) F.entry_enumerate_new (meets_enum1 B) ⟨h1, ?_⟩
  have hz : (s.heap.push o).objs.size = s.heap.objs.size + 1 := Heap.size_push ..
  have he := Heap.get?_push_size (s.heap.push o) (o := { cls := .type "enumerate", data := .fields #[.none, .bool false, .ref s.heap.objs.size, rawInt 0, .none, .none] }) rfl
  rw [hz] at he
  show _ ∧ _
  rw [hz]
  exact ⟨⟨_, he, rfl⟩, h _ he (Heap.get?_push_of_some _ (Heap.get?_push_size _ B.free)) fun b u x => Heap.get?_push_of_some _ (Heap.get?_push_of_some _ x)⟩
end
def ItE (K : PySem.W.Frag) (a : Addr) : It :=
  ⟨fun i H => ∃ (xs : List V) (x : V), SqT K H a xs ∧ xs[i]? = some x, fun i H v H' => ∃ T x, v = .ref T ∧ H T = none ∧ H' = upd H T (.tup [.int (i : Nat), x]) ∧ ∀ xs, SqT K H a xs → xs[i]? = some x, fun i H => ∃ xs : List V, SqT K H a xs ∧ xs.length = i⟩
theorem turn_enumT {P : Program} {w : World} {K : PySem.W.Frag} {elts : List Expr} {kk : Nat} {tpos : Pos} (a e it : Addr) (hai : a ≠ it) (hae : a ≠ e) :
    Turn P w K (.Tuple elts kk tpos) (ItE K a) [e, it] e (fun i h => (∃ old, IsEnum h e it ((i : Nat) : Int) old) ∧ h.IsTupleIter it a i ∧ e ≠ it) where
  mem := by simp
  obj := fun i h st b hb => by
    obtain ⟨⟨old, he⟩, ⟨o, ho, hc, hd⟩, _⟩ := st
    rcases (show b = e ∨ b = it by simpa using hb) with rfl | rfl
    · exact ⟨_, he, fun v q => nomatch q⟩
    · exact ⟨o, ho, fun v q => by rw [hd] at q; cases q⟩
  keep := fun i h h' st k => let ⟨⟨old, he⟩, hi, hne⟩ := st; ⟨⟨old, k e (by simp) _ he⟩, hi.at fun o q => k it (by simp) o q, hne⟩
  item := by
    rintro X rfl rfl rfl hc i pins s σ H E I hf ⟨⟨old, he⟩, hit, hne⟩ ⟨xs, x, hq, hx⟩
    obtain ⟨its, rv, p, hz⟩ := I.tuple hq
    obtain ⟨u, hu, ru⟩ := rv.get hx
    have hel : e < s.heap.objs.size := Heap.lt_size he
    have hil : it < s.heap.objs.size := by obtain ⟨_, q, _⟩ := hit; exact Heap.lt_size q
    have hi : i < its.toArray.size := by
      have := (List.getElem?_eq_some_iff.mp hu).1
      simpa using this
    have D := Draws.tuple (prog := X.prog) (w := X.w) (A := X.A.in1) (I.ok.hd hc) it a hai its.toArray
    refine wpAny_pyNext_enum_itemD D he ⟨hit, p⟩ hi hne (by simp [hne, Ne.symm hae]) fun y h' tk hy ho hst hT hsz hk => ?_
    have hyu : y = u := by
      have h1 : its.toArray[i]? = some u := by simpa using hu
      rw [h1] at hy
      exact (Option.some.inj hy).symm
    subst hyu
    refine ⟨_, rfl, wpAny_letOwnedTupleGo_enum (s := { s with heap := h', toks := tk + 1 }) ho fun h'' he' sb => ?_⟩
    have hT2 : h''.get? s.heap.objs.size = some { cls := .type "tuple", data := .seq #[.int i tk, y] } := (sb.2 _ (Nat.ne_of_gt hel)).trans hT
    have new : ObjOk X.prog X.w (upd H s.heap.objs.size (.tup [.int (i : Nat), x])) h'' s.heap.objs.size (.tup [.int (i : Nat), x]) :=
      ⟨by show 2 ≤ sizeLine; decide, [.int i tk, y], .cons ⟨_, rfl⟩ (.cons ru .nil), ⟨_, hT2, rfl, _, rfl⟩⟩
    have I1 : Inv X pins σ (upd H s.heap.objs.size (.tup [.int (i : Nat), x])) { s with heap := h'', toks := tk + 1 } :=
      I.turnedNew (ch := [e, it]) (fun b ob hb q => (sb.2 b (fun z => hb (by simp [z]))).trans (hk b ob (fun z => hb (by simp [z])) (fun z => hb (by simp [z])) q)) hf (Nat.le_refl _) new
    refine ⟨.ref s.heap.objs.size, _, I1, rfl, ⟨_, x, rfl, I.hok.fresh (Nat.le_refl _), rfl, fun ys hy => ?_⟩, ⟨⟨y, ?_⟩, hst.1.at fun o q => (sb.2 it (Ne.symm hne)).trans q, hne⟩, fun b hb => ?_⟩
    · rw [I.tuple_inj hy hq]; exact hx
    · have e1 : ((i + 1 : Nat) : Int) = (i : Int) + 1 := by omega
      rw [e1]; exact he'
    · have hb' : b < s.heap.objs.size := by
        rcases (show b = e ∨ b = it by simpa using hb) with rfl | rfl
        · exact hel
        · exact hil
      rw [upd_ne (Nat.ne_of_lt hb')]
      exact (hf b hb).1
  done := by
    rintro X rfl rfl rfl hc i pins s σ H E I hf ⟨⟨old, he⟩, hit, hne⟩ ⟨xs, hq, hx⟩
    obtain ⟨its, rv, p, hz⟩ := I.tuple hq
    obtain ⟨f0, f1, f2, f3, f4, f5⟩ := hf it (by simp)
    have hl : its.toArray.size = i := by rw [List.size_toArray]; have := rv.length; omega
    have D := Draws.tuple (prog := X.prog) (w := X.w) (A := X.A.in1) (I.ok.hd hc) it a hai its.toArray
    rw [hl] at D
    exact wpAny_pyNext_enum_endD D he ⟨hit, p⟩ fun h' eb => ⟨rfl, I.turned (t' := s.toks) (fun b o hb q => eb b o hb q) f0 f1 f3 f4 f5⟩
  self := fun A i s Q E st h => let ⟨⟨_, he⟩, _⟩ := st; wpAny_pyIter_enum he h
def iEnumT (K : PySem.W.Frag) (ta : TA) : TI := fun σ H R => ta σ H fun vs H1 => ∃ a xs, vs = [.ref a] ∧ SqT K H1 a xs ∧ R (ItE K a) H1
section
variable {X : Cx} {T : Txt} {Wx : WX} {e : Expr} {ta : TA} {p pos tpos : Pos} {elts : List Expr} {kk : Nat} {f : FE} {W : Wd}
theorem pi_enumT (hg : Gl X "enumerate") (hm : X.mg "enumerate" = none) (ha : PA X [e] ta) (hs : starEach [e] X.env = [(false, eval e X.env)]) : PI X (.Tuple elts kk tpos) (.Call (.Name "enumerate" p) [e] [] pos) (iEnumT X.K ta) := by
  refine ⟨fun pins s σ H R I h => Call_ (ld_blt I hg hm boot_enumerate (PyProof.Rows.callWith_type1 (thn (ha.run pos pins s σ H _ I h) ?_) hs rfl))⟩
  rintro us s1 ⟨vs, H1, I1, r1, a, xs, rfl, hq, q⟩
  obtain ⟨u, rfl, ru⟩ := vals1 r1
  cases ru
  obtain ⟨its, rv, p', hz⟩ := I1.tuple hq
  have low : a < s1.heap.objs.size := by obtain ⟨o, ho, _⟩ := p'; exact Heap.lt_size ho
  refine call_enum1 (begins_tuple a its.toArray) p' fun h' he hit hk => wpAny_pyIter_enum he ?_
  have I2 : Inv X pins σ H1 { s1 with heap := h' } := I1.kept (t' := s1.toks) hk
  refine ⟨s1.heap.objs.size + 1, [s1.heap.objs.size + 1, s1.heap.objs.size], _, _, H1, rfl, I2, turn_enumT a (s1.heap.objs.size + 1) s1.heap.objs.size (Nat.ne_of_lt low) (Nat.ne_of_lt (Nat.lt_succ_of_lt low)), ⟨⟨.none, he⟩, ⟨_, hit, rfl, rfl⟩, Nat.succ_ne_self _⟩, fun b hb => ?_, q⟩
  have hle : s1.heap.objs.size ≤ b := by
    rcases (show b = s1.heap.objs.size + 1 ∨ b = s1.heap.objs.size by simpa using hb) with z | z
    · rw [z]; exact Nat.le_succ _
    · rw [z]; exact Nat.le_refl _
  exact I1.fpOk hle (I1.hok.fresh hle)
theorem walks_enumT {a : Addr} {vs : List V} {ps : List PV} (h : SqT T.K W.F a vs) (r : Reps T.K W ps vs) : Walks T W (ItE T.K a) (enumL 0 ps) := fun W1 st1 H1 i l S => by
  have h1 : SqT T.K H1 a vs := SqT.up h fun b o e => S.sub _ _ (l.F b o e)
  have r1 := r.up l
  refine ⟨fun p hp => ?_, fun hi => ⟨vs, h1, by rw [Reps.length r1, hi, enumL_length]⟩⟩
  rw [enumL_get] at hp
  obtain ⟨q, hq, rfl⟩ := Option.map_eq_some_iff.mp hp
  obtain ⟨v, hv, rv⟩ := r1.get hq
  refine ⟨⟨vs, v, h1, hv⟩, fun x H2 y => ?_⟩
  obtain ⟨t, w, rfl, ht, rfl, y⟩ := y
  have := y vs h1
  rw [hv] at this
  cases this
  obtain ⟨g, S'⟩ := S.laid ht (.tup [.int (i : Nat), v])
  exact ⟨_, g, S', t, _, rfl, SqT.of upd_same, ⟨_, _, rfl, by rw [Nat.zero_add]; rfl, _, _, rfl, rv.up g.le, rfl⟩⟩
def enumT (p : PV) (st : Store) : R (List PV) := match p with
  | .tup xs => .ok (enumL 0 xs) st
  | _ => .stuck
def fiEnumT (f : FE) : FA := fun sg st => (f sg st).bind fun p st => enumT p st
theorem di_enumT (hK : T.K = X.K) (hg : Gl X "enumerate") (hm : X.mg "enumerate" = none) (ha : PE X e (TEv T Wx f)) (hs : notStar e = true) : PI X (.Tuple elts kk tpos) (.Call (.Name "enumerate" p) [e] [] pos) (TIv T Wx (fiEnumT f)) :=
  PIimp (pi_enumT hg hm (pa_cons ha pa_nil (star_of hs)) (star_of hs)) fun σ H R ⟨W, sg, st, S, so, q⟩ => ⟨W, sg, st, S, so, (RQ.bind q).mono fun p st1 W1 H1 g1 S1 q1 v rv => by
    cases p with
    | tup xs =>
      obtain ⟨l, vs, rfl, h1, rs⟩ := rv
      exact ⟨l, vs, rfl, hK ▸ SqT.up h1 S1.sub, hK ▸ RQ.here q1 S1 _ (walks_enumT h1 rs)⟩
    | _ => exact q1.elim⟩
end
end Pv
/-! Pv, part V9: zip(a text, a tuple); d[k] of a written dict; an expression that is not served. -/
namespace Pv
open PySem PySem.Spec PyProof.Rows PySem.SeqAt L2

def ItzS (x : Str) (K : PySem.W.Frag) (b : Addr) : It where
  go := fun i H => ∃ (ys : List V) (y : V), i < x.cps.size ∧ SqT K H b ys ∧ ys[i]? = some y
  yld := fun i H v H' => ∃ T c y, v = .ref T ∧ H T = none ∧ H' = upd H T (.tup [.str ⟨#[c]⟩, y]) ∧ x.cps[i]? = some c ∧ ∀ ys, SqT K H b ys → ys[i]? = some y
  stop := fun i H => ∃ ys : List V, SqT K H b ys ∧ (x.cps.size = i ∨ ys.length = i) ∧ i ≤ x.cps.size ∧ i ≤ ys.length
/-- the cells of such a zip -/
structure ZipStS (x : Str) (t : Tok) (z TI TO i1 i2 b : Addr) (i : Nat) (h : Heap) : Prop where
  z : IsZip h z TI TO .none
  ti : IsPair h TI (.ref i1) (.ref i2)
  tO : ∃ x y, IsPair h TO x y
  one : h.IsStrIter i1 (strIterType x) x t i
  two : h.IsTupleIter i2 b i
theorem ZipStS.at5 {x : Str} {t : Tok} {z TI TO i1 i2 b : Addr} {i : Nat} {h : Heap} (st : ZipStS x t z TI TO i1 i2 b i h) {c : Addr} (hc : c ∈ [z, TI, TO, i1, i2]) : ∃ o, h.get? c = some o ∧ ∀ v, o.data ≠ .cell v := by
  obtain ⟨x, y, hTO⟩ := st.tO
  rcases mem5 hc with rfl | rfl | rfl | rfl | rfl
  · exact ⟨_, st.z, fun v q => nomatch q⟩
  · exact ⟨_, st.ti, fun v q => nomatch q⟩
  · exact ⟨_, hTO, fun v q => nomatch q⟩
  · obtain ⟨o, e, _, d⟩ := st.one; exact ⟨o, e, fun v q => by rw [d] at q; cases q⟩
  · obtain ⟨o, e, _, d⟩ := st.two; exact ⟨o, e, fun v q => by rw [d] at q; cases q⟩
theorem turnS {P : Program} {w : World} {K : PySem.W.Frag} {elts : List Expr} {kk : Nat} {tpos : Pos} {x : Str} {t : Tok} {b z TI TO i1 i2 : Addr} (D : ZipSep2 z TI TO i1 i2 [i1] [i2, b]) (hb : b ≠ i2) :
    Turn P w K (.Tuple elts kk tpos) (ItzS x K b) [z, TI, TO, i1, i2] z (ZipStS x t z TI TO i1 i2 b) where
  mem := by simp
  obj := fun i h st c hc => st.at5 hc
  keep := fun i h h' st k => by
    obtain ⟨x, y, hTO⟩ := st.tO
    exact ⟨k z (by simp) _ st.z, k TI (by simp) _ st.ti, ⟨x, y, k TO (by simp) _ hTO⟩, let ⟨o, e, r⟩ := st.one; ⟨o, k i1 (by simp) o e, r⟩, st.two.at fun o e => k i2 (by simp) o e⟩
  self := fun A i s Q E st q => wpAny_pyIter_zip st.z q
  done := by
    rintro X rfl rfl rfl hc i pins s σ H E I hf st ⟨ys, qy, hend, l1, l2⟩
    obtain ⟨its2, rv2, p2, _⟩ := I.tuple qy
    obtain ⟨x0, y0, hTO⟩ := st.tO
    have n2 : its2.toArray.size = ys.length := by rw [List.size_toArray, rv2.length]
    have D1 := Draws.text (prog := X.prog) (w := X.w) (A := X.A.in1) (I.ok.hd hc) i1 x t
    have D2 := Draws.tuple (prog := X.prog) (w := X.w) (A := X.A.in1) (I.ok.hd hc) i2 b hb its2.toArray
    refine wpAny_pyNext_zipD2_end D D1 D2 st.z st.ti hTO st.one ⟨st.two, p2⟩ (by omega) (by omega) (by omega) fun h' tk hk => ⟨rfl, ?_⟩
    exact I.turnedL (ch := [z, TI, TO, i1, i2]) (fun c o hb q => hk c o (fun e => hb (by simp [e])) (fun e => hb (by simp [e])) (fun e => hb (by simp [e])) (fun e => hb (by simp [e])) q) hf
  item := by
    rintro X rfl rfl rfl hc i pins s σ H E I hf st ⟨ys, y, hx, qy, hy⟩
    obtain ⟨its2, rv2, p2, _⟩ := I.tuple qy
    obtain ⟨v2, hv2, ru2⟩ := rv2.get hy
    obtain ⟨x0, y0, hTO⟩ := st.tO
    have hzl : z < s.heap.objs.size := Heap.lt_size st.z
    have n2 : i < its2.toArray.size := by rw [List.size_toArray]; exact (List.getElem?_eq_some_iff.mp hv2).1
    have D1 := Draws.text (prog := X.prog) (w := X.w) (A := X.A.in1) (I.ok.hd hc) i1 x t
    have D2 := Draws.tuple (prog := X.prog) (w := X.w) (A := X.A.in1) (I.ok.hd hc) i2 b hb its2.toArray
    refine wpAny_pyNext_zipD2_item D D1 D2 st.z st.ti hTO st.one ⟨st.two, p2⟩ hx n2 fun w1 w2 h' tk e1 e2 z' TO' s1 s2 hT hsz hk => ?_
    obtain ⟨c, u, hc1, rfl⟩ := e1
    have f2 : w2 = v2 := by
      have : its2.toArray[i]? = some v2 := by simpa using hv2
      rw [this] at e2; exact (Option.some.inj e2).symm
    subst f2
    refine ⟨_, rfl, wpAny_letOwnedTupleGo_zip z' fun h'' z'' sb => ?_⟩
    have hT2 : h''.get? s.heap.objs.size = some { cls := .type "tuple", data := .seq #[.str ⟨#[c]⟩ u, w2] } := (sb.2 _ (Nat.ne_of_gt hzl)).trans hT
    have new : ObjOk X.prog X.w (upd H s.heap.objs.size (.tup [.str ⟨#[c]⟩, y])) h'' s.heap.objs.size (.tup [.str ⟨#[c]⟩, y]) := ⟨by show 2 ≤ sizeLine; rw [sizeLine_eq]; decide, [.str ⟨#[c]⟩ u, w2], .cons ⟨u, rfl⟩ (.cons ru2 .nil), ⟨_, hT2, rfl, _, rfl⟩⟩
    have I1 : Inv X pins σ (upd H s.heap.objs.size (.tup [.str ⟨#[c]⟩, y])) { s with heap := h'', toks := tk } :=
      I.turnedNew (ch := [z, TI, TO, i1, i2]) (fun c o hb q => (sb.2 c fun e => hb (by simp [e])).trans (hk c o (fun e => hb (by simp [e])) (fun e => hb (by simp [e])) (fun e => hb (by simp [e])) (fun e => hb (by simp [e])) q)) hf (Nat.le_refl _) new
    refine ⟨.ref s.heap.objs.size, _, I1, rfl, ⟨_, c, y, rfl, I.hok.fresh (Nat.le_refl _), rfl, hc1, fun l hl => by rw [I.tuple_inj hl qy]; exact hy⟩, ⟨z'', ?_, ⟨.str ⟨#[c]⟩ u, w2, ?_⟩, ?_, ?_⟩, fun c hcm => ?_⟩
    · exact (sb.2 _ D.TIz).trans (hk _ _ D.TIz D.TITO D.TIi1 D.TIi2 st.ti)
    · exact (sb.2 _ D.TOz).trans TO'
    · obtain ⟨o, e, r⟩ := s1; exact ⟨o, (sb.2 _ (Ne.symm D.zi1)).trans e, r⟩
    · exact s2.1.at fun o q => (sb.2 _ (Ne.symm D.zi2)).trans q
    · obtain ⟨o, e, _⟩ := st.at5 hcm
      rw [upd_ne (Nat.ne_of_lt (Heap.lt_size e))]
      exact (hf c hcm).1
/-- zip(a, b) as what is walked: a text and a tuple -/
def iZipS (K : PySem.W.Frag) (ta : TA) : TI := fun σ H R => ta σ H fun vs H1 => ∃ x b ys, vs = [.str x, .ref b] ∧ SqT K H1 b ys ∧ R (ItzS x K b) H1
theorem pi_zipS {X : Cx} {e e2 : Expr} {ta : TA} {p pos tpos : Pos} {elts : List Expr} {kk : Nat} (hg : Gl X "zip") (hm : X.mg "zip" = none) (ha : PA X [e, e2] ta)
    (hs : starEach [e, e2] X.env = (false, eval e X.env) :: starEach [e2] X.env := by rfl) (hpl : (backTo pos (starEach [e2] X.env)).any (·.1) = false := by rfl) :
    PI X (.Tuple elts kk tpos) (.Call (.Name "zip" p) [e, e2] [] pos) (iZipS X.K ta) := by
  refine ⟨fun pins s σ H R I h => ?_⟩
  refine Call_ (ld_blt I hg hm PyProof.Rows.boot_zip (PyProof.Rows.callWith_type1 (thn (ha.run pos pins s σ H _ I h) fun us s1 ⟨vs, H1, I1, r1, q1⟩ => ?_) hs hpl))
  obtain ⟨x, b, ys, rfl, qy, q⟩ := q1
  obtain ⟨u1, u2, rfl, r, r'⟩ : ∃ u1 u2, us = [u1, u2] ∧ RelV (.str x) u1 ∧ RelV (.ref b) u2 := by
    cases r1 with
    | cons r rr => cases rr with
      | cons r' rr => cases rr; exact ⟨_, _, rfl, r, r'⟩
  obtain ⟨t, rfl⟩ := r
  cases r'
  obtain ⟨its2, rv2, p2, _⟩ := I1.tuple qy
  have low : b < s1.heap.objs.size := by obtain ⟨o, ho, _⟩ := p2; exact Heap.lt_size ho
  refine zip_begins2 (begins_text x t) (begins_tuple b its2.toArray) True.intro p2 fun h' hz hTI hTO g1 g2 hsz hk => wpAny_pyIter_zip hz ?_
  exact ⟨_, _, _, _, H1, rfl, I1.kept (t' := s1.toks) hk, turnS (x := x) (t := t) (zip_sep2 (fp1 := []) (fp2 := [b]) (fun _ h => absurd h (by simp)) (fun c hc => by rw [List.mem_singleton.mp hc]; exact low)) (Nat.ne_of_lt (Nat.lt_succ_of_lt low)), ⟨hz, hTI, ⟨_, _, hTO⟩, ⟨_, g1, rfl, rfl⟩, ⟨_, g2, rfl, rfl⟩⟩, news5 I1, q⟩
section
variable {X : Cx} {T : Txt} {Wx : WX} {a b e : Expr} {p p2 pos : Pos} {f g : FE}
theorem walks_zipS {W : Wd} {c : List Nat} {b : Addr} {us : List V} {qs : List PV} (h' : SqT T.K W.F b us) (r' : Reps T.K W qs us) : Walks T W (ItzS ⟨c.toArray⟩ T.K b) (zipL (chrs c) qs) := fun W1 st1 H1 i l S => by
  have h2 : SqT T.K H1 b us := SqT.up h' fun b o e => S.sub _ _ (l.F b o e)
  have r2 := r'.up l
  have hl : (chrs c).length = c.length := by simp [chrs]
  refine ⟨fun p hp => ?_, fun hi => ?_⟩
  · obtain ⟨p, q, hp', hq, rfl⟩ := zipL_get _ _ _ _ hp
    obtain ⟨u, hu, ru⟩ := r2.get hq
    unfold chrs at hp'
    rw [List.getElem?_map] at hp'
    obtain ⟨d, hd, rfl⟩ := Option.map_eq_some_iff.mp hp'
    have hi : i < c.length := (List.getElem?_eq_some_iff.mp hd).1
    refine ⟨⟨us, u, by simpa using hi, h2, hu⟩, fun x H2 y => ?_⟩
    obtain ⟨t, w1, w2, rfl, ht, rfl, y1, y2⟩ := y
    have e1 : w1 = d := by
      have : (c.toArray)[i]? = some w1 := y1
      simp [hd] at this
      exact this.symm
    subst e1
    have e2 := y2 us h2
    rw [hu] at e2; cases e2
    obtain ⟨g, S'⟩ := S.laid ht (.tup [.str ⟨#[w1]⟩, u])
    exact ⟨_, g, S', t, _, rfl, SqT.of upd_same, ⟨_, _, rfl, ⟨rfl, by rw [sizeLine_eq]; simp⟩, _, _, rfl, ru.up g.le, rfl⟩⟩
  · have hz := zipL_len (chrs c) qs
    have n2 := Reps.length r2
    have := zipL_end _ _ _ (Nat.le_of_eq hi.symm)
    refine ⟨us, h2, ?_, ?_, by omega⟩
    · show c.toArray.size = i ∨ _
      rw [List.size_toArray]; omega
    · show i ≤ c.toArray.size
      rw [List.size_toArray]; omega
def zipSV (p q : PV) (st : Store) : R (List PV) := match p, q with
  | .str a, .tup ys => .ok (zipL (chrs a) ys) st
  | _, _ => .stuck
def fiZipS (f g : FE) : FA := fun sg st => (f sg st).bind fun p st => (g sg st).bind fun q st => zipSV p q st
theorem di_zipS {elts : List Expr} {kk : Nat} {tpos : Pos} (hK : T.K = X.K) (hg : Gl X "zip") (hm : X.mg "zip" = none) (ha : PE X a (TEv T Wx f)) (hb : PE X b (TEv T Wx g)) (hs : notStar a = true) (hs' : notStar b = true) :
    PI X (.Tuple elts kk tpos) (.Call (.Name "zip" p) [a, b] [] pos) (TIv T Wx (fiZipS f g)) :=
  PIimp (pi_zipS hg hm (pa_cons ha (pa_cons hb pa_nil (star_of hs')) (star_of hs)) (star_of hs) (stars_of (by simp [hs']))) fun σ H R ⟨W, sg, st, S, so, q⟩ => ⟨W, sg, st, S, so, (RQ.bind q).mono fun p st1 W1 H1 g1 S1 q1 v rv => ⟨W1, sg, st1, S1, so.up g1.le, (RQ.bind q1).mono fun p2 st2 W2 H2 g2 S2 q2 u ru => by
    cases p with
    | str c =>
      cases p2 with
      | tup ys =>
        obtain ⟨rfl, hz⟩ := rv
        obtain ⟨l, vs, rfl, h1, rs⟩ := ru
        exact ⟨_, l, vs, rfl, hK ▸ SqT.up h1 S2.sub, hK ▸ RQ.here q2 S2 _ (walks_zipS h1 rs)⟩
      | _ => exact q2.elim
    | _ => exact (show False from (by cases p2 <;> exact q2)).elim⟩⟩
/-- d[k] of a written dict with texts as keys -/
def fWd (tb : List (List Nat × PV)) (f : FE) : FE := fun sg st => (f sg st).bind fun p st => match p with
  | .str z => match tb.lookup z with
    | some q => .ok q st
    | none => .stuck
  | _ => .stuck
theorem de_wd {d : Addr} {tb : List (List Nat × PV)} {o : Expr} (hd : PE X o (tC (.ref d))) (ht : ∀ z q, tb.lookup z = some q → ∃ v, KDct X.K X.w d ⟨z.toArray⟩ v ∧ Fixed T.K q v) (hb : PE X b (TEv T Wx g)) (hs : PlainIx b) : PE X (.Subscript o b pos) (TEv T Wx (fWd tb g)) :=
  PEimp (pe_ix (ix_kdict (X := X)) hd hb hs) fun σ H Q ⟨W, sg, st, S, so, q⟩ => ⟨W, sg, st, S, so, (RQ.bind q).mono fun p st1 W1 H1 g1 S1 q1 u ru => by
    cases p with
    | str z =>
      obtain ⟨rfl, hz⟩ := ru
      simp only [] at q1
      cases hl : tb.lookup z with
      | none => rw [hl] at q1; exact q1.elim
      | some q' =>
        rw [hl] at q1
        obtain ⟨v, h1, h2⟩ := ht z q' hl
        exact ⟨d, _, v, rfl, rfl, h1, RQ.here q1 S1 _ (h2 W1)⟩
    | _ => exact q1.elim⟩
def fStk : FE := fun _ _ => .stuck
theorem de_stk : PE X e (TEv T Wx fStk) := ⟨fun pins s σ H Q I h => by obtain ⟨_, _, _, _, _, q⟩ := h; exact q.elim⟩
end
end Pv
set_option maxHeartbeats 8000000
/-! Pv, part N: the text is turned into functions of values; expressions. -/
namespace Pv
open PySem PySem.Spec PyProof.Rows PySem.SeqAt L2

/-- what is known of a text: its defs, classes, methods, constants, fields by names; sites: new lists and dicts that are cells, comprehensions over a dict's keys, values that are frozen, names that are frozen ahead of a statement -/
structure Stc where
  fns : List (Str × Nat) := []
  mks : List (Str × Nat × Nat) := []
  mts : List (Str × List (Nat × Nat)) := []
  gcs : List (Str × PV) := []
  flds : List (Str × List Nat) := []
  bx : List (Nat × Nat) := []
  kys : List (Nat × Nat) := []
  frz : List (Nat × Nat) := []
  frzv : List (Nat × Str) := []
  exs : List (Str × Nat) := []
  exm : List (Str × List (Nat × Bool)) := []
  lv : List (Nat × Nat) := []
  /-- displays that are known to have no dict, names that are taken for any tuple; sorted(a dict); enumerate(a tuple); a dict that is walked by keys or items: where the walked thing stands, the statement by its line and what is locked; a cell walked by a statement; raise X(str(..)); defs that tell an exception's classes -/
  pl : List (Nat × Nat) := []
  nrm : List (Nat × Nat) := []
  sdt : List (Nat × Nat) := []
  ent : List (Nat × Nat) := []
  kit : List (Nat × Nat) := []
  lkf : List (Nat × Nat × Option (List Nat)) := []
  lvf : List Nat := []
  rst : List Nat := []
  kin : List (Str × List (Nat × List (List Nat))) := []
  /-- zip(a text, a tuple) by its first argument; written dicts -/
  zs : List (Nat × Nat) := []
  wds : List (Str × List (List Nat × PV)) := []
def Stc.bxAt (S : Stc) (p : Pos) : Bool := S.bx.contains (p.line, p.col)
def Stc.kyAt (S : Stc) (p : Pos) : Bool := S.kys.contains (p.line, p.col)
def Stc.lvAt (S : Stc) (p : Pos) : Bool := S.lv.contains (p.line, p.col)
def Stc.frzAt (S : Stc) (p : Pos) : Bool := S.frz.contains (p.line, p.col)
def Stc.plAt (S : Stc) (p : Pos) : Bool := S.pl.contains (p.line, p.col)
def Stc.nrmAt (S : Stc) (p : Pos) : Bool := S.nrm.contains (p.line, p.col)
def Stc.sdAt (S : Stc) (p : Pos) : Bool := S.sdt.contains (p.line, p.col)
def Stc.enAt (S : Stc) (p : Pos) : Bool := S.ent.contains (p.line, p.col)
def Stc.ktAt (S : Stc) (p : Pos) : Bool := S.kit.contains (p.line, p.col)
def Stc.zsAt (S : Stc) (p : Pos) : Bool := S.zs.contains (p.line, p.col)
def Stc.mt (S : Stc) (m : Str) (c : Nat) : Option Nat := (S.mts.lookup m).bind fun l => l.lookup c
def Stc.fldOk (S : Stc) (l : Str) (c : Nat) : Bool := ((S.flds.lookup l).getD []).contains c
/-- where an expression stands: the names' places, the scope; none: a def's own block, else a comprehension's -/
structure LE where
  N : List Str
  sc : Scope
  cs : Option Scope := none
def LE.fnb (le : LE) (x : Str) : Bool := match le.cs with
  | none => true
  | some s => s.names.lookup x == some .cell
def okName (x : Str) : Bool := !(x == ("__debug__" : Str)) && !(x == ("__classdict__" : Str)) && !(x == ("__name__" : Str))
def LE.vis (le : LE) (x : Str) : Bool := le.sc.names.lookup x == some .local || le.sc.names.lookup x == some .cell || le.sc.names.lookup x == some .free
def LE.gl (le : LE) (x : Str) : Bool := le.sc.names.lookup x == some .globalImplicit && okName x
/-- a name that may be bound -/
def LE.loc (le : LE) (x : Str) : Bool := le.sc.names.lookup x == some .local || (le.sc.names.lookup x == some .cell && le.fnb x)
def LE.ix (le : LE) (x : Str) : Option Nat := let i := le.N.findIdx (· == x); if le.N[i]? = some x then some i else none

/-! ### what is built in -/
inductive BI where
  | len | str | int | abs | max | min | tuple | list | all | any | sorted
  deriving DecidableEq
def BI.name : BI → Str
  | .len => "len" | .str => "str" | .int => "int" | .abs => "abs" | .max => "max" | .min => "min" | .tuple => "tuple" | .list => "list" | .all => "all" | .any => "any" | .sorted => "sorted"
def allBI : List BI := [.len, .str, .int, .abs, .max, .min, .tuple, .list, .all, .any, .sorted]
def BI.of (x : Str) : Option BI := allBI.find? fun b => x == b.name
theorem BI.of_name {x : Str} {b : BI} (h : BI.of x = some b) : x = b.name := by
  have := List.find?_some h
  simpa using this
def BI.fn : BI → Bool → List PV → Store → Option (PV × Store)
  | .len, _ => lenB | .str, _ => strB | .int, _ => intB | .abs, _ => absB | .max, _ => maxB | .min, _ => minB | .tuple, _ => tupB | .list, b => lstB b | .all, _ => allB | .any, _ => anyB | .sorted, b => srtG b
def Ty.of (x : Str) : Option Ty := if x == ("bool" : Str) then some .bool else if x == ("int" : Str) then some .int else if x == ("str" : Str) then some .str else if x == ("tuple" : Str) then some .tuple else if x == ("list" : Str) then some .list else if x == ("dict" : Str) then some .dict else none
def bltNames : List Str := ["len", "str", "int", "abs", "max", "min", "tuple", "list", "all", "any", "sorted", "isinstance", "bool", "dict", "range", "enumerate", "zip"]
inductive BM where
  | append | pop | extend | join | get | update | index
def BM.of (x : Str) : Option BM := if x == ("append" : Str) then some .append else if x == ("pop" : Str) then some .pop else if x == ("extend" : Str) then some .extend else if x == ("join" : Str) then some .join else if x == ("get" : Str) then some .get else if x == ("update" : Str) then some .update else if x == ("index" : Str) then some .index else none
def BM.is : BM → PV → Store → Bool
  | .join => isStr
  | .get => isDic
  | .update => isDic
  | _ => isLst
def BM.fn : BM → PV → List PV → Store → Option (PV × Store)
  | .append => appM | .pop => popM | .extend => extM | .join => joinM | .get => getM | .update => updM | .index => idxM
abbrev OpF := PV → PV → Store → Option PV
def binO : Operator → Option OpF
  | .Add => some addP | .Sub => some subP | .Mult => some mulP | .FloorDiv => some divP | .Mod => some modP | .Pow => some powP | _ => none
def cmpO : CmpOp → Option OpF
  | .Eq => some eqC | .NotEq => some neC | .Lt => some ltC | .LtE => some leC | .Gt => some gtC | .GtE => some geC | .Is => some isC | .IsNot => some isntC | .In => some inC | .NotIn => some ninC

/-! ### the translation, with te for what is below -/
def trL (te : Expr → Option FE) : List Expr → Option FA
  | [] => some faNil
  | e :: es => if notStar e then (te e).bind fun f => (trL te es).map fun g => faCons f g else none
def trAndT (tt : Expr → Option FT) : List Expr → Option FT
  | [] => none
  | [a] => tt a
  | a :: es => (tt a).bind fun f => (trAndT tt es).map fun g => tfAnd f g
def trOrT (tt : Expr → Option FT) : List Expr → Option FT
  | [] => none
  | [a] => tt a
  | a :: es => (tt a).bind fun f => (trOrT tt es).map fun g => tfOr f g
def trCmp (te : Expr → Option FE) (a : Expr) (ops : List CmpOp) (bs : List Expr) : Option FE := match ops, bs with
  | [op], [b] => if behindInMarks op b then none else (cmpO op).bind fun o => (te a).bind fun f => (te b).map fun g => fBin o f g
  | [op, op'], [b, c] => if lastMarks [op, op'] [b, c] then none else (cmpO op).bind fun o => (cmpO op').bind fun o' => (te a).bind fun f => (te b).bind fun g => (te c).map fun h => fChain o o' f g h
  | _, _ => none
def trT (te : Expr → Option FE) : Nat → Expr → Option FT
  | 0, _ => none
  | n + 1, e => match e with
    | .UnaryOp .Not a _ => (trT te n a).map tfNot
    | .BoolOp .And es _ => trAndT (trT te n) es
    | .BoolOp .Or es _ => trOrT (trT te n) es
    | .IfExp c a b _ => (trT te n c).bind fun h => (trT te n a).bind fun f => (trT te n b).map fun g => tfIte h f g
    | .Compare a ops bs _ => (trCmp te a ops bs).map fBl
    | e => if plainT e then (te e).map fTru else none
def boolF : BoolOp → FE → FE → FE
  | .And, f, g => fAnd f g
  | .Or, f, g => fOr f g
def trBool (te : Expr → Option FE) (op : BoolOp) : List Expr → Option FE
  | [] => none
  | [a] => te a
  | a :: es => (te a).bind fun f => (trBool te op es).map fun g => boolF op f g
def trO (te : Expr → Option FE) : Option Expr → Option FO
  | none => some foNone
  | some e => (te e).map foSome
def trGs (tg : Expr → Option (FG × List Nat)) : List Expr → Option ((List PV → Sig → Store → R Sig) × List Nat)
  | [] => some (gsNil, [])
  | e :: es => (tg e).bind fun g => (trGs tg es).map fun gs => (gsCons g.1 gs.1, g.2 ++ gs.2)
def trG (le : LE) (te : Expr → Option FE) : Nat → Expr → Option (FG × List Nat)
  | 0, _ => none
  | n + 1, e => match e with
    | .Name x _ => if le.loc x then (le.ix x).map fun i => (gtName i, [i]) else none
    | .Tuple es _ _ => if es.all notStar then (trGs (trG le te n) es).map fun gs => (gtTup es.length gs.1, gs.2) else none
    | .Subscript o i _ => if plainIx i then (te o).bind fun f => (te i).map fun g => (gtSub f g, []) else none
    | _ => none
def isTupleE : Expr → Bool
  | .Tuple _ _ _ => true
  | _ => false
def trIc (S : Stc) (le : LE) (te : Expr → Option FE) (tg : Expr) (x : Str) (args : List Expr) : Option FA :=
  if le.gl x then
    match args with
    | [a] => if notStar a then
        if x == ("range" : Str) then (te a).map fiRng1
        else if x == ("enumerate" : Str) && isTupleE tg then (if S.enAt a.pos then (te a).map fiEnumT else (te a).map fiEnum)
        else none
      else none
    | [a, b] => if notStar a && notStar b then
        if x == ("range" : Str) then (te a).bind fun f => (te b).map fun g => fiRng2 f g
        else if x == ("zip" : Str) && isTupleE tg then (te a).bind fun f => (te b).map fun g => if S.zsAt a.pos then fiZipS f g else fiZip f g
        else none
      else none
    | _ => none
  else none
def walkC : Str → Bool := fun x => x == ("range" : Str) || x == ("enumerate" : Str) || x == ("zip" : Str)
/-- a dict that is locked: its keys, its items -/
def trK (te : Expr → Option FE) (tg iter : Expr) : Option FA := match iter with
  | .Call (.Attribute e m apos) [] [] cpos => if m == ("items" : Str) && isTupleE tg && recvE e && (apos.endLine == cpos.line) then (te e).map fiItems else none
  | e => (te e).map fiKeys
def trI (S : Stc) (le : LE) (te : Expr → Option FE) (tg iter : Expr) : Option FA := if S.ktAt iter.pos then trK te tg iter else match iter with
  | .Call (.Name x _) args [] _ => if walkC x then trIc S le te tg x args else (te iter).map fiVal
  | _ => (te iter).map fiVal
def ownOf (N : List Str) (scope : Scope) : List (Str × Nat) := scope.names.filterMap fun nk => if nk.2 == .local || nk.2 == .cell then (let i := N.findIdx (· == nk.1); if N[i]? = some nk.1 then some (nk.1, i) else none) else none
def trIfs (tt : Expr → Option FT) : List Expr → Option FT
  | [] => some ftYes
  | [c] => tt c
  | _ => none
def trPs (te : Expr → Option FE) : List (Option Expr) → List Expr → Option (List (FE × FE))
  | [], [] => some []
  | some k :: ks, v :: vs => (te k).bind fun f => (te v).bind fun g => (trPs te ks vs).map fun r => (f, g) :: r
  | _, _ => none
def trCall (S : Stc) (tf tfm : Nat → FF) (le : LE) (te : Expr → Option FE) (fn : Expr) (args : List Expr) (pos : Pos) : Option FE := match fn with
  | .Name x _ => if le.gl x then
      match S.fns.lookup x with
      | some j => (trL te args).map (fCall (tf j))
      | none => match S.mks.lookup x with
        | some cj => (trL te args).map (fMake cj.1 (tfm cj.2))
        | none => if x == ("isinstance" : Str) then match args with
            | [e, .Name t _] => if notStar e && le.gl t then (Ty.of t).bind fun c => (te e).map (fIsi c) else none
            | _ => none
          else match BI.of x with
            | some b => if args.isEmpty then none else if decide (b = .sorted) && S.sdAt pos then (trL te args).map (fcB (srtH (S.bxAt pos))) else (trL te args).map (fcB (b.fn (S.bxAt pos)))
            | none => if x == ("dict" : Str) then match args with
                | [.Call (.Name z _) [a, b] [] _] => if z == ("zip" : Str) && le.gl z && notStar a && notStar b then (te a).bind fun f => (te b).map fun g => fDictZip (S.bxAt pos) f g else none
                | [e] => (trL te [e]).map (fcB (dctB (S.bxAt pos)))
                | _ => none
              else none
      else none
  | .Attribute o m apos => if recvE o && decide (args.length < 30) && (apos.endLine == pos.line) then
      match BM.of m with
      | some b => (te o).bind fun f => (trL te args).map fun fa => fBM b.is b.fn f fa
      | none => (te o).bind fun f => (trL te args).map fun fa => fMeth (fun c => (S.mt m c).map tf) m.cps.toList f fa
    else none
  | _ => none
/-- the parts of a comprehension -/
def trComp (S : Stc) (le : LE) (te te' : Expr → Option FE) (n : Nat) (elt tg iter : Expr) (ifs : List Expr) (scope : Scope) (pos : Pos) (fi : Wk) : Option FE :=
  let own := ownOf le.N scope
  if blkC le.N le.sc scope own && notSet iter then
    (trG ⟨le.N, relS scope le.sc, some scope⟩ te' n tg).bind fun g => if g.2.all fun i => (own.map (·.2)).contains i then
      (trIfs (trT te' n) ifs).bind fun ft => (te' elt).map fun f => fCompW (S.bxAt pos) (own.map (·.2)) fi g.1 ft f else none
  else none
def trComp2 (S : Stc) (le : LE) (te' : Expr → Option FE) (n : Nat) (elt tg iter : Expr) (ifs : List Expr) (tg1 iter1 : Expr) (ifs1 : List Expr) (scope : Scope) (pos : Pos) (fi : FA) : Option FE :=
  let own := ownOf le.N scope
  let le' : LE := ⟨le.N, relS scope le.sc, some scope⟩
  if blkC le.N le.sc scope own && notSet iter && notSet iter1 then
    (trG le' te' n tg).bind fun g => (trG le' te' n tg1).bind fun g1 => if (g.2.all fun i => (own.map (·.2)).contains i) && (g1.2.all fun i => (own.map (·.2)).contains i) then
      (trIfs (trT te' n) ifs).bind fun ft => (trI S le' te' tg1 iter1).bind fun fi1 => (trIfs (trT te' n) ifs1).bind fun ft1 => (te' elt).map fun f => fComp2 (S.bxAt pos) (own.map (·.2)) g1.2 fi g.1 ft fi1 g1.1 ft1 f else none
  else none
/-- what a comprehension walks: a cell as it stands, where lv says so -/
def trW (S : Stc) (le : LE) (te : Expr → Option FE) (tg iter : Expr) (pos : Pos) : Option Wk := if S.lvAt pos then (te iter).map .live else (trI S le te tg iter).map .it
def trDComp (S : Stc) (le : LE) (te' : Expr → Option FE) (n : Nat) (kx vx tg iter : Expr) (ifs : List Expr) (scope : Scope) (pos : Pos) (fi : FA) : Option FE :=
  let own := ownOf le.N scope
  if blkC le.N le.sc scope own && notSet iter then
    (trG ⟨le.N, relS scope le.sc, some scope⟩ te' n tg).bind fun g => if g.2.all fun i => (own.map (·.2)).contains i then
      (trIfs (trT te' n) ifs).bind fun ft => (te' kx).bind fun fk => (te' vx).map fun fv => fDComp (S.bxAt pos) (own.map (·.2)) fi g.1 ft fk fv else none
  else none
/-- a written dict -/
def wdN (S : Stc) (le : LE) (a : Expr) : Option (List (List Nat × PV)) := match a with
  | .Name x _ => if le.gl x then S.wds.lookup x else none
  | _ => none
/-- what is not served is stuck -/
def stkE (o : Option FE) : Option FE := some (o.getD fStk)
def trE (S : Stc) (tf tfm : Nat → FF) : Nat → LE → Expr → Option FE
  | 0, _, _ => none
  | n + 1, le, e => stkE ((match e with
    | .Name x _ => if okName x then (if le.vis x then (le.ix x).map fVar else if le.gl x then (S.gcs.lookup x).map fC else none) else none
    | .Constant c _ _ => (match c with
      | .int i => some (fC (.int i))
      | .bool b => some (fC (.bl b))
      | .none => some (fC .non)
      | .str s => if s.cps.toList.length ≤ 100000 then some (fC (.str s.cps.toList)) else none
      | _ => none)
    | .BinOp a op b pos => if S.bxAt pos then (match op with
        | .Add => (trE S tf tfm n le a).bind fun f => (trE S tf tfm n le b).map fun g => fCat true f g
        | _ => none)
      else (binO op).bind fun o => (trE S tf tfm n le a).bind fun f => (trE S tf tfm n le b).map fun g => fBin o f g
    | .UnaryOp op a _ => (match op with
      | .Not => (trE S tf tfm n le a).map fNot
      | .USub => (trE S tf tfm n le a).map (fUn negP)
      | _ => none)
    | .Compare a ops bs _ => trCmp (trE S tf tfm n le) a ops bs
    | .BoolOp op es _ => trBool (trE S tf tfm n le) op es
    | .IfExp c a b _ => (trT (trE S tf tfm n le) n c).bind fun h => (trE S tf tfm n le a).bind fun f => (trE S tf tfm n le b).map fun g => fIte h f g
    | .Tuple es _ pos => (trL (trE S tf tfm n le) es).map fun g => if S.plAt pos then fTupP g else fTup g
    | .List es pos => (trL (trE S tf tfm n le) es).map (fLst (S.bxAt pos))
    | .Dict ks vs pos => (match ks, vs with
      | [], [] => some (fDNew (S.bxAt pos))
      | ks, vs => if decide (ks.length ≤ 15) && ks.all (·.isSome) then (trPs (trE S tf tfm n le) ks vs).map (fDisp (S.bxAt pos)) else none)
    | .Subscript a i _ => (match i with
      | .Slice lo hi none _ => (trE S tf tfm n le a).bind fun f => (trO (trE S tf tfm n le) lo).bind fun l => (trO (trE S tf tfm n le) hi).map fun h => fSlc f l h
      | i => if plainIx i then (match wdN S le a with
          | some tb => (trE S tf tfm n le i).map (fWd tb)
          | none => (trE S tf tfm n le a).bind fun f => (trE S tf tfm n le i).map fun g => fBin idxP f g) else none)
    | .Attribute a f _ => if recvE a then (trE S tf tfm n le a).map (fFld f.cps.toList) else none
    | .Call fn args kws pos => (match kws with
      | [] => trCall S tf tfm le (trE S tf tfm n le) fn args pos
      | _ => none)
    | .ListComp elt gens scope pos => (match gens with
      | [⟨tg, iter, ifs, 0⟩] => if S.kyAt pos then (match iter with
          | .Name x _ => if le.vis x && okName x then (le.ix x).bind fun i => (trComp S le (trE S tf tfm n le) (trE S tf tfm n ⟨le.N, relS scope le.sc, some scope⟩) n elt tg iter ifs scope pos (.it (fiKeys (fVar i)))).map (fLock i) else none
          | _ => none)
        else (trW S le (trE S tf tfm n le) tg iter pos).bind fun fi => trComp S le (trE S tf tfm n le) (trE S tf tfm n ⟨le.N, relS scope le.sc, some scope⟩) n elt tg iter ifs scope pos fi
      | [⟨tg, iter, ifs, 0⟩, ⟨tg1, iter1, ifs1, 0⟩] => (trI S le (trE S tf tfm n le) tg iter).bind fun fi => trComp2 S le (trE S tf tfm n ⟨le.N, relS scope le.sc, some scope⟩) n elt tg iter ifs tg1 iter1 ifs1 scope pos fi
      | _ => none)
    | .DictComp kx vx gens scope pos => (match gens with
      | [⟨tg, iter, ifs, 0⟩] => (trI S le (trE S tf tfm n le) tg iter).bind fun fi => trDComp S le (trE S tf tfm n ⟨le.N, relS scope le.sc, some scope⟩) n kx vx tg iter ifs scope pos fi
      | _ => none)
    | _ => none).map fun f => if S.nrmAt e.pos then fNrm f else if S.frzAt e.pos then fFrz f else f)

/-! ### its soundness -/
structure Ctx (S : Stc) (T : Txt) (tf tfm : Nat → FF) (Wx : WX) (X : Cx) (le : LE) : Prop where
  hK : T.K = X.K
  calm : X.calm = true
  N : X.N = le.N
  nd : X.N.Nodup
  sc : X.env.scope = le.sc
  kind : le.sc.kind = .function
  fn : ∀ x, le.fnb x = true → X.fn x = true
  room : ∃ (R : Around → Prop) (k : Nat), R X.A ∧ Room (k + 1) X.A ∧ (∀ x j, S.fns.lookup x = some j → Fn1 X.prog X.w X.K X.mg X.base T R x (tf j)) ∧ (∀ x c j, S.mks.lookup x = some (c, j) → Ma1 X.prog X.w X.K X.mg X.base T k x c (tfm j)) ∧
    (∀ m c j, S.mt m c = some j → Me1 X.prog X.w X.K X.mg X.base T R c m (tf j))
  tk : Takes X Wx
  gcs : ∀ x p, S.gcs.lookup x = some p → ∃ v u, X.mg x = some u ∧ RelV v u ∧ Fixed T.K p v
  blt : ∀ x ∈ bltNames, X.mg x = none
  fld : ∀ l c, S.fldOk l c = true → NoAttr T.K (T.cl c) l
  exs : ∀ x c, S.exs.lookup x = some c → ExOk X x (T.cl c)
  exm : ∀ x l, S.exm.lookup x = some l → ∃ C, X.mg x = some (.ref C) ∧ ∀ n b, l.lookup n = some b → PySem.W.exmOne X.K (.ref (T.cl n)) (.ref C) = some b
  wds : ∀ x tb, S.wds.lookup x = some tb → ∃ d, X.mg x = some (.ref d) ∧ ∀ z q, tb.lookup z = some q → ∃ v, KDct X.K X.w d ⟨z.toArray⟩ v ∧ Fixed T.K q v
  kin : ∀ x kl, S.kin.lookup x = some kl → ∀ m ys, kl.lookup m = some ys → ∃ f fd y, FnHot X.prog X.w X.K X.mg X.base T f fd y (T.cl m) ys ∧ X.mg x = some (.ref f) ∧ PySem.W.keepIn X.K (.ref f) = true ∧ Binds X.K fd [y] []
section
variable {S : Stc} {T : Txt} {tf tfm : Nat → FF} {Wx : WX} {X : Cx} {le : LE} {n : Nat} {te : Expr → Option FE}
theorem Ctx.un (C : Ctx S T tf tfm Wx X le) : X.A.units + 200 < cLine := by
  obtain ⟨_, k, _, r, _⟩ := C.room
  have := r.un; omega
theorem LE.ix_of {x : Str} {i : Nat} (h : le.ix x = some i) : le.N[i]? = some x := by
  unfold LE.ix at h
  simp only [] at h
  split at h
  · rename_i q; cases h; exact q
  · cases h
theorem Ctx.visX (C : Ctx S T tf tfm Wx X le) {x : Str} (h : le.vis x = true) : Vis X.env.scope x := by
  rw [C.sc]
  unfold LE.vis at h
  simp only [Bool.or_eq_true, beq_iff_eq] at h
  rcases h with (h | h) | h
  · exact .inl h
  · exact .inr (.inl h)
  · exact .inr (.inr h)
theorem Ctx.glX (C : Ctx S T tf tfm Wx X le) {x : Str} (h : le.gl x = true) : Gl X x := by
  unfold LE.gl at h
  simp only [Bool.and_eq_true, beq_iff_eq] at h
  show X.env.scope.names.lookup x = _
  rw [C.sc]; exact h.1
theorem okName_of {x : Str} (h : okName x = true) : (x == ("__debug__" : Str)) = false ∧ (x == ("__classdict__" : Str)) = false ∧ x ≠ "__name__" := by
  unfold okName at h
  simp only [Bool.and_eq_true, Bool.not_eq_true'] at h
  exact ⟨h.1.1, h.1.2, beq_eq_false_iff_ne.mp h.2⟩
theorem LE.gl_ok {x : Str} (h : le.gl x = true) : okName x = true := by
  unfold LE.gl at h
  simp only [Bool.and_eq_true] at h
  exact h.2
theorem Ctx.locX (C : Ctx S T tf tfm Wx X le) {x : Str} (h : le.loc x = true) : L2.Loc X.env.scope x ∧ (X.fn x = true ∨ X.env.scope.names.lookup x = some .local) := by
  unfold LE.loc at h
  simp only [Bool.or_eq_true, Bool.and_eq_true, beq_iff_eq] at h
  rw [C.sc]
  rcases h with h | ⟨h1, h2⟩
  · exact ⟨.inl h, .inr h⟩
  · exact ⟨.inr h1, .inl (C.fn x h2)⟩
theorem nmS_of (m : Str) : nmS m.cps.toList = m := by cases m; simp [nmS]
def TeOk (T : Txt) (Wx : WX) (X : Cx) (te : Expr → Option FE) : Prop := ∀ e f, te e = some f → PE X e (TEv T Wx f)
theorem trL_ok (h : TeOk T Wx X te) : ∀ {es : List Expr} {fa : FA}, trL te es = some fa → PA X es (TAv T Wx fa) ∧ es.all notStar = true
  | [], fa, e => by cases e; exact ⟨da_nil, rfl⟩
  | a :: es, fa, e => by
    unfold trL at e
    split at e
    · rename_i hs
      obtain ⟨f, h1, e⟩ := Option.bind_eq_some_iff.mp e
      obtain ⟨g, h2, e⟩ := Option.map_eq_some_iff.mp e
      subst e
      obtain ⟨i1, i2⟩ := trL_ok h h2
      exact ⟨da_cons (h _ _ h1) i1 hs, by rw [List.all_cons, hs, i2]; rfl⟩
    · cases e
theorem cmpO_ok (C : Ctx S T tf tfm Wx X le) {op : CmpOp} {o : OpF} (h : cmpO op = some o) : OpR X (compareOp op) (rP2 T o) := by
  have hu := C.un
  cases op <;> cases h
  · exact opEq C.hK hu
  · exact opNe C.hK hu
  · exact opLt C.hK
  · exact opLe C.hK
  · exact opGt C.hK
  · exact opGe C.hK
  · exact opIs C.hK
  · exact opIsnt C.hK
  · exact opIn C.hK (by omega)
  · exact opNin C.hK (by omega)
theorem binO_ok (C : Ctx S T tf tfm Wx X le) {op : Operator} {o : OpF} (h : binO op = some o) : OpR X (binaryOp op) (rP2 T o) := by
  cases op <;> cases h
  · exact opAdd C.hK
  · exact opSub C.hK
  · exact opMul C.hK
  · exact opMod C.hK
  · exact opPow C.hK
  · exact opDiv C.hK
theorem trCmp_ok (C : Ctx S T tf tfm Wx X le) (h : TeOk T Wx X te) {a : Expr} {ops : List CmpOp} {bs : List Expr} {pos : Pos} {f : FE} (e : trCmp te a ops bs = some f) :
    PE X (.Compare a ops bs pos) (TEv T Wx f) ∧ PT X (.Compare a ops bs pos) (TTv T Wx (fBl f)) := by
  unfold trCmp at e
  split at e
  · rename_i op b
    split at e
    · cases e
    rename_i hm
    obtain ⟨o, h0, e⟩ := Option.bind_eq_some_iff.mp e
    obtain ⟨f1, h1, e⟩ := Option.bind_eq_some_iff.mp e
    obtain ⟨g1, h2, e⟩ := Option.map_eq_some_iff.mp e
    subst e
    have hm : behindInMarks op b = false := by simpa using hm
    exact ⟨de_cmp (cmpO_ok C h0) (h _ _ h1) (h _ _ h2) hm, dt_cmp (cmpO_ok C h0) (h _ _ h1) (h _ _ h2) hm⟩
  · rename_i op op' b c
    split at e
    · cases e
    rename_i hm
    obtain ⟨o, h0, e⟩ := Option.bind_eq_some_iff.mp e
    obtain ⟨o', h0', e⟩ := Option.bind_eq_some_iff.mp e
    obtain ⟨f1, h1, e⟩ := Option.bind_eq_some_iff.mp e
    obtain ⟨g1, h2, e⟩ := Option.bind_eq_some_iff.mp e
    obtain ⟨k1, h3, e⟩ := Option.map_eq_some_iff.mp e
    subst e
    have hm : lastMarks [op, op'] [b, c] = false := by simpa using hm
    exact ⟨de_chain (cmpO_ok C h0) (cmpO_ok C h0') (h _ _ h1) (h _ _ h2) (h _ _ h3) hm, dt_chain (cmpO_ok C h0) (cmpO_ok C h0') (h _ _ h1) (h _ _ h2) (h _ _ h3) hm⟩
  · cases e
def TtOk (T : Txt) (Wx : WX) (X : Cx) (tt : Expr → Option FT) : Prop := ∀ e f, tt e = some f → PT X e (TTv T Wx f)
theorem trAndT_ok {tt : Expr → Option FT} (h : TtOk T Wx X tt) {pos : Pos} : ∀ {es : List Expr} {f : FT}, trAndT tt es = some f → PW X (.BoolOp .And es pos) (TTv T Wx f)
  | [], _, e => by cases e
  | [a], f, e => dw_and1 (h _ _ e)
  | a :: b :: es, f, e => by
    obtain ⟨f1, h1, e⟩ := Option.bind_eq_some_iff.mp (show (tt a).bind (fun f => (trAndT tt (b :: es)).map fun g => tfAnd f g) = some f from e)
    obtain ⟨g1, h2, e⟩ := Option.map_eq_some_iff.mp e
    subst e
    exact dw_and (h _ _ h1) (trAndT_ok h h2)
theorem trOrT_ok {tt : Expr → Option FT} (h : TtOk T Wx X tt) {pos : Pos} : ∀ {es : List Expr} {f : FT}, trOrT tt es = some f → PW X (.BoolOp .Or es pos) (TTv T Wx f)
  | [], _, e => by cases e
  | [a], f, e => dw_or1 (h _ _ e)
  | a :: b :: es, f, e => by
    obtain ⟨f1, h1, e⟩ := Option.bind_eq_some_iff.mp (show (tt a).bind (fun f => (trOrT tt (b :: es)).map fun g => tfOr f g) = some f from e)
    obtain ⟨g1, h2, e⟩ := Option.map_eq_some_iff.mp e
    subst e
    exact dw_or (h _ _ h1) (trOrT_ok h h2)
theorem trT_ok (C : Ctx S T tf tfm Wx X le) (h : TeOk T Wx X te) : ∀ n, TtOk T Wx X (trT te n)
  | 0, e, f, q => by cases q
  | n + 1, e, f, q => by
    unfold trT at q
    split at q
    · obtain ⟨f1, h1, q⟩ := Option.map_eq_some_iff.mp q
      subst q
      exact dt_not (trT_ok C h n _ _ h1)
    · exact (trAndT_ok (trT_ok C h n) q).pt
    · exact (trOrT_ok (trT_ok C h n) q).pt
    · obtain ⟨f1, h1, q⟩ := Option.bind_eq_some_iff.mp q
      obtain ⟨f2, h2, q⟩ := Option.bind_eq_some_iff.mp q
      obtain ⟨f3, h3, q⟩ := Option.map_eq_some_iff.mp q
      subst q
      exact dt_ite (trT_ok C h n _ _ h1) (trT_ok C h n _ _ h2) (trT_ok C h n _ _ h3)
    · obtain ⟨f1, h1, q⟩ := Option.map_eq_some_iff.mp q
      subst q
      exact (trCmp_ok C h h1).2
    · split at q
      · rename_i hp
        obtain ⟨f1, h1, q⟩ := Option.map_eq_some_iff.mp q
        subst q
        exact dt_val C.hK (h _ _ h1) hp
      · cases q
theorem trBool_ok (C : Ctx S T tf tfm Wx X le) (h : TeOk T Wx X te) {op : BoolOp} {pos : Pos} : ∀ {es : List Expr} {f : FE}, trBool te op es = some f → PE X (.BoolOp op es pos) (TEv T Wx f)
  | [], _, e => by cases e
  | [a], f, e => de_one (h _ _ e)
  | a :: b :: es, f, e => by
    obtain ⟨f1, h1, e⟩ := Option.bind_eq_some_iff.mp (show (te a).bind (fun f => (trBool te op (b :: es)).map fun g => boolF op f g) = some f from e)
    obtain ⟨g1, h2, e⟩ := Option.map_eq_some_iff.mp e
    subst e
    cases op with
    | And => exact de_and C.hK (h _ _ h1) (trBool_ok C h h2)
    | Or => exact de_or C.hK (h _ _ h1) (trBool_ok C h h2)
theorem trO_ok (h : TeOk T Wx X te) {e : Option Expr} {f : FO} (q : trO te e = some f) : PO X e (TOv T Wx f) := by
  cases e with
  | none => cases q; exact do_none
  | some e =>
    obtain ⟨f1, h1, q⟩ := Option.map_eq_some_iff.mp (show (te e).map foSome = some f from q)
    subst q
    exact do_some (h _ _ h1)
def TgOk (T : Txt) (Wx : WX) (X : Cx) (tg : Expr → Option (FG × List Nat)) : Prop := ∀ e g, tg e = some g → PG X e (TGv T Wx g.2 g.1) ∧ ∀ p sg st x st', g.1 p sg st ≠ .ex x st'
theorem R.bind_not {α β : Type} {r : R α} {f : α → Store → R β} (h : ∀ x st, r ≠ .ex x st) (h' : ∀ a st x st', f a st ≠ .ex x st') : ∀ x st, r.bind f ≠ .ex x st := fun x st => by
  cases r with
  | ok a s => exact h' a s x st
  | ex y s => exact (h y s rfl).elim
  | stuck => exact fun z => by cases z
theorem trGs_ok {tg : Expr → Option (FG × List Nat)} (h : TgOk T Wx X tg) : ∀ {es : List Expr} {g : (List PV → Sig → Store → R Sig) × List Nat}, es.all notStar = true → trGs tg es = some g → PGs X es (TGsv T Wx g.2 g.1) ∧ ∀ p sg st x st', g.1 p sg st ≠ .ex x st'
  | [], g, _, e => by
    cases e
    refine ⟨dgs_nil, fun p sg st x st' z => ?_⟩
    cases p <;> cases z
  | a :: es, g, hs, e => by
    rw [List.all_cons, Bool.and_eq_true] at hs
    obtain ⟨g1, h1, e⟩ := Option.bind_eq_some_iff.mp (show (tg a).bind (fun g => (trGs tg es).map fun gs => (gsCons g.1 gs.1, g.2 ++ gs.2)) = some g from e)
    obtain ⟨g2, h2, e⟩ := Option.map_eq_some_iff.mp e
    subst e
    obtain ⟨i1, i2⟩ := trGs_ok h hs.2 h2
    obtain ⟨j1, j2⟩ := h _ _ h1
    refine ⟨dgs_cons j1 i1 hs.1 i2, fun p sg st x st' => ?_⟩
    cases p with
    | nil => exact fun z => by cases z
    | cons p ps => exact R.bind_not (fun x st => j2 p sg _ x st) (fun a st x st' => i2 ps a st x st') x st'
theorem trG_ok (C : Ctx S T tf tfm Wx X le) (h : TeOk T Wx X te) : ∀ n, TgOk T Wx X (trG le te n)
  | 0, e, g, q => by cases q
  | n + 1, e, g, q => by
    unfold trG at q
    split at q
    · rename_i x p
      split at q
      · rename_i hl
        obtain ⟨i, hi, q⟩ := Option.map_eq_some_iff.mp q
        subst q
        obtain ⟨l1, l2⟩ := C.locX hl
        exact ⟨dg_name C.nd (by rw [C.N]; exact LE.ix_of hi) l1 l2, fun p sg st x st' z => by cases z⟩
      · cases q
    · split at q
      · rename_i es k p hs
        obtain ⟨gs, h1, q⟩ := Option.map_eq_some_iff.mp q
        subst q
        obtain ⟨i1, i2⟩ := trGs_ok (trG_ok C h n) hs h1
        refine ⟨dg_tup C.hK C.calm i1 hs, fun p sg st x st' z => ?_⟩
        have z : gtTup es.length gs.1 p sg st = .ex x st' := z
        unfold gtTup at z
        split at z
        · split at z
          · exact i2 _ _ _ _ _ z
          · cases z
        · cases z
      · cases q
    · split at q
      · rename_i o i p hp
        obtain ⟨f1, h1, q⟩ := Option.bind_eq_some_iff.mp q
        obtain ⟨f2, h2, q⟩ := Option.map_eq_some_iff.mp q
        subst q
        exact ⟨dg_sub (by have := C.un; omega) (h _ _ h1) (h _ _ h2) hp, fun p sg st x st' => gtSub_not⟩
      · cases q
    · cases q
theorem isTupleE_of {e : Expr} (h : isTupleE e = true) : ∃ es k p, e = .Tuple es k p := by
  cases e <;> first | exact ⟨_, _, _, rfl⟩ | cases h
theorem trI_ok (C : Ctx S T tf tfm Wx X le) (h : TeOk T Wx X te) {tg iter : Expr} {f : FA} (q : trI S le te tg iter = some f) : PI X tg iter (TIv T Wx f) := by
  have plain : (te iter).map fiVal = some f → PI X tg iter (TIv T Wx f) := fun q => by
    obtain ⟨f1, h1, q⟩ := Option.map_eq_some_iff.mp q
    subst q
    exact di_val C.hK (h _ _ h1)
  unfold trI at q
  split at q
  · unfold trK at q
    split at q
    · rename_i e m apos cpos
      split at q
      · rename_i hc
        simp only [Bool.and_eq_true] at hc
        obtain ⟨⟨⟨c1, c2⟩, c3⟩, c4⟩ := hc
        cases beq_iff_eq.mp c1
        obtain ⟨es, k, p, rfl⟩ := isTupleE_of c2
        obtain ⟨f1, h1, rfl⟩ := Option.map_eq_some_iff.mp q
        exact di_items (h _ _ h1) c3 c4
      · cases q
    · obtain ⟨f1, h1, rfl⟩ := Option.map_eq_some_iff.mp q
      exact di_keys (h _ _ h1)
  split at q
  · rename_i x p args pos
    split at q
    · unfold trIc at q
      split at q
      · rename_i hg
        have hgl := C.glX hg
        split at q
        · rename_i a
          split at q
          · rename_i hs
            split at q
            · rename_i hx
              have hx := beq_iff_eq.mp hx
              subst hx
              obtain ⟨f1, h1, q⟩ := Option.map_eq_some_iff.mp q
              subst q
              exact di_rng1 hgl (C.blt _ (by decide)) (h _ _ h1) hs
            · split at q
              · rename_i hx
                rw [Bool.and_eq_true] at hx
                obtain ⟨hx, ht⟩ := hx
                have hx := beq_iff_eq.mp hx
                subst hx
                obtain ⟨es, k, p, rfl⟩ := isTupleE_of ht
                split at q
                · obtain ⟨f1, h1, q⟩ := Option.map_eq_some_iff.mp q
                  subst q
                  exact di_enumT C.hK hgl (C.blt _ (by decide)) (h _ _ h1) hs
                obtain ⟨f1, h1, q⟩ := Option.map_eq_some_iff.mp q
                subst q
                exact di_enum C.hK hgl (C.blt _ (by decide)) (h _ _ h1) hs
              · cases q
          · cases q
        · rename_i a b
          split at q
          · rename_i hs
            rw [Bool.and_eq_true] at hs
            split at q
            · rename_i hx
              have hx := beq_iff_eq.mp hx
              subst hx
              obtain ⟨f1, h1, q⟩ := Option.bind_eq_some_iff.mp q
              obtain ⟨f2, h2, q⟩ := Option.map_eq_some_iff.mp q
              subst q
              exact di_rng2 hgl (C.blt _ (by decide)) (h _ _ h1) (h _ _ h2) hs.1 hs.2
            · split at q
              · rename_i hx
                rw [Bool.and_eq_true] at hx
                obtain ⟨hx, ht⟩ := hx
                have hx := beq_iff_eq.mp hx
                subst hx
                obtain ⟨es, k, p, rfl⟩ := isTupleE_of ht
                obtain ⟨f1, h1, q⟩ := Option.bind_eq_some_iff.mp q
                obtain ⟨f2, h2, q⟩ := Option.map_eq_some_iff.mp q
                subst q
                split
                · exact di_zipS C.hK hgl (C.blt _ (by decide)) (h _ _ h1) (h _ _ h2) hs.1 hs.2
                · exact di_zip C.hK hgl (C.blt _ (by decide)) (h _ _ h1) (h _ _ h2) hs.1 hs.2
              · cases q
          · cases q
        · cases q
      · cases q
    · exact plain q
  · exact plain q
theorem trIfs_ok {tt : Expr → Option FT} (h : TtOk T Wx X tt) {es : List Expr} {f : FT} (q : trIfs tt es = some f) : PTs X es (TTv T Wx f) := by
  unfold trIfs at q
  split at q
  · cases q; exact dts_nil
  · exact dts_one (h _ _ q)
  · cases q
theorem trPs_ok (h : TeOk T Wx X te) {pos : Pos} : ∀ {ks : List (Option Expr)} {vs : List Expr} {prs : List (FE × FE)}, trPs te ks vs = some prs → PPs X pos ks vs (prs.map fun fg => (TEv T Wx fg.1, TEv T Wx fg.2)) ∧ ks.length = vs.length
  | [], [], _, q => by cases q; exact ⟨dps_nil, rfl⟩
  | [], _ :: _, _, q => by cases q
  | none :: _, _, _, q => by cases q
  | some _ :: _, [], _, q => by cases q
  | some k :: ks, v :: vs, prs, q => by
    obtain ⟨f1, h1, q⟩ := Option.bind_eq_some_iff.mp (show (te k).bind (fun f => (te v).bind fun g => (trPs te ks vs).map fun r => (f, g) :: r) = some prs from q)
    obtain ⟨f2, h2, q⟩ := Option.bind_eq_some_iff.mp q
    obtain ⟨r, h3, q⟩ := Option.map_eq_some_iff.mp q
    subst q
    obtain ⟨i1, i2⟩ := trPs_ok (pos := pos) h h3
    exact ⟨dps_cons (h _ _ h1) (h _ _ h2) i1, by rw [List.length_cons, List.length_cons, i2]⟩
end
end Pv
/-! Pv, part O: the translation of expressions is sound. -/
namespace Pv
open PySem PySem.Spec PyProof.Rows PySem.SeqAt L2
section
variable {S : Stc} {T : Txt} {tf tfm : Nat → FF} {Wx : WX} {X : Cx} {le : LE} {n : Nat} {te : Expr → Option FE}
theorem bi_ok (C : Ctx S T tf tfm Wx X le) (h : TeOk T Wx X te) {b : BI} {bx : Bool} {e : Expr} {es : List Expr} {fa : FA} {p pos : Pos} (hg : Gl X b.name) (ha : PA X (e :: es) (TAv T Wx fa)) (hs : (e :: es).all notStar = true) :
    PE X (.Call (.Name b.name p) (e :: es) [] pos) (TEv T Wx (fcB (b.fn bx) fa)) := by
  have hK := C.hK
  have hc := C.calm
  have hm : X.mg b.name = none := C.blt _ (by cases b <;> decide)
  cases b with
  | len => exact de_callB (biLen hK) hg hm (by rfl) ha hs (by decide) (by decide)
  | str => exact de_callTy (biStr hK) hg hm (by rfl) ha hs (by decide) (by decide)
  | int => exact de_callTy (biInt hK) hg hm (by rfl) ha hs (by decide) (by decide)
  | abs => exact de_callB (biAbs hK) hg hm (by rfl) ha hs (by decide) (by decide)
  | max => exact de_callB (biMax hK hc) hg hm (by rfl) ha hs (by decide) (by decide)
  | min => exact de_callB (biMin hK hc) hg hm (by rfl) ha hs (by decide) (by decide)
  | tuple => exact de_callTy (biTup hK) hg hm (by rfl) ha hs (by decide) (by decide)
  | list => exact de_callTy (biLst hK bx) hg hm (by rfl) ha hs (by decide) (by decide)
  | all => exact de_callB (biAll hK hc) hg hm (by rfl) ha hs (by decide) (by decide)
  | any => exact de_callB (biAny hK hc) hg hm (by rfl) ha hs (by decide) (by decide)
  | sorted => exact de_callB (biSrtG hK hc C.un bx) hg hm (by rfl) ha hs (by decide) (by decide)
theorem ty_ok {x : Str} {c : Ty} (h : Ty.of x = some c) : c ≠ .non ∧ x ∈ bltNames ∧ bootBuiltins x = some (.type c.name) := by
  unfold Ty.of at h
  split at h
  · rename_i q; cases beq_iff_eq.mp q; cases h; exact ⟨by decide, by decide, by rfl⟩
  split at h
  · rename_i q; cases beq_iff_eq.mp q; cases h; exact ⟨by decide, by decide, by rfl⟩
  split at h
  · rename_i q; cases beq_iff_eq.mp q; cases h; exact ⟨by decide, by decide, by rfl⟩
  split at h
  · rename_i q; cases beq_iff_eq.mp q; cases h; exact ⟨by decide, by decide, by rfl⟩
  split at h
  · rename_i q; cases beq_iff_eq.mp q; cases h; exact ⟨by decide, by decide, by rfl⟩
  split at h
  · rename_i q; cases beq_iff_eq.mp q; cases h; exact ⟨by decide, by decide, by rfl⟩
  cases h
theorem bm_ok (C : Ctx S T tf tfm Wx X le) {m : Str} {b : BM} (hb : BM.of m = some b) {o : Expr} {es : List Expr} {f : FE} {fa : FA} {apos pos : Pos} (ho : PE X o (TEv T Wx f)) (ha : PA X es (TAv T Wx fa)) (h0 : es = [] → fa = faNil)
    (hre : recvE o = true) (hs : es.all notStar = true) (hl : es.length < 30) (hp : (apos.endLine == pos.line) = true) : PE X (.Call (.Attribute o m apos) es [] pos) (TEv T Wx (fBM b.is b.fn f fa)) := by
  have hK := C.hK
  unfold BM.of at hb
  split at hb
  · rename_i q; cases beq_iff_eq.mp q; cases hb
    cases es with
    | nil => rw [h0 rfl]; exact de_bm0 hK (@fun _ _ _ S _ _ r h => isLst_at S r h) F.plainAttrs_list F.slot_list_append F.type_list_append (meApp hK) ho hre hp
    | cons e es => exact de_bm hK (@fun _ _ _ S _ _ r h => isLst_at S r h) F.plainAttrs_list F.slot_list_append F.type_list_append (meApp hK) ho ha hre hs hl hp
  split at hb
  · rename_i q; cases beq_iff_eq.mp q; cases hb
    cases es with
    | nil => rw [h0 rfl]; exact de_bm0 hK (@fun _ _ _ S _ _ r h => isLst_at S r h) F.plainAttrs_list F.slot_list_pop F.type_list_pop (mePop hK) ho hre hp
    | cons e es => exact de_bm hK (@fun _ _ _ S _ _ r h => isLst_at S r h) F.plainAttrs_list F.slot_list_pop F.type_list_pop (mePop hK) ho ha hre hs hl hp
  split at hb
  · rename_i q; cases beq_iff_eq.mp q; cases hb
    cases es with
    | nil => rw [h0 rfl]; exact de_bm0 hK (@fun _ _ _ S _ _ r h => isLst_at S r h) F.plainAttrs_list F.slot_list_extend F.type_list_extend (meExt hK) ho hre hp
    | cons e es => exact de_bm hK (@fun _ _ _ S _ _ r h => isLst_at S r h) F.plainAttrs_list F.slot_list_extend F.type_list_extend (meExt hK) ho ha hre hs hl hp
  split at hb
  · rename_i q; cases beq_iff_eq.mp q; cases hb
    cases es with
    | nil => rw [h0 rfl]; exact de_bm0 hK (@fun _ _ _ S _ _ r h => isStr_at S r h) F.plainAttrs_str F.slot_str_join F.type_str_join (meJoin hK) ho hre hp
    | cons e es => exact de_bm hK (@fun _ _ _ S _ _ r h => isStr_at S r h) F.plainAttrs_str F.slot_str_join F.type_str_join (meJoin hK) ho ha hre hs hl hp
  split at hb
  · rename_i q; cases beq_iff_eq.mp q; cases hb
    have hu : X.A.units + 1 < cLine := by have := C.un; omega
    cases es with
    | nil => rw [h0 rfl]; exact de_bm0 hK (@fun _ _ _ S _ _ r h => isDic_at S r h) F.plainAttrs_dict F.slot_dict_get F.type_dict_get (meGet hK hu) ho hre hp
    | cons e es => exact de_bm hK (@fun _ _ _ S _ _ r h => isDic_at S r h) F.plainAttrs_dict F.slot_dict_get F.type_dict_get (meGet hK hu) ho ha hre hs hl hp
  split at hb
  · rename_i q; cases beq_iff_eq.mp q; cases hb
    cases es with
    | nil => rw [h0 rfl]; exact de_bm0 hK (@fun _ _ _ S _ _ r h => isDic_at S r h) F.plainAttrs_dict F.slot_dict_update F.type_dict_update (meUpd hK) ho hre hp
    | cons e es => exact de_bm hK (@fun _ _ _ S _ _ r h => isDic_at S r h) F.plainAttrs_dict F.slot_dict_update F.type_dict_update (meUpd hK) ho ha hre hs hl hp
  split at hb
  · rename_i q; cases beq_iff_eq.mp q; cases hb
    cases es with
    | nil => rw [h0 rfl]; exact de_bm0 hK (@fun _ _ _ S _ _ r h => isLst_at S r h) F.plainAttrs_list F.slot_list_index F.type_list_index (meIdx hK) ho hre hp
    | cons e es => exact de_bm hK (@fun _ _ _ S _ _ r h => isLst_at S r h) F.plainAttrs_list F.slot_list_index F.type_list_index (meIdx hK) ho ha hre hs hl hp
  cases hb
theorem trL_nil {fa : FA} (h : trL te [] = some fa) : fa = faNil := by cases h; rfl
theorem trCall_ok (C : Ctx S T tf tfm Wx X le) (h : TeOk T Wx X te) {fn : Expr} {args : List Expr} {pos : Pos} {f : FE} (q : trCall S tf tfm le te fn args pos = some f) : PE X (.Call fn args [] pos) (TEv T Wx f) := by
  obtain ⟨R, k, hR, hr, Hf, Hm, Ht⟩ := C.room
  unfold trCall at q
  split at q
  · rename_i x p
    split at q
    rotate_left
    · cases q
    rename_i hg
    have hgl := C.glX hg
    obtain ⟨n1, n2, n3⟩ := okName_of (LE.gl_ok hg)
    split at q
    · rename_i j hj
      obtain ⟨fa, h1, q⟩ := Option.map_eq_some_iff.mp q
      subst q
      obtain ⟨i1, i2⟩ := trL_ok h h1
      cases args with
      | nil => rw [trL_nil h1]; exact de_call0 (Hf _ _ hj) hR hgl C.tk n1
      | cons e es => exact de_call (Hf _ _ hj) hR hgl C.tk i1 i2 n1
    split at q
    · rename_i cj hj
      obtain ⟨c, j⟩ := cj
      obtain ⟨fa, h1, q⟩ := Option.map_eq_some_iff.mp q
      subst q
      obtain ⟨i1, i2⟩ := trL_ok h h1
      cases args with
      | nil => rw [trL_nil h1]; exact de_make0 (Hm _ _ _ hj) C.hK hr hgl n1
      | cons e es => exact de_make (Hm _ _ _ hj) C.hK hr hgl i1 i2 n1
    split at q
    · rename_i hx
      cases beq_iff_eq.mp hx
      split at q
      · rename_i e t p2
        split at q
        · rename_i hs
          rw [Bool.and_eq_true] at hs
          obtain ⟨c, h1, q⟩ := Option.bind_eq_some_iff.mp q
          obtain ⟨f1, h2, q⟩ := Option.map_eq_some_iff.mp q
          subst q
          obtain ⟨t1, t2, t3⟩ := ty_ok h1
          obtain ⟨m1, m2, m3⟩ := okName_of (LE.gl_ok hs.2)
          exact de_isi C.hK t1 hgl (C.blt _ (by decide)) (C.glX hs.2) (C.blt _ t2) t3 m3 m1 (h _ _ h2) hs.1
        · cases q
      · cases q
    split at q
    · rename_i b hb
      split at q
      · cases q
      rename_i ha
      have e := BI.of_name hb
      subst e
      split at q
      · rename_i hsd
        rw [Bool.and_eq_true, decide_eq_true_eq] at hsd
        obtain ⟨rfl, _⟩ := hsd
        obtain ⟨fa, h1, q⟩ := Option.map_eq_some_iff.mp q
        subst q
        obtain ⟨i1, i2⟩ := trL_ok h h1
        cases args with
        | nil => exact absurd rfl ha
        | cons e es => exact de_callB (biSrtH C.hK C.calm C.un _) hgl (C.blt _ (by decide)) (by rfl) i1 i2 (by decide) (by decide)
      obtain ⟨fa, h1, q⟩ := Option.map_eq_some_iff.mp q
      subst q
      obtain ⟨i1, i2⟩ := trL_ok h h1
      cases args with
      | nil => exact absurd rfl ha
      | cons e es => exact bi_ok C h hgl i1 i2
    · split at q
      · rename_i hx
        cases beq_iff_eq.mp hx
        split at q
        · rename_i z pz a b pc
          split at q
          · rename_i hh
            simp only [Bool.and_eq_true] at hh
            obtain ⟨⟨⟨z1, z2⟩, z3⟩, z4⟩ := hh
            cases beq_iff_eq.mp z1
            obtain ⟨f1, h1, q⟩ := Option.bind_eq_some_iff.mp q
            obtain ⟨f2, h2, q⟩ := Option.map_eq_some_iff.mp q
            subst q
            exact de_dictZip _ C.hK C.calm hgl (C.blt _ (by decide)) (C.glX z2) (C.blt _ (by decide)) (h _ _ h1) (h _ _ h2) z3 z4
          · cases q
        · obtain ⟨fa, h1, q⟩ := Option.map_eq_some_iff.mp q
          subst q
          obtain ⟨i1, i2⟩ := trL_ok h h1
          exact de_callTy (biDct C.hK C.calm _) hgl (C.blt _ (by decide)) (by rfl) i1 i2 (by decide) (by decide)
        · cases q
      · cases q
  · rename_i o m apos
    split at q
    rotate_left
    · cases q
    rename_i hc
    simp only [Bool.and_eq_true, decide_eq_true_eq] at hc
    obtain ⟨⟨c1, c2⟩, c3⟩ := hc
    split at q
    · rename_i b hb
      obtain ⟨f1, h1, q⟩ := Option.bind_eq_some_iff.mp q
      obtain ⟨fa, h2, q⟩ := Option.map_eq_some_iff.mp q
      subst q
      obtain ⟨i1, i2⟩ := trL_ok h h2
      exact bm_ok C hb (h _ _ h1) i1 (fun e => by subst e; exact trL_nil h2) c1 i2 c2 c3
    · obtain ⟨f1, h1, q⟩ := Option.bind_eq_some_iff.mp q
      obtain ⟨fa, h2, q⟩ := Option.map_eq_some_iff.mp q
      subst q
      obtain ⟨i1, i2⟩ := trL_ok h h2
      have hM : ∀ c F, ((S.mt m c).map tf) = some F → Me1 X.prog X.w X.K X.mg X.base T R c (nmS m.cps.toList) F := fun c F e => by
        obtain ⟨j, e1, e2⟩ := Option.map_eq_some_iff.mp e
        subst e2
        rw [nmS_of]
        exact Ht _ _ _ e1
      have key : PE X (.Call (.Attribute o (nmS m.cps.toList) apos) args [] pos) (TEv T Wx (fMeth (fun c => (S.mt m c).map tf) m.cps.toList f1 fa)) := by
        cases args with
        | nil => rw [trL_nil h2]; exact de_meth0 C.hK hM hR C.tk (h _ _ h1) c1 c3
        | cons e es => exact de_meth C.hK hM hR C.tk (h _ _ h1) i1 c1 i2 c2 c3
      rw [nmS_of] at key
      exact key
  · cases q
theorem Ctx.blk (C : Ctx S T tf tfm Wx X le) {scope : Scope} {own : List (Str × Nat)} (hb : BlkOk le.N le.sc scope own) (s : Shared) (H : Hp) (a : Addr) (cl : List (Str × Addr)) (fp : List Addr) :
    Ctx S T tf tfm WxF (X.blk s H scope (compEnvC scope cl a X.env) fp) ⟨le.N, relS scope le.sc, some scope⟩ where
  hK := C.hK
  calm := C.calm
  N := C.N
  nd := C.nd
  sc := by rw [← C.sc]; rfl
  kind := hb.kind
  fn := fun x h => h
  room := C.room
  tk := takes0
  gcs := C.gcs
  blt := C.blt
  fld := C.fld
  exs := fun x c h => let e := C.exs x c h; ⟨e.made, e.glob, e.keep, e.rs⟩
  exm := C.exm
  kin := C.kin
  wds := C.wds
theorem comp_parts (C : Ctx S T tf tfm Wx X le) (ih : ∀ {Wx : WX} {X : Cx} {le : LE}, Ctx S T tf tfm Wx X le → TeOk T Wx X (trE S tf tfm n le)) {elt tg iter : Expr} {ifs : List Expr} {scope : Scope} {pos : Pos} {fi : Wk} {f : FE}
    (q : trComp S le (trE S tf tfm n le) (trE S tf tfm n ⟨le.N, relS scope le.sc, some scope⟩) n elt tg iter ifs scope pos fi = some f) :
    ∃ own g ft fe, f = fCompW (S.bxAt pos) (own.map (·.2)) fi g ft fe ∧ BlkOk X.N X.env.scope scope own ∧ notSet iter = true ∧
      (∀ (s : Shared) (H : Hp) (C : Addr) (cl : List (Str × Addr)) (fp : List Addr), PG (X.blk s H scope (compEnvC scope cl C X.env) fp) tg (TGv T WxF (own.map (·.2)) g)) ∧
      (∀ (s : Shared) (H : Hp) (C : Addr) (cl : List (Str × Addr)) (fp : List Addr), PTs (X.blk s H scope (compEnvC scope cl C X.env) fp) ifs (TTv T WxF ft)) ∧
      (∀ (s : Shared) (H : Hp) (C : Addr) (cl : List (Str × Addr)) (fp : List Addr), PE (X.blk s H scope (compEnvC scope cl C X.env) fp) elt (TEv T WxF fe)) := by
  unfold trComp at q
  simp only [] at q
  split at q
  rotate_left
  · cases q
  rename_i hc
  rw [Bool.and_eq_true] at hc
  have hb := blkOk_by hc.1
  obtain ⟨g, h1, q⟩ := Option.bind_eq_some_iff.mp q
  split at q
  rotate_left
  · cases q
  rename_i hw
  obtain ⟨ft, h2, q⟩ := Option.bind_eq_some_iff.mp q
  obtain ⟨fe, h3, q⟩ := Option.map_eq_some_iff.mp q
  subst q
  refine ⟨_, g.1, ft, fe, rfl, by rw [C.N, C.sc]; exact hb, hc.2, fun s H a cl fp => ?_, fun s H a cl fp => ?_, fun s H a cl fp => ?_⟩
  · have C' := C.blk hb s H a cl fp
    refine PGimp (trG_ok C' (ih C') n _ _ h1).1 fun v σ H Q ⟨W, sg, st, p, S0, so, r, q⟩ => ⟨W, sg, st, p, S0, so, r, q.mono fun sg' st' W' H' g' S' k σ' so' o => k σ' so' (o.up fun i hi => ?_)⟩
    have := List.all_eq_true.mp hw i hi
    exact List.contains_iff_mem.mp this
  · have C' := C.blk hb s H a cl fp
    exact trIfs_ok (trT_ok C' (ih C') n) h2
  · have C' := C.blk hb s H a cl fp
    exact ih C' _ _ h3
theorem comp2_ok (C : Ctx S T tf tfm Wx X le) (ih : ∀ {Wx : WX} {X : Cx} {le : LE}, Ctx S T tf tfm Wx X le → TeOk T Wx X (trE S tf tfm n le)) {elt tg iter tg1 iter1 : Expr} {ifs ifs1 : List Expr} {scope : Scope} {pos : Pos} {fi : FA} {f : FE} (hi : PI X tg iter (TIv T Wx fi))
    (q : trComp2 S le (trE S tf tfm n ⟨le.N, relS scope le.sc, some scope⟩) n elt tg iter ifs tg1 iter1 ifs1 scope pos fi = some f) :
    PE X (.ListComp elt [⟨tg, iter, ifs, 0⟩, ⟨tg1, iter1, ifs1, 0⟩] scope pos) (TEv T Wx f) ∧ ∀ {i : Nat} {y : Str} {py spos : Pos}, X.N[i]? = some y → X.env.scope.names.lookup y = some .local →
      noSwap le.sc (.Name y py) (.ListComp elt [⟨tg, iter, ifs, 0⟩, ⟨tg1, iter1, ifs1, 0⟩] scope pos) = false → PS X (.Assign [.Name y py] (.ListComp elt [⟨tg, iter, ifs, 0⟩, ⟨tg1, iter1, ifs1, 0⟩] scope pos) spos) (TSv T Wx (fsAsg f (gtName i))) := by
  unfold trComp2 at q
  simp only [] at q
  split at q
  rotate_left
  · cases q
  rename_i hc
  rw [Bool.and_eq_true, Bool.and_eq_true] at hc
  have hb := blkOk_by hc.1.1
  obtain ⟨g, h1, q⟩ := Option.bind_eq_some_iff.mp q
  obtain ⟨g1, h2, q⟩ := Option.bind_eq_some_iff.mp q
  split at q
  rotate_left
  · cases q
  rename_i hw
  rw [Bool.and_eq_true] at hw
  obtain ⟨ft, h3, q⟩ := Option.bind_eq_some_iff.mp q
  obtain ⟨fi1, h4, q⟩ := Option.bind_eq_some_iff.mp q
  obtain ⟨ft1, h5, q⟩ := Option.bind_eq_some_iff.mp q
  obtain ⟨fe, h6, q⟩ := Option.map_eq_some_iff.mp q
  subst q
  have hbX : BlkOk X.N X.env.scope scope (ownOf le.N scope) := by rw [C.N, C.sc]; exact hb
  have hv : ∀ i ∈ g1.2, i ∈ (ownOf le.N scope).map (·.2) := fun i hi => List.contains_iff_mem.mp (List.all_eq_true.mp hw.2 i hi)
  have hg : ∀ (s : Shared) (H : Hp) (a : Addr) (cl : List (Str × Addr)) (fp : List Addr), PG (X.blk s H scope (compEnvC scope cl a X.env) fp) tg (TGv T WxF ((ownOf le.N scope).map (·.2)) g.1) := fun s H a cl fp => by
    have C' := C.blk hb s H a cl fp
    refine PGimp (trG_ok C' (ih C') n _ _ h1).1 fun v σ H Q ⟨W, sg, st, p, S0, so, r, q⟩ => ⟨W, sg, st, p, S0, so, r, q.mono fun sg' st' W' H' g' S' k σ' so' o => k σ' so' (o.up fun i hi => ?_)⟩
    exact List.contains_iff_mem.mp (List.all_eq_true.mp hw.1 i hi)
  have hg1 : ∀ (s : Shared) (H : Hp) (a : Addr) (cl : List (Str × Addr)) (fp : List Addr), PG (X.blk s H scope (compEnvC scope cl a X.env) fp) tg1 (TGv T WxF g1.2 g1.1) := fun s H a cl fp => by
    have C' := C.blk hb s H a cl fp
    exact (trG_ok C' (ih C') n _ _ h2).1
  have ht : ∀ (s : Shared) (H : Hp) (a : Addr) (cl : List (Str × Addr)) (fp : List Addr), PTs (X.blk s H scope (compEnvC scope cl a X.env) fp) ifs (TTv T WxF ft) := fun s H a cl fp =>
    trIfs_ok (trT_ok (C.blk hb s H a cl fp) (ih (C.blk hb s H a cl fp)) n) h3
  have ht1 : ∀ (s : Shared) (H : Hp) (a : Addr) (cl : List (Str × Addr)) (fp : List Addr), PTs (X.blk s H scope (compEnvC scope cl a X.env) fp) ifs1 (TTv T WxF ft1) := fun s H a cl fp =>
    trIfs_ok (trT_ok (C.blk hb s H a cl fp) (ih (C.blk hb s H a cl fp)) n) h5
  have hi1 : ∀ (s : Shared) (H : Hp) (a : Addr) (cl : List (Str × Addr)) (fp : List Addr), PI (X.blk s H scope (compEnvC scope cl a X.env) fp) tg1 iter1 (TIv T WxF fi1) := fun s H a cl fp =>
    trI_ok (C.blk hb s H a cl fp) (ih (C.blk hb s H a cl fp)) h4
  have he : ∀ (s : Shared) (H : Hp) (a : Addr) (cl : List (Str × Addr)) (fp : List Addr), PE (X.blk s H scope (compEnvC scope cl a X.env) fp) elt (TEv T WxF fe) := fun s H a cl fp =>
    ih (C.blk hb s H a cl fp) _ _ h6
  exact ⟨de_comp2 _ C.calm C.nd hi hbX hv hg ht hi1 hg1 ht1 he hc.1.2 hc.2, fun hy hyl hsw => ds_setLc2 _ C.sc C.kind C.calm C.nd hy hyl hsw hi hbX hv hg ht hi1 hg1 ht1 he hc.1.2 hc.2⟩
theorem trW_ok (C : Ctx S T tf tfm Wx X le) (h : TeOk T Wx X te) {tg iter : Expr} {pos : Pos} {w : Wk} (q : trW S le te tg iter pos = some w) : PI X tg iter (TWk T Wx w) := by
  unfold trW at q
  split at q
  · obtain ⟨f, h1, rfl⟩ := Option.map_eq_some_iff.mp q
    exact di_live C.hK (h _ _ h1)
  · obtain ⟨fi, h1, rfl⟩ := Option.map_eq_some_iff.mp q
    exact trI_ok C h h1
theorem dcomp_parts (C : Ctx S T tf tfm Wx X le) (ih : ∀ {Wx : WX} {X : Cx} {le : LE}, Ctx S T tf tfm Wx X le → TeOk T Wx X (trE S tf tfm n le)) {kx vx tg iter : Expr} {ifs : List Expr} {scope : Scope} {pos : Pos} {fi : FA} {f : FE}
    (q : trDComp S le (trE S tf tfm n ⟨le.N, relS scope le.sc, some scope⟩) n kx vx tg iter ifs scope pos fi = some f) :
    ∃ own g ft fk fv, f = fDComp (S.bxAt pos) (own.map (·.2)) fi g ft fk fv ∧ BlkOk X.N X.env.scope scope own ∧ notSet iter = true ∧
      (∀ (s : Shared) (H : Hp) (C : Addr) (cl : List (Str × Addr)) (fp : List Addr), PG (X.blk s H scope (compEnvC scope cl C X.env) fp) tg (TGv T WxF (own.map (·.2)) g)) ∧
      (∀ (s : Shared) (H : Hp) (C : Addr) (cl : List (Str × Addr)) (fp : List Addr), PTs (X.blk s H scope (compEnvC scope cl C X.env) fp) ifs (TTv T WxF ft)) ∧
      (∀ (s : Shared) (H : Hp) (C : Addr) (cl : List (Str × Addr)) (fp : List Addr), PE (X.blk s H scope (compEnvC scope cl C X.env) fp) kx (TEv T WxF fk)) ∧
      (∀ (s : Shared) (H : Hp) (C : Addr) (cl : List (Str × Addr)) (fp : List Addr), PE (X.blk s H scope (compEnvC scope cl C X.env) fp) vx (TEv T WxF fv)) := by
  unfold trDComp at q
  simp only [] at q
  split at q
  rotate_left
  · cases q
  rename_i hc
  rw [Bool.and_eq_true] at hc
  have hb := blkOk_by hc.1
  obtain ⟨g, h1, q⟩ := Option.bind_eq_some_iff.mp q
  split at q
  rotate_left
  · cases q
  rename_i hw
  obtain ⟨ft, h2, q⟩ := Option.bind_eq_some_iff.mp q
  obtain ⟨fk, h3, q⟩ := Option.bind_eq_some_iff.mp q
  obtain ⟨fv, h4, q⟩ := Option.map_eq_some_iff.mp q
  subst q
  refine ⟨_, g.1, ft, fk, fv, rfl, by rw [C.N, C.sc]; exact hb, hc.2, fun s H a cl fp => ?_, fun s H a cl fp => ?_, fun s H a cl fp => ?_, fun s H a cl fp => ?_⟩
  · have C' := C.blk hb s H a cl fp
    refine PGimp (trG_ok C' (ih C') n _ _ h1).1 fun v σ H Q ⟨W, sg, st, p, S0, so, r, q⟩ => ⟨W, sg, st, p, S0, so, r, q.mono fun sg' st' W' H' g' S' k σ' so' o => k σ' so' (o.up fun i hi => ?_)⟩
    have := List.all_eq_true.mp hw i hi
    exact List.contains_iff_mem.mp this
  · exact trIfs_ok (trT_ok (C.blk hb s H a cl fp) (ih (C.blk hb s H a cl fp)) n) h2
  · exact ih (C.blk hb s H a cl fp) _ _ h3
  · exact ih (C.blk hb s H a cl fp) _ _ h4
theorem stkE_ok {Wx : WX} {X : Cx} {e : Expr} {o : Option FE} {f : FE} (q : stkE o = some f) (h : ∀ f, o = some f → PE X e (TEv T Wx f)) : PE X e (TEv T Wx f) := by
  cases o with
  | none => cases q; exact de_stk
  | some g => cases q; exact h _ rfl
theorem wdN_ok (C : Ctx S T tf tfm Wx X le) {a : Expr} {tb : List (List Nat × PV)} (h : wdN S le a = some tb) : ∃ d, PE X a (tC (.ref d)) ∧ ∀ z q, tb.lookup z = some q → ∃ v, KDct X.K X.w d ⟨z.toArray⟩ v ∧ Fixed T.K q v := by
  unfold wdN at h
  split at h
  · split at h
    · rename_i hg
      obtain ⟨d, m, k⟩ := C.wds _ _ h
      exact ⟨d, pe_glob (C.glX hg) m rfl (okName_of (LE.gl_ok hg)).1, k⟩
    · cases h
  · cases h
theorem trE_ok : ∀ (n : Nat) {Wx : WX} {X : Cx} {le : LE}, Ctx S T tf tfm Wx X le → TeOk T Wx X (trE S tf tfm n le)
  | 0, Wx, X, le, C, e, f, q => by cases q
  | n + 1, Wx, X, le, C, e, f, q => by
    have h : TeOk T Wx X (trE S tf tfm n le) := trE_ok n C
    have ih : ∀ {Wx : WX} {X : Cx} {le : LE}, Ctx S T tf tfm Wx X le → TeOk T Wx X (trE S tf tfm n le) := fun {Wx X le} C => trE_ok n C
    unfold trE at q
    revert f; intro f0 q1; refine stkE_ok q1 fun f q => ?_; clear q1; clear f0
    obtain ⟨f0, q, qf⟩ := Option.map_eq_some_iff.mp q
    suffices hh : PE X e (TEv T Wx f0) by
      by_cases hy : S.nrmAt e.pos = true
      · rw [if_pos hy] at qf; subst qf; exact de_nrm hh
      rw [if_neg hy] at qf
      by_cases hz : S.frzAt e.pos = true
      · rw [if_pos hz] at qf; subst qf; exact de_frz hh
      · rw [if_neg hz] at qf; subst qf; exact hh
    clear qf
    split at q
    · rename_i x p
      split at q
      rotate_left
      · cases q
      rename_i hn
      obtain ⟨n1, n2, n3⟩ := okName_of hn
      split at q
      · rename_i hv
        obtain ⟨i, hi, q⟩ := Option.map_eq_some_iff.mp q
        subst q
        exact de_var C.hK (by rw [C.N]; exact LE.ix_of hi) (C.visX hv) n1 n2
      · split at q
        · rename_i hg
          obtain ⟨p', h1, q⟩ := Option.map_eq_some_iff.mp q
          subst q
          obtain ⟨v, u, m1, m2, m3⟩ := C.gcs _ _ h1
          exact de_glob (C.glX hg) m1 m2 m3 n1
        · cases q
    · rename_i c j p
      split at q
      · cases q; exact de_int
      · cases q; exact de_bl
      · cases q; exact de_non
      · split at q
        · rename_i hz
          cases q
          exact de_str (by rw [sizeLine_eq]; omega)
        · cases q
      · cases q
    · rename_i a op b p
      split at q
      · split at q
        · obtain ⟨f1, h1, q⟩ := Option.bind_eq_some_iff.mp q
          obtain ⟨f2, h2, q⟩ := Option.map_eq_some_iff.mp q
          subst q
          exact de_cat _ (h _ _ h1) (h _ _ h2)
        · cases q
      obtain ⟨o, h0, q⟩ := Option.bind_eq_some_iff.mp q
      obtain ⟨f1, h1, q⟩ := Option.bind_eq_some_iff.mp q
      obtain ⟨f2, h2, q⟩ := Option.map_eq_some_iff.mp q
      subst q
      exact de_bin (binO_ok C h0) (h _ _ h1) (h _ _ h2)
    · split at q
      · obtain ⟨f1, h1, q⟩ := Option.map_eq_some_iff.mp q
        subst q
        exact de_not C.hK (h _ _ h1)
      · obtain ⟨f1, h1, q⟩ := Option.map_eq_some_iff.mp q
        subst q
        exact de_un (unNeg C.hK) (h _ _ h1)
      · cases q
    · exact (trCmp_ok C h q).1
    · exact trBool_ok C h q
    · obtain ⟨f1, h1, q⟩ := Option.bind_eq_some_iff.mp q
      obtain ⟨f2, h2, q⟩ := Option.bind_eq_some_iff.mp q
      obtain ⟨f3, h3, q⟩ := Option.map_eq_some_iff.mp q
      subst q
      exact de_ite (trT_ok C h n _ _ h1) (h _ _ h2) (h _ _ h3)
    · obtain ⟨fa, h1, q⟩ := Option.map_eq_some_iff.mp q
      subst q
      split
      · exact de_tupP (trL_ok h h1).1
      · exact de_tup (trL_ok h h1).1
    · obtain ⟨fa, h1, q⟩ := Option.map_eq_some_iff.mp q
      subst q
      exact de_lst _ (trL_ok h h1).1
    · split at q
      · cases q; exact de_dnew _
      · split at q
        · rename_i hne hc
          simp only [Bool.and_eq_true, decide_eq_true_eq] at hc
          obtain ⟨prs, h1, q⟩ := Option.map_eq_some_iff.mp q
          subst q
          obtain ⟨i1, i2⟩ := trPs_ok h h1
          refine de_disp _ i1 hc.2 i2 (fun e => ?_) hc.1
          subst e
          have : (_ : List Expr) = [] := List.eq_nil_of_length_eq_zero i2.symm
          subst this
          exact hne rfl rfl
        · cases q
    · split at q
      · obtain ⟨f1, h1, q⟩ := Option.bind_eq_some_iff.mp q
        obtain ⟨f2, h2, q⟩ := Option.bind_eq_some_iff.mp q
        obtain ⟨f3, h3, q⟩ := Option.map_eq_some_iff.mp q
        subst q
        exact de_slc C.hK (h _ _ h1) (trO_ok h h2) (trO_ok h h3)
      · split at q
        · rename_i hp
          split at q
          · rename_i tb ht
            obtain ⟨f2, h2, q⟩ := Option.map_eq_some_iff.mp q
            subst q
            obtain ⟨d, hd, hk⟩ := wdN_ok C ht
            exact de_wd hd hk (h _ _ h2) (plainIx_of hp)
          · obtain ⟨f1, h1, q⟩ := Option.bind_eq_some_iff.mp q
            obtain ⟨f2, h2, q⟩ := Option.map_eq_some_iff.mp q
            subst q
            exact de_idx C.hK (by have := C.un; omega) (h _ _ h1) (h _ _ h2) hp
        · cases q
    · rename_i a fl p _
      split at q
      · rename_i hr
        obtain ⟨f1, h1, q⟩ := Option.map_eq_some_iff.mp q
        subst q
        have key := de_fld (pos := p) (l := fl.cps.toList) C.hK (h _ _ h1) hr
        rw [nmS_of] at key
        exact key
      · cases q
    · split at q
      · exact trCall_ok C h q
      · cases q
    · split at q
      · rename_i elt gens scope pos _ tg iter ifs
        split at q
        · split at q
          · rename_i x p
            split at q
            · rename_i hv
              rw [Bool.and_eq_true] at hv
              obtain ⟨n1, n2, n3⟩ := okName_of hv.2
              obtain ⟨i, hi, q⟩ := Option.bind_eq_some_iff.mp q
              obtain ⟨f1, h1, q⟩ := Option.map_eq_some_iff.mp q
              subst q
              obtain ⟨own, g, ft, fe, rfl, hb, hs, z1, z2, z3⟩ := comp_parts C ih h1
              exact de_lock i (de_compW _ C.calm C.nd (w := .it _) (di_keys (de_var C.hK (by rw [C.N]; exact LE.ix_of hi) (C.visX hv.1) n1 n2)) hb z1 z2 z3 hs)
            · cases q
          · cases q
        · obtain ⟨fi, h1, q⟩ := Option.bind_eq_some_iff.mp q
          obtain ⟨own, g, ft, fe, rfl, hb, hs, z1, z2, z3⟩ := comp_parts C ih q
          exact de_compW _ C.calm C.nd (trW_ok C h h1) hb z1 z2 z3 hs
      · obtain ⟨fi, h1, q⟩ := Option.bind_eq_some_iff.mp q
        exact (comp2_ok C ih (trI_ok C h h1) q).1
      · cases q
    · split at q
      · obtain ⟨fi, h1, q⟩ := Option.bind_eq_some_iff.mp q
        obtain ⟨own, g, ft, fk, fv, rfl, hb, hs, z1, z2, z3, z4⟩ := dcomp_parts C ih q
        exact de_dcomp _ C.calm C.nd (trI_ok C h h1) hb z1 z2 z3 z4 hs
      · cases q
    · cases q
end
end Pv
/-! Pv, part P: statements are translated, soundly. -/
namespace Pv
open PySem PySem.Spec PyProof.Rows PySem.SeqAt L2

/-- the list cell that slot i holds is frozen -/
def fsFrzV (i : Nat) (u : FS) : FS := fun sg st => match sg[i]? with
  | some (some (.ref n)) => match st[n]? with
    | some (.lst xs) => u (sg.set i (some (.lst xs))) (st.set n .dead)
    | _ => .stuck
  | _ => .stuck
section
variable {X : Cx} {T : Txt} {Wx : WX}
theorem ds_frzv {st : Stmt} {u : FS} (i : Nat) (h : PS X st (TSv T Wx u)) : PS X st (TSv T Wx (fsFrzV i u)) := PSimp h fun D σ H ⟨W, sg, st, S, so, q⟩ => by
  unfold fsFrzV at q
  cases hi : sg[i]? with
  | none => simp only [hi] at q; exact q.elim
  | some o =>
    cases o with
    | none => simp only [hi] at q; exact q.elim
    | some p =>
      cases p with
      | ref n =>
        cases hc : st[n]? with
        | none => simp only [hi, hc] at q; exact q.elim
        | some c =>
          cases c with
          | lst xs =>
            simp only [hi, hc] at q
            obtain ⟨v, hv, a, e, rfl⟩ := so.get i _ hi
            obtain ⟨vs, f, rs⟩ := S.cell n a _ e hc
            obtain ⟨g, S'⟩ := S.froze e hc rfl f
            refine ⟨_, _, _, S', ⟨by rw [List.length_set]; exact so.len, fun j p hj => ?_⟩, SQ.later q g⟩
            by_cases z : i = j
            · subst z
              have hl : i < sg.length := (List.getElem?_eq_some_iff.mp hi).1
              rw [List.getElem?_set_self hl] at hj
              cases hj
              exact ⟨_, hv, a, vs, rfl, upd_same, rs.up g.le⟩
            · rw [List.getElem?_set_ne z] at hj
              obtain ⟨w, h1, h2⟩ := so.get j p hj
              exact ⟨w, h1, h2.up g.le⟩
          | _ => simp only [hi, hc] at q; exact q.elim
      | _ => simp only [hi] at q; exact q.elim
end

def trPar (le : LE) (te : Expr → Option FE) (names : List Str) (ts vs : List Expr) : Option FS := match ts, vs with
  | [.Name x _, .Name y _], [a, b] => if decide (names = [x, y]) && (le.sc.names.lookup x == some .local) && (le.sc.names.lookup y == some .local) then
      (le.ix x).bind fun i => (le.ix y).bind fun j => if i = j then none else (trL te vs).map (fsPar [i, j]) else none
  | [.Name x _, .Name y _, .Name z _], [a, b, c] => if decide (names = [x, y, z]) && (le.sc.names.lookup x == some .local) && (le.sc.names.lookup y == some .local) && (le.sc.names.lookup z == some .local) then
      (le.ix x).bind fun i => (le.ix y).bind fun j => (le.ix z).bind fun l => if i = j ∨ i = l ∨ j = l then none else (trL te vs).map (fsPar [i, j, l]) else none
  | _, _ => none
def trAsg (S : Stc) (tf tfm : Nat → FF) (m : Nat) (le : LE) (tg e : Expr) : Option FS :=
  let te := trE S tf tfm m le
  match tg, e with
  | .Attribute o f _, e => (te e).bind fun fv => (te o).map fun fo => fsFld (S.fldOk f) f.cps.toList fv fo
  | .Tuple ts k p, .Tuple vs k2 p2 => match swapQ le.sc ts vs with
    | none => none
    | some none => (te (.Tuple vs k2 p2)).bind fun f => (trG le te m (.Tuple ts k p)).map fun g => fsAsg f g.1
    | some (some names) => trPar le te names ts vs
  | tg, e => if notStar tg && noPair tg e then
      if noSwap le.sc tg e then (te e).bind fun f => (trG le te m tg).map fun g => fsAsg f g.1
      else match tg, e with
        | .Name y _, .ListComp elt [⟨t, iter, ifs, 0⟩] scope pos => if le.sc.names.lookup y == some .local && !S.kyAt pos then
            (le.ix y).bind fun i => (trW S le te t iter pos).bind fun fi => (trComp S le te (trE S tf tfm m ⟨le.N, relS scope le.sc, some scope⟩) m elt t iter ifs scope pos fi).map fun f => fsAsg f (gtName i)
          else none
        | .Name y _, .ListComp elt [⟨t, iter, ifs, 0⟩, ⟨t1, iter1, ifs1, 0⟩] scope pos => if le.sc.names.lookup y == some .local then
            (le.ix y).bind fun i => (trI S le te t iter).bind fun fi => (trComp2 S le (trE S tf tfm m ⟨le.N, relS scope le.sc, some scope⟩) m elt t iter ifs t1 iter1 ifs1 scope pos fi).map fun f => fsAsg f (gtName i)
          else none
        | .Name y py, .DictComp kx vx [⟨t, iter, ifs, 0⟩] scope pos => if le.sc.names.lookup y == some .local && !noSwapD le.sc y py pos scope then
            (le.ix y).bind fun i => (trI S le te t iter).bind fun fi => (trDComp S le (trE S tf tfm m ⟨le.N, relS scope le.sc, some scope⟩) m kx vx t iter ifs scope pos fi).map fun f => fsAsg f (gtName i)
          else none
        | _, _ => none
    else none
def trSs (ts : Stmt → Option FS) : List Stmt → Option FS
  | [] => some fsNil
  | s :: r => (trSs ts r).map fun v => fsSeq ((ts s).getD fsStuck) v
def frzS (S : Stc) (le : LE) (pos : Pos) (u : FS) : Option FS := match S.frzv.lookup pos.line with
  | none => some u
  | some x => (le.ix x).map fun i => fsFrzV i u
def constP : PySem.Const → Option PV
  | .none => some .non
  | .bool b => some (.bl b)
  | .int i => some (.int i)
  | _ => none
theorem constP_ok {X : Cx} {T : Txt} {Wx : WX} {k : PySem.Const} {p : PV} {j : Nat} {pos : Pos} (h : constP k = some p) : PE X (.Constant k j pos) (TEv T Wx (fC p)) := by
  cases k <;> simp [constP] at h <;> subst h
  · exact de_non
  · exact de_bl
  · exact de_int
def trRs (le : LE) (te : Expr → Option FE) (c : Nat) (a : Expr) : Option FS := match a with
  | .Call (.Name x _) [e] [] _ => if x == ("str" : Str) && le.gl x && notStar e then (te e).map (fsRaiseS c) else none
  | _ => none
def stLine : Stmt → Nat
  | .For _ _ _ _ p => p.line
  | .Assign _ _ p => p.line
  | .Return _ p => p.line
  | _ => 0
def lkS (S : Stc) (s : Stmt) (u : FS) : FS := match S.lkf.lookup (stLine s) with
  | some z => fsLockP z.1 z.2 u
  | none => u
/-- what is not served is stuck -/
def stkS (S : Stc) (s : Stmt) (o : Option FS) : Option FS := some ((o.map fun u => lkS S s u).getD fsStuck)
def trS (S : Stc) (tf tfm : Nat → FF) (m : Nat) (le : LE) : Nat → Stmt → Option FS
  | 0, _ => none
  | n + 1, s =>
    let te := trE S tf tfm m le
    stkS S s (match s with
    | .Expr e _ => (match e with
      | .Constant (.str _) _ _ => some fsNil
      | e => if noComp e then (te e).map fsDrop else none)
    | .Return v _ => (match v with
      | some e => (te e).map fsRet
      | none => some fsRetN)
    | .Pass _ => some fsNil
    | .Break _ => some fsBk
    | .Continue _ => some fsCt
    | .If c a b _ => (trT te m c).bind fun f => (trSs (trS S tf tfm m le n) a).bind fun u => (trSs (trS S tf tfm m le n) b).map fun v => fsIf f u v
    | .Assign tgs e _ => (match tgs with
      | [tg] => trAsg S tf tfm m le tg e
      | _ => none)
    | .AugAssign tg op e _ => if augOk op then (match tg with
      | .Name x _ => if le.loc x then (le.ix x).bind fun i => (te e).map fun f => fsAug i op f else none
      | .Attribute o f _ => (te o).bind fun fo => (te e).map fun fv => fsFldAug (S.fldOk f) f.cps.toList op fv fo
      | _ => none) else none
    | .For tg iter body orelse pos => (match orelse with
      | [] => if notSet iter then (if S.lvf.contains pos.line then (te iter).bind fun f => (trG le te m tg).bind fun g => (trSs (trS S tf tfm m le n) body).map fun u => fsForV f g.1 u
        else (trI S le te tg iter).bind fun fi => (trG le te m tg).bind fun g => (trSs (trS S tf tfm m le n) body).bind fun u => frzS S le pos (fsFor fi g.1 u)) else none
      | _ => none)
    | .While c body orelse _ => (match orelse with
      | [] => (trT te m c).bind fun f => (trSs (trS S tf tfm m le n) body).map fun u => fsWhile f u
      | _ => none)
    | .Raise e c rpos => (match e, c with
      | some (.Call (.Name x _) [a] [] _), none => if le.gl x && notStar a then (match S.exs.lookup x with
        | some c => if S.rst.contains rpos.line then trRs le te c a else (te a).map (fsRaise c)
        | none => some fsStuck) else some fsStuck
      | _, _ => some fsStuck)
    | .Try body hs orelse fin _ => (match hs, orelse, fin with
      | [.ExceptHandler (some (.Name x _)) none [.Return (some (.Constant k _ _)) _] _], [], [] => if le.gl x then (S.exm.lookup x).bind fun l => (constP k).bind fun p => (trSs (trS S tf tfm m le n) body).map fun u => fsTry l u p else none
      | [.ExceptHandler (some (.Name x _)) (some y) [.Return (some (.Call (.Name f _) [.Name y' _] [] _)) _] _], [], [] => if le.gl x && le.gl f && decide (y = y') && le.loc y && decide (le.sc.names.lookup y = some NameKind.local) && okName y then
          (S.exm.lookup x).bind fun l => (S.kin.lookup f).bind fun kl => (le.ix y).bind fun i => (trSs (trS S tf tfm m le n) body).map fun u => fsTryK i l (fun c => kl.lookup c) u else none
      | _, _, _ => none)
    | _ => none)
section
variable {S : Stc} {T : Txt} {tf tfm : Nat → FF} {Wx : WX} {X : Cx} {le : LE} {m : Nat}
def TsOk (T : Txt) (Wx : WX) (X : Cx) (ts : Stmt → Option FS) : Prop := ∀ e f, ts e = some f → PS X e (TSv T Wx f)
theorem trSs_ok {ts : Stmt → Option FS} (h : TsOk T Wx X ts) : ∀ {es : List Stmt} {f : FS}, trSs ts es = some f → PSs X es (TSv T Wx f)
  | [], f, q => by cases q; exact dss_nil
  | s :: r, f, q => by
    obtain ⟨v, h2, q⟩ := Option.map_eq_some_iff.mp (show (trSs ts r).map (fun v => fsSeq ((ts s).getD fsStuck) v) = some f from q)
    subst q
    cases h1 : ts s with
    | none => exact dss_cons ds_never (trSs_ok h h2)
    | some u => exact dss_cons (h _ _ h1) (trSs_ok h h2)
theorem trPar_ok (C : Ctx S T tf tfm Wx X le) {te : Expr → Option FE} (h : TeOk T Wx X te) {names : List Str} {ts vs : List Expr} {k p k2 p2 pos} {f : FS} (hw : swapQ le.sc ts vs = some (some names)) (q : trPar le te names ts vs = some f) :
    PS X (.Assign [.Tuple ts k p] (.Tuple vs k2 p2) pos) (TSv T Wx f) := by
  unfold trPar at q
  split at q
  · rename_i x px y py a b
    split at q
    rotate_left
    · cases q
    rename_i hc
    simp only [Bool.and_eq_true, decide_eq_true_eq, beq_iff_eq] at hc
    obtain ⟨⟨c1, c2⟩, c3⟩ := hc
    subst c1
    obtain ⟨i, hi, q⟩ := Option.bind_eq_some_iff.mp q
    obtain ⟨j, hj, q⟩ := Option.bind_eq_some_iff.mp q
    split at q
    · cases q
    rename_i hij
    obtain ⟨fa, h1, q⟩ := Option.map_eq_some_iff.mp q
    subst q
    exact ds_par2 C.sc C.kind C.calm C.nd (by rw [C.N]; exact LE.ix_of hi) (by rw [C.N]; exact LE.ix_of hj) hij (by rw [C.sc]; exact c2) (by rw [C.sc]; exact c3) (trL_ok h h1).1 hw
  · rename_i x px y py z pz a b c
    split at q
    rotate_left
    · cases q
    rename_i hc
    simp only [Bool.and_eq_true, decide_eq_true_eq, beq_iff_eq] at hc
    obtain ⟨⟨⟨c1, c2⟩, c3⟩, c4⟩ := hc
    subst c1
    obtain ⟨i, hi, q⟩ := Option.bind_eq_some_iff.mp q
    obtain ⟨j, hj, q⟩ := Option.bind_eq_some_iff.mp q
    obtain ⟨l, hl, q⟩ := Option.bind_eq_some_iff.mp q
    split at q
    · cases q
    rename_i hij
    obtain ⟨fa, h1, q⟩ := Option.map_eq_some_iff.mp q
    subst q
    simp only [not_or] at hij
    exact ds_par3 C.sc C.kind C.calm C.nd (by rw [C.N]; exact LE.ix_of hi) (by rw [C.N]; exact LE.ix_of hj) (by rw [C.N]; exact LE.ix_of hl) hij.1 hij.2.1 hij.2.2 (by rw [C.sc]; exact c2) (by rw [C.sc]; exact c3) (by rw [C.sc]; exact c4) (trL_ok h h1).1 hw
  · cases q
theorem trAsg_ok (C : Ctx S T tf tfm Wx X le) {tg e : Expr} {pos : Pos} {f : FS} (q : trAsg S tf tfm m le tg e = some f) : PS X (.Assign [tg] e pos) (TSv T Wx f) := by
  have h : TeOk T Wx X (trE S tf tfm m le) := trE_ok m C
  unfold trAsg at q
  simp only [] at q
  split at q
  · rename_i o fl p
    obtain ⟨f1, h1, q⟩ := Option.bind_eq_some_iff.mp q
    obtain ⟨f2, h2, q⟩ := Option.map_eq_some_iff.mp q
    subst q
    have key := ds_fld (pos := pos) (pos' := p) (l := fl.cps.toList) C.hK (fun c hc => by rw [nmS_of]; exact C.fld _ _ hc) (h _ _ h2) (h _ _ h1)
    rw [nmS_of] at key
    exact key
  · split at q
    · cases q
    · rename_i hw
      obtain ⟨f1, h1, q⟩ := Option.bind_eq_some_iff.mp q
      obtain ⟨g1, h2, q⟩ := Option.map_eq_some_iff.mp q
      subst q
      exact ds_asgT C.sc C.kind (h _ _ h1) (trG_ok C h m _ _ h2).1 hw
    · rename_i names hw
      exact trPar_ok C h hw q
  · split at q
    rotate_left
    · cases q
    rename_i hp
    rw [Bool.and_eq_true] at hp
    split at q
    · rename_i hs
      obtain ⟨f1, h1, q⟩ := Option.bind_eq_some_iff.mp q
      obtain ⟨g1, h2, q⟩ := Option.map_eq_some_iff.mp q
      subst q
      exact ds_asg C.sc C.kind (h _ _ h1) (trG_ok C h m _ _ h2).1 hs hp.2 hp.1
    · rename_i hs
      split at q
      · split at q
        · rename_i hc
          rw [Bool.and_eq_true] at hc
          obtain ⟨i, hi, q⟩ := Option.bind_eq_some_iff.mp q
          obtain ⟨fi, h1, q⟩ := Option.bind_eq_some_iff.mp q
          obtain ⟨f1, h2, q⟩ := Option.map_eq_some_iff.mp q
          subst q
          obtain ⟨own, g, ft, fe, rfl, hb, hn, z1, z2, z3⟩ := comp_parts C (fun C => trE_ok m C) h2
          exact ds_setLcW _ C.sc C.kind C.calm C.nd (by rw [C.N]; exact LE.ix_of hi) (by rw [C.sc]; exact beq_iff_eq.mp hc.1) (by simpa using hs) (trW_ok C h h1) hb z1 z2 z3 hn
        · cases q
      · rename_i y py elt t iter ifs t1 iter1 ifs1 scope p2
        split at q
        · rename_i hc
          obtain ⟨i, hi, q⟩ := Option.bind_eq_some_iff.mp q
          obtain ⟨fi, h1, q⟩ := Option.bind_eq_some_iff.mp q
          obtain ⟨f1, h2, q⟩ := Option.map_eq_some_iff.mp q
          subst q
          exact (comp2_ok C (fun C => trE_ok m C) (trI_ok C h h1) h2).2 (by rw [C.N]; exact LE.ix_of hi) (by rw [C.sc]; exact beq_iff_eq.mp hc) (by simpa using hs)
        · cases q
      · rename_i y py kx vx t iter ifs scope p2
        split at q
        · rename_i hc
          rw [Bool.and_eq_true, Bool.not_eq_true'] at hc
          obtain ⟨i, hi, q⟩ := Option.bind_eq_some_iff.mp q
          obtain ⟨fi, h1, q⟩ := Option.bind_eq_some_iff.mp q
          obtain ⟨f1, h2, q⟩ := Option.map_eq_some_iff.mp q
          subst q
          obtain ⟨own, g, ft, fk, fv, rfl, hb, hn, z1, z2, z3, z4⟩ := dcomp_parts C (fun C => trE_ok m C) h2
          exact ds_setDc _ C.sc C.kind C.calm C.nd (by rw [C.N]; exact LE.ix_of hi) (by rw [C.sc]; exact beq_iff_eq.mp hc.1) hc.2 (trI_ok C h h1) hb z1 z2 z3 z4 hn
        · cases q
      · cases q
theorem frzS_ok {pos : Pos} {u f : FS} {st : Stmt} (h : PS X st (TSv T Wx u)) (q : frzS S le pos u = some f) : PS X st (TSv T Wx f) := by
  unfold frzS at q
  split at q
  · cases q; exact h
  · obtain ⟨i, hi, q⟩ := Option.map_eq_some_iff.mp q
    subst q
    exact ds_frzv i h
theorem Ctx.tr {W : WX} {pn : List (Addr × Obj)} {xe : Value → Shared → Prop} (C : Ctx S T tf tfm Wx X le) (tk : Takes (X.tr pn xe) W) : Ctx S T tf tfm W (X.tr pn xe) le :=
  { hK := C.hK, calm := C.calm, N := C.N, nd := C.nd, sc := C.sc, kind := C.kind, fn := C.fn, room := C.room, tk := tk, gcs := C.gcs, blt := C.blt, fld := C.fld,
    exs := fun x c h => let e := C.exs x c h; ⟨e.made, e.glob, e.keep, e.rs⟩, exm := C.exm, kin := C.kin, wds := C.wds }
end
theorem trRs_ok {S : Stc} {T : Txt} {tf tfm : Nat → FF} {Wx : WX} {X : Cx} {le : LE} {te : Expr → Option FE} (C : Ctx S T tf tfm Wx X le) (h : TeOk T Wx X te) {x : Str} {c : Nat} {a : Expr} {p p2 pos : Pos} {f : FS} (hx : S.exs.lookup x = some c) (hg : le.gl x = true) (q : trRs le te c a = some f) : PS X (.Raise (some (.Call (.Name x p) [a] [] p2)) none pos) (TSv T Wx f) := by
  unfold trRs at q
  split at q
  · split at q
    · rename_i hc
      rw [Bool.and_eq_true, Bool.and_eq_true] at hc
      obtain ⟨⟨c1, c2⟩, c3⟩ := hc
      cases beq_iff_eq.mp c1
      obtain ⟨f1, h1, q⟩ := Option.map_eq_some_iff.mp q
      subst q
      exact ds_raiseS C.hK C.un C.calm C.tk (C.exs _ _ hx) (C.glX hg) (okName_of (LE.gl_ok hg)).1 (C.glX c2) (C.blt _ (by decide)) (h _ _ h1) c3
    · cases q
  · cases q
theorem lkS_ok {S : Stc} {T : Txt} {Wx : WX} {X : Cx} {s : Stmt} {u : FS} (h : PS X s (TSv T Wx u)) : PS X s (TSv T Wx (lkS S s u)) := by
  unfold lkS
  split
  · exact ds_lockP _ _ h
  · exact h
theorem stkS_ok {S : Stc} {T : Txt} {Wx : WX} {X : Cx} {s : Stmt} {o : Option FS} {f : FS} (q : stkS S s o = some f) (h : ∀ f, o = some f → PS X s (TSv T Wx f)) : PS X s (TSv T Wx f) := by
  cases o with
  | none => cases q; exact ds_never
  | some g => cases q; exact lkS_ok (h _ rfl)
theorem trS_ok {S : Stc} {T : Txt} {tf tfm : Nat → FF} {le : LE} {m : Nat} : ∀ (n : Nat) {Wx : WX} {X : Cx}, Ctx S T tf tfm Wx X le → PassesOwn (model X.prog X.w) X.A X.env X.xe → X.stack = X.env :: X.outer → X.env.frame = some X.env.locals → TsOk T Wx X (trS S tf tfm m le n)
  | 0, _, _, _, _, _, _, s, f, q => by cases q
  | n + 1, Wx, X, C, hp, hst, hfr, s, f, q => by
    have h : TeOk T Wx X (trE S tf tfm m le) := trE_ok m C
    have ih : TsOk T Wx X (trS S tf tfm m le n) := trS_ok n C hp hst hfr
    unfold trS at q
    simp only [] at q
    revert f; intro f0 q1; refine stkS_ok q1 fun f q => ?_; clear q1; clear f0
    split at q
    · split at q
      · cases q; exact ds_doc
      · split at q
        · rename_i hn
          obtain ⟨f1, h1, q⟩ := Option.map_eq_some_iff.mp q
          subst q
          exact ds_expr (h _ _ h1) hn
        · cases q
    · split at q
      · obtain ⟨f1, h1, q⟩ := Option.map_eq_some_iff.mp q
        subst q
        exact ds_ret (h _ _ h1)
      · cases q; exact ds_retN
    · cases q; exact ds_pass
    · cases q; exact ds_break
    · cases q; exact ds_cont
    · obtain ⟨f1, h1, q⟩ := Option.bind_eq_some_iff.mp q
      obtain ⟨f2, h2, q⟩ := Option.bind_eq_some_iff.mp q
      obtain ⟨f3, h3, q⟩ := Option.map_eq_some_iff.mp q
      subst q
      exact ds_if (trT_ok C h m _ _ h1) (trSs_ok ih h2) (trSs_ok ih h3)
    · split at q
      · exact trAsg_ok C q
      · cases q
    · split at q
      rotate_left
      · cases q
      rename_i hop
      split at q
      · split at q
        rotate_left
        · cases q
        rename_i hl
        obtain ⟨i, hi, q⟩ := Option.bind_eq_some_iff.mp q
        obtain ⟨f1, h1, q⟩ := Option.map_eq_some_iff.mp q
        subst q
        obtain ⟨l1, l2⟩ := C.locX hl
        exact ds_aug hop C.nd (by rw [C.N]; exact LE.ix_of hi) l1 (h _ _ h1) l2
      · rename_i o fl p
        obtain ⟨f2, h2, q⟩ := Option.bind_eq_some_iff.mp q
        obtain ⟨f1, h1, q⟩ := Option.map_eq_some_iff.mp q
        subst q
        have key := fun pos => ds_fldaug (pos := pos) (tpos := p) (l := fl.cps.toList) hop C.hK (fun c hc => by rw [nmS_of]; exact C.fld _ _ hc) (h _ _ h2) (h _ _ h1)
        rw [nmS_of] at key
        exact key _
      · cases q
    · split at q
      · split at q
        · rename_i hn
          split at q
          · obtain ⟨fv, h1, q⟩ := Option.bind_eq_some_iff.mp q
            obtain ⟨g, h2, q⟩ := Option.bind_eq_some_iff.mp q
            obtain ⟨u, h3, q⟩ := Option.map_eq_some_iff.mp q
            subst q
            exact ds_forV hp C.calm (di_live C.hK (h _ _ h1)) (trG_ok C h m _ _ h2).1 (trSs_ok ih h3) hn
          · obtain ⟨fi, h1, q⟩ := Option.bind_eq_some_iff.mp q
            obtain ⟨g, h2, q⟩ := Option.bind_eq_some_iff.mp q
            obtain ⟨u, h3, q⟩ := Option.bind_eq_some_iff.mp q
            exact frzS_ok (ds_for hp C.calm (trI_ok C h h1) (trG_ok C h m _ _ h2).1 (trSs_ok ih h3) hn) q
        · cases q
      · cases q
    · split at q
      · obtain ⟨f1, h1, q⟩ := Option.bind_eq_some_iff.mp q
        obtain ⟨u, h3, q⟩ := Option.map_eq_some_iff.mp q
        subst q
        exact ds_while hp (trT_ok C h m _ _ h1) (trSs_ok ih h3)
      · cases q
    · split at q
      · split at q
        · rename_i hg
          rw [Bool.and_eq_true] at hg
          split at q
          · rename_i c hx
            split at q
            · exact trRs_ok C h hx hg.1 q
            · obtain ⟨f1, h1, q⟩ := Option.map_eq_some_iff.mp q
              subst q
              exact ds_raise C.calm C.tk (C.exs _ _ hx) (C.glX hg.1) (okName_of (LE.gl_ok hg.1)).1 (h _ _ h1) hg.2
          · cases q; exact ds_never
        · cases q; exact ds_never
      · cases q; exact ds_never
    · split at q
      · split at q
        · rename_i hg
          obtain ⟨l, hl, q⟩ := Option.bind_eq_some_iff.mp q
          obtain ⟨p, hk, q⟩ := Option.bind_eq_some_iff.mp q
          obtain ⟨u, hu, q⟩ := Option.map_eq_some_iff.mp q
          subst q
          obtain ⟨cl, hm, he⟩ := C.exm _ _ hl
          exact ds_try hst hfr ⟨C.glX hg, (okName_of (LE.gl_ok hg)).1, .inl hm⟩ C.tk he (fun W pn xe tk hp' => trSs_ok (trS_ok n (C.tr tk) hp' hst hfr) hu) fun a oe pn => dss_cons (ds_ret (constP_ok hk)) dss_nil
        · cases q
      · split at q
        · rename_i hg
          simp only [Bool.and_eq_true, decide_eq_true_eq] at hg
          obtain ⟨⟨⟨⟨⟨g1, g2⟩, rfl⟩, g4⟩, g6⟩, g5⟩ := hg
          obtain ⟨l, hl, q⟩ := Option.bind_eq_some_iff.mp q
          obtain ⟨kl, hk, q⟩ := Option.bind_eq_some_iff.mp q
          obtain ⟨i, hi, q⟩ := Option.bind_eq_some_iff.mp q
          obtain ⟨u, hu, q⟩ := Option.map_eq_some_iff.mp q
          subst q
          obtain ⟨cl, hm, he⟩ := C.exm _ _ hl
          rw [← C.sc] at g6
          obtain ⟨_, k, _, hr, _⟩ := C.room
          exact ds_tryK hst hfr C.nd (by rw [C.N]; exact LE.ix_of hi) g6 ⟨C.glX g1, (okName_of (LE.gl_ok g1)).1, .inl hm⟩ C.tk he (fun W pn xe tk hp' => trSs_ok (trS_ok n (C.tr tk) hp' hst hfr) hu) ((L2H.roomH_of hr).mono (Nat.le_add_left 1 k)) (C.glX g2) (C.kin _ _ hk) (okName_of (LE.gl_ok g2)).1 (.inl g6) (okName_of g5).1 (okName_of g5).2.1
        · cases q
      · cases q
    · cases q
end Pv
/-! Pv, part Q: a text's defs, level by level. -/
namespace Pv
open PySem PySem.Spec PyProof.Rows PySem.SeqAt L2

/-- a def of the text: its name, its qualified name, its statement, its slots, its parameters -/
structure DefI where
  name : Str
  qual : Str
  st : Stmt
  N : List Str
  ps : List Str
def ffStuck : FF := fun _ _ => .stuck
def trB (S : Stc) (tf tfm : Nat → FF) (d : DefI) : Option FS := trSs (trS S tf tfm 40 ⟨d.N, defScope d.st, none⟩ 20) (defBody d.st)
def evb (S : Stc) (D : List DefI) (tf tfm : Nat → FF) (j : Nat) : FF := match D[j]? with
  | some d => match trB S tf tfm d with
    | some f => fnF d.ps.length d.N.length f
    | none => ffStuck
  | none => ffStuck
/-- the tables of level i: what a body of that level calls, what a class that it makes calls -/
def ev2 (S : Stc) (D : List DefI) : Nat → (Nat → FF) × (Nat → FF)
  | 0 => (fun _ => ffStuck, fun _ => ffStuck)
  | i + 1 => (evb S D (ev2 S D i).1 (ev2 S D i).2, (ev2 S D i).1)

/-- an own exception class in the written part -/
structure ExF (K : PySem.W.Frag) (mg : Str → Option Value) (x : Str) (C : Addr) : Prop where
  made : ∃ (B newId initId : String) (bmB : List Value), ExcBaseFacts B newId initId bmB ∧ PySem.W.excIn K C bmB newId = true
  glob : mg x = some (.ref C)
  keep : PySem.W.keepIn K (.ref C) = true
  sub : PySem.W.subIn K (.ref C) (.type "BaseException") = some true
  typ : PySem.W.typeIn K (.ref C) = some (.type "type")
/-- what the written part says of the text -/
structure Prog (S : Stc) (D : List DefI) (w : World) (K : PySem.W.Frag) (mg : Str → Option Value) (T : Txt) (fa : Nat → Addr) (fd : Nat → FuncData) : Prop where
  tK : T.K = K
  funs : ∀ (j : Nat) d, D[j]? = some d → L2.Fun K d.name d.qual d.st (fa j) (fd j)
  scs : ∀ (j : Nat) d, D[j]? = some d → FnScope d.N d.ps (defScope d.st)
  bnd : ∀ (j : Nat) d, D[j]? = some d → Binds K (fd j) d.ps []
  fns : ∀ x j, S.fns.lookup x = some j → (∃ d, D[j]? = some d) ∧ mg x = some (.ref (fa j))
  mks : ∀ x c j, S.mks.lookup x = some (c, j) → (∃ d, D[j]? = some d) ∧ Mk K (T.cl c) (fa j) ∧ mg x = some (.ref (T.cl c)) ∧ Cls K (T.cl c)
  mts : ∀ m c j, S.mt m c = some j → (∃ d, D[j]? = some d) ∧ Meth K (T.cl c) m (fa j)
  gcs : ∀ x p, S.gcs.lookup x = some p → ∃ v u, mg x = some u ∧ RelV v u ∧ Fixed T.K p v
  blt : ∀ x ∈ bltNames, mg x = none
  fld : ∀ l c, S.fldOk l c = true → NoAttr T.K (T.cl c) l
  exs : ∀ x c, S.exs.lookup x = some c → ExF K mg x (T.cl c)
  exm : ∀ x l, S.exm.lookup x = some l → ∃ C, mg x = some (.ref C) ∧ ∀ n b, l.lookup n = some b → PySem.W.exmOne K (.ref (T.cl n)) (.ref C) = some b
  kin : ∀ (P : Program) (base : Heap) x kl, S.kin.lookup x = some kl → ∀ m ys, kl.lookup m = some ys → ∃ f fd y, FnHot P w K mg base T f fd y (T.cl m) ys ∧ mg x = some (.ref f) ∧ PySem.W.keepIn K (.ref f) = true ∧ Binds K fd [y] []
  wds : ∀ x tb, S.wds.lookup x = some tb → ∃ d, mg x = some (.ref d) ∧ ∀ z q, tb.lookup z = some q → ∃ v, KDct K w d ⟨z.toArray⟩ v ∧ Fixed T.K q v
theorem fn_stuck {P : Program} {w : World} {K : PySem.W.Frag} {mg : Str → Option Value} {base : Heap} {T : Txt} {CX : CXT} {k : Nat} {f : Addr} {fd : FuncData} {ps : List Str} : FnOk P w K mg base CX k f fd ps (spF T ffStuck) :=
  ⟨fun vs H Q E ⟨_, _, _, _, _, q⟩ => q.elim, fun A outer s H args us vs Q E _ _ _ _ ⟨_, _, _, _, _, q⟩ => q.elim⟩
section
variable {S : Stc} {D : List DefI} {P : Program} {w : World} {K : PySem.W.Frag} {mg : Str → Option Value} {base : Heap} {T : Txt} {fa : Nat → Addr} {fd : Nat → FuncData}
def LevR (P : Program) (w : World) (K : PySem.W.Frag) (mg : Str → Option Value) (base : Heap) (T : Txt) (D : List DefI) (fa : Nat → Addr) (fd : Nat → FuncData) (R : Around → Prop) (tf : Nat → FF) : Prop :=
  ∀ (j : Nat) d, D[j]? = some d → FnR P w K mg base R (fa j) (fd j) d.ps (spF T (tf j))
theorem evb_ok (G : Prog S D w K mg T fa fd) {R R' : Around → Prop} {k : Nat} {tf tfm : Nat → FF} (hR : ∀ A, R A → A.handled = none ∧ A.depth < recursionLimit ∧ ∀ env, R' (A.deeper env)) (hk : ∀ A, R' A → Room (k + 1) A)
    (h1 : LevR P w K mg base T D fa fd R' tf) (h0 : LevR P w K mg base T D fa fd (Room k) tfm) : LevR P w K mg base T D fa fd R (evb S D tf tfm) := by
  intro j d hd
  have hF := G.funs j d hd
  have hS := G.scs j d hd
  unfold evb
  simp only [hd]
  cases ht : trB S tf tfm d with
  | none => exact FnR.of (k := 0) (fn_stuck) fun A h => Room.mono (hk _ ((hR A h).2.2 default)) (Nat.zero_le _) |> fun r => ⟨(hR A h).1, by have := r.dp; have e : (A.deeper default).depth = A.depth + 1 := rfl; omega, by have := r.un; have e : (A.deeper default).units = A.units + 3 := rfl; omega⟩
  | some f =>
    simp only []
    refine fn_okR hF hS hR fun cdv A outer s H E hr => ?_
    have C : Ctx S T tf tfm (fun cls d _ H => E cls d H) (cxOf (L2.CX P w) P w K mg base d.N d.qual (defScope d.st) (fa j) cdv A outer s H E) ⟨d.N, defScope d.st, none⟩ :=
      { hK := G.tK, calm := rfl, N := rfl, nd := hS.nd, sc := rfl, kind := hS.kind, fn := fun _ _ => rfl,
        room := ⟨R', k, hr, hk _ hr, fun x j' e => by
          obtain ⟨⟨d', hd'⟩, m⟩ := G.fns x j' e
          exact ⟨_, _, _, h1 j' d' hd', m, (G.funs j' d' hd').kp, G.bnd j' d' hd'⟩, fun x c j' e => by
          obtain ⟨⟨d', hd'⟩, m1, m2, m3⟩ := G.mks x c j' e
          exact ⟨_, _, _, (h0 j' d' hd').ok fun _ h => h, m1, m2, G.bnd j' d' hd', m3⟩, fun m c j' e => by
          obtain ⟨⟨d', hd'⟩, m1⟩ := G.mts m c j' e
          exact ⟨_, _, _, h1 j' d' hd', m1, G.bnd j' d' hd'⟩⟩,
        tk := takes_of rfl rfl rfl rfl, gcs := G.gcs, blt := G.blt, fld := G.fld,
        exs := fun x c h => let e := G.exs x c h; ⟨e.made, e.glob, e.keep, raises_own e.sub e.typ⟩, exm := G.exm, kin := G.kin _ _, wds := G.wds }
    exact trSs_ok (trS_ok 20 C (passes_of rfl) rfl rfl) ht
theorem room_go {k : Nat} (A : Around) (h : Room (k + 1) A) : A.handled = none ∧ A.depth < recursionLimit ∧ ∀ env, Room k (A.deeper env) := ⟨h.hd, h.depth, h.deeper⟩
theorem stuckR {R : Around → Prop} {k : Nat} (h : ∀ A, R A → Room k A) : LevR P w K mg base T D fa fd R fun _ => ffStuck := fun _ _ _ => .of fn_stuck h
theorem lev_ok (G : Prog S D w K mg T fa fd) : ∀ i, LevR P w K mg base T D fa fd (Room (i + 1)) (ev2 S D i).1 ∧ LevR P w K mg base T D fa fd (Room i) (ev2 S D i).2
  | 0 => ⟨stuckR fun _ h => h, stuckR fun _ h => h⟩
  | i + 1 => by
    obtain ⟨h1, h0⟩ := lev_ok G i
    exact ⟨evb_ok G room_go (fun _ h => h) h1 h0, h1⟩
/-! where calls lie deep: a frame a call -/
structure Rm (i : Nat) (A : Around) : Prop where
  hd : A.handled = none
  dp : A.depth + i + 40 < recursionLimit
  un : A.units + 5 * i + 400 < cLine
theorem Rm.room {i : Nat} {A : Around} (h : Rm i A) : Room 5 A := ⟨h.hd, by have := h.dp; omega, by have := h.un; omega⟩
theorem Rm.go {i : Nat} (A : Around) (h : Rm (i + 1) A) : A.handled = none ∧ A.depth < recursionLimit ∧ ∀ env, Rm i (A.deeper env) :=
  ⟨h.hd, by have := h.dp; omega, fun env => ⟨h.hd, by have := h.dp; show A.depth + 1 + i + 40 < _; omega, by have := h.un; show A.units + 3 + 5 * i + 400 < _; omega⟩⟩
/-- the tables of level i, where calls lie deep; what a class that is made calls is of level 3 -/
def evd (S : Stc) (D : List DefI) : Nat → Nat → FF
  | 0 => fun _ => ffStuck
  | i + 1 => evb S D (evd S D i) (ev2 S D 3).1
theorem levd_ok (G : Prog S D w K mg T fa fd) : ∀ i, LevR P w K mg base T D fa fd (Rm i) (evd S D i)
  | 0 => stuckR fun _ h => h.room
  | i + 1 => evb_ok G (k := 4) Rm.go (fun _ h => h.room) (levd_ok G i) (lev_ok G 3).1
/-- nothing is let out at the head -/
theorem no_cx {H : Hp} {s : Shared} {e : Value} {s' : Shared} (h : L2.CX P w [] H s (fun _ _ _ => False) e s') : False := by
  obtain ⟨_, _, _, _, _, _, _, _, _, _, _, _, z⟩ := h
  exact z
/-- the law's def answers True at every script -/
def Law (S : Stc) (D : List DefI) (j i most : Nat) : Prop := ∀ ns : List Int, ns.length ≤ most → ∃ st, (ev2 S D i).1 j [.scr (ns.map .int)] [] = .ok (.bl true) st
theorem sp_law {i j most : Nat} (h : Law S D j i most) (hK : T.K = K) {H : Hp} {a : Addr} {ns : List Int} (hl : ns.length ≤ most) (hO : Only H) (hS : SqL K H a (ns.map V.int)) :
    spF T ((ev2 S D i).1 j) [.ref a] H (fun v _ => v = .bl true) fun _ _ _ => False := by
  subst hK
  obtain ⟨st, e⟩ := h ns hl
  refine ⟨⟨H, []⟩, [.scr (ns.map .int)], [], ⟨fun _ _ h => h, List.nodup_nil, rfl, fun _ h => absurd h (by simp), fun n a c h => by simp at h, fun n a c h => by simp at h⟩, ⟨.ref a, [], rfl, ⟨a, _, rfl, hS, reps_ints ns⟩, rfl⟩, ?_⟩
  rw [e]
  exact fun W' H' g S' v rv => rv
theorem walk {l : PySem.W.OpenLaw} {n : Nat} {q : Program} {loose : List Str} {XP : (Str → Option Value) → Heap → Prop} {YP : World → Heap → Prop} {dr : DefRec} {j i : Nat} {x : Str}
    (hn : l.most = some n) (hn2 : n ≤ sizeLine) (hdf : dr.params.defaults = []) (hr : Room (i + 1) callerA) (hl : Law S D j i n)
    (hd : ∃ d, D[j]? = some d ∧ d.ps = [x])
    (F : ∀ (w : World) (mg : Str → Option Value) (f : Addr) (h : Heap), YP w h → h.Ns mainGlobals mg → mg dr.name = some (.ref f) →
      ∃ (K : PySem.W.Frag) (T : Txt) (fa : Nat → Addr) (fd : Nat → FuncData), K.In h ∧ fa j = f ∧ (∀ (s : Shared) (u : Value), BindsTo s (fd j) ⟨[u], []⟩ [(x, u)]) ∧ Prog S D w K mg T fa fd) :
    PySem.W.WalkO q loose XP YP l.row.toRowW dr [] (fun f vs => PySem.call f vs) := by
  obtain ⟨d, hd, hx⟩ := hd
  refine Att.attach_call hn hdf fun w s₀ s₁ mg mb f o pm cd doc a vs ns G Y ho hdd hcd hmg hobj hints hlen hg => ?_
  obtain ⟨K, T, fa, fd, KX, e, hb, PG⟩ := F w mg f _ Y G.T.g hmg
  subst e
  refine law_call (CX := L2.CX l.prog w) (sp := spF T ((ev2 S D i).1 j)) KX G.T.g G.T.b G.T.builtins G.T.nolimit hg hobj hints (Nat.le_trans hlen hn2) hr (fun base _ _ => ?_) hb (fun H hO hS => sp_law hl PG.tK hlen hO hS) fun H e s' => no_cx
  have := ((lev_ok (P := l.prog) (w := w) (base := base) PG i).1 j d hd).ok fun _ h => h
  rw [hx] at this
  exact this
/-- the same, where calls lie deep -/
def LawD (S : Stc) (D : List DefI) (j i most : Nat) : Prop := ∀ ns : List Int, ns.length ≤ most → ∃ st, evd S D i j [.scr (ns.map .int)] [] = .ok (.bl true) st
theorem sp_lawD {i j most : Nat} (h : LawD S D j i most) (hK : T.K = K) {H : Hp} {a : Addr} {ns : List Int} (hl : ns.length ≤ most) (hO : Only H) (hS : SqL K H a (ns.map V.int)) :
    spF T (evd S D i j) [.ref a] H (fun v _ => v = .bl true) fun _ _ _ => False := by
  subst hK
  obtain ⟨st, e⟩ := h ns hl
  refine ⟨⟨H, []⟩, [.scr (ns.map .int)], [], ⟨fun _ _ h => h, List.nodup_nil, rfl, fun _ h => absurd h (by simp), fun n a c h => by simp at h, fun n a c h => by simp at h⟩, ⟨.ref a, [], rfl, ⟨a, _, rfl, hS, reps_ints ns⟩, rfl⟩, ?_⟩
  rw [e]
  exact fun W' H' g S' v rv => rv
theorem walkD {l : PySem.W.OpenLaw} {n : Nat} {q : Program} {loose : List Str} {XP : (Str → Option Value) → Heap → Prop} {YP : World → Heap → Prop} {dr : DefRec} {j i k : Nat} {x : Str}
    (hn : l.most = some n) (hn2 : n ≤ sizeLine) (hdf : dr.params.defaults = []) (hr : Room k callerA) (hk : i + 35 ≤ 3 * k ∧ 5 * i + 200 ≤ 16 * k) (hl : LawD S D j i n)
    (hd : ∃ d, D[j]? = some d ∧ d.ps = [x])
    (F : ∀ (w : World) (mg : Str → Option Value) (f : Addr) (h : Heap), YP w h → h.Ns mainGlobals mg → mg dr.name = some (.ref f) →
      ∃ (K : PySem.W.Frag) (T : Txt) (fa : Nat → Addr) (fd : Nat → FuncData), K.In h ∧ fa j = f ∧ (∀ (s : Shared) (u : Value), BindsTo s (fd j) ⟨[u], []⟩ [(x, u)]) ∧ Prog S D w K mg T fa fd) :
    PySem.W.WalkO q loose XP YP l.row.toRowW dr [] (fun f vs => PySem.call f vs) := by
  obtain ⟨d, hd, hx⟩ := hd
  refine Att.attach_call hn hdf fun w s₀ s₁ mg mb f o pm cd doc a vs ns G Y ho hdd hcd hmg hobj hints hlen hg => ?_
  obtain ⟨K, T, fa, fd, KX, e, hb, PG⟩ := F w mg f _ Y G.T.g hmg
  subst e
  refine law_call (CX := L2.CX l.prog w) (sp := spF T (evd S D i j)) KX G.T.g G.T.b G.T.builtins G.T.nolimit hg hobj hints (Nat.le_trans hlen hn2) hr (fun base _ _ => ?_) hb (fun H hO hS => sp_lawD hl PG.tK hlen hO hS) fun H e s' => no_cx
  have := ((levd_ok (P := l.prog) (w := w) (base := base) PG i) j d hd).ok (k := k) fun A h => ⟨h.hd, by have := h.dp; omega, by have := h.un; omega⟩
  rw [hx] at this
  exact this
end
end Pv
/-! Pv, part S: the text's facts as lists. -/
namespace Pv
open PySem PySem.Spec PyProof.Rows PySem.SeqAt L2
section
variable {S : Stc} {D : List DefI} {K : PySem.W.Frag} {mg : Str → Option Value}
def AllF (K : PySem.W.Frag) : List DefI → List (Addr × FuncData) → Prop
  | [], _ => True
  | d :: ds, (a, f) :: r => (L2.Fun K d.name d.qual d.st a f ∧ Binds K f d.ps []) ∧ AllF K ds r
  | _ :: _, [] => False
def faOf (l : List (Addr × FuncData)) (j : Nat) : Addr := match l[j]? with
  | some p => p.1
  | none => 0
def fdOf (dflt : FuncData) (l : List (Addr × FuncData)) (j : Nat) : FuncData := match l[j]? with
  | some p => p.2
  | none => dflt
theorem AllF.at {dflt : FuncData} : ∀ {D : List DefI} {l : List (Addr × FuncData)}, AllF K D l → ∀ {j : Nat} {d : DefI}, D[j]? = some d → L2.Fun K d.name d.qual d.st (faOf l j) (fdOf dflt l j) ∧ Binds K (fdOf dflt l j) d.ps []
  | [], _, _, j, d, h => by simp at h
  | _ :: _, [], z, _, _, _ => z.elim
  | x :: ds, (a, f) :: r, z, 0, d, h => by
    have h : x = d := by simpa using h
    subst h
    exact z.1
  | x :: ds, (a, f) :: r, z, j + 1, d, h => AllF.at (dflt := dflt) (l := r) z.2 (j := j) (by simpa using h)
def fnScopeB (d : DefI) : Bool :=
  let sc := defScope d.st
  (match sc.kind with | .function => true | _ => false) && !sc.isCoroutine && !sc.isGenerator && decide d.N.Nodup && decide (d.N.take d.ps.length = d.ps) &&
    (d.ps.all fun x => decide (sc.names.lookup x = some .local) || decide (sc.names.lookup x = some .cell)) && (sc.names.all fun y => decide (y.2 ≠ .free))
theorem fnScope_of {d : DefI} (h : fnScopeB d = true) : FnScope d.N d.ps (defScope d.st) := by
  unfold fnScopeB at h
  simp only [Bool.and_eq_true, decide_eq_true_eq, Bool.not_eq_true', List.all_eq_true, Bool.or_eq_true] at h
  obtain ⟨⟨⟨⟨⟨⟨h1, h2⟩, h3⟩, h4⟩, h5⟩, h6⟩, h7⟩ := h
  refine ⟨?_, h2, h3, h4, h5, h6, h7⟩
  split at h1
  · assumption
  · cases h1
def AllG (mg : Str → Option Value) (fa : Nat → Addr) : List (Str × Nat) → Prop
  | [] => True
  | (x, j) :: r => mg x = some (.ref (fa j)) ∧ AllG mg fa r
theorem lookup_mem {α β : Type} [BEq α] [LawfulBEq α] {x : α} {y : β} : ∀ {l : List (α × β)}, l.lookup x = some y → (x, y) ∈ l
  | [], h => by cases h
  | (a, b) :: r, h => by
    unfold List.lookup at h
    split at h
    · rename_i e
      cases h
      rw [beq_iff_eq.mp e]
      exact List.mem_cons_self
    · exact List.mem_cons_of_mem _ (lookup_mem h)
theorem AllG.at {fa : Nat → Addr} : ∀ {l : List (Str × Nat)}, AllG mg fa l → ∀ {x : Str} {j : Nat}, (x, j) ∈ l → mg x = some (.ref (fa j))
  | [], _, _, _, h => absurd h (by simp)
  | (y, i) :: r, z, x, j, h => by
    rcases List.mem_cons.mp h with e | h
    · cases e; exact z.1
    · exact AllG.at z.2 h
/-- constants: as they stand in the globals -/
def ConG (K : PySem.W.Frag) (mg : Str → Option Value) : List (Str × PV) → Prop
  | [] => True
  | (x, p) :: r => (∃ v u, mg x = some u ∧ RelV v u ∧ Fixed K p v) ∧ ConG K mg r
theorem ConG.at : ∀ {l : List (Str × PV)}, ConG K mg l → ∀ {x : Str} {p : PV}, (x, p) ∈ l → ∃ v u, mg x = some u ∧ RelV v u ∧ Fixed K p v
  | [], _, _, _, h => absurd h (by simp)
  | (y, i) :: r, z, x, j, h => by
    rcases List.mem_cons.mp h with e | h
    · cases e; exact z.1
    · exact ConG.at z.2 h
theorem con_int {x : Str} {i : Int} {t : Tok} (h : mg x = some (.int i t)) : ∃ v u, mg x = some u ∧ RelV v u ∧ Fixed K (.int i) v := ⟨.int i, _, h, ⟨t, rfl⟩, fun _ => rfl⟩
theorem con_str {x : Str} {s : List Nat} {t : Tok} (h : mg x = some (.str ⟨s.toArray⟩ t)) (hz : s.length ≤ 100000) : ∃ v u, mg x = some u ∧ RelV v u ∧ Fixed K (.str s) v := ⟨strV s, _, h, ⟨t, rfl⟩, fun _ => ⟨rfl, by rw [sizeLine_eq]; omega⟩⟩
theorem con_bl {x : Str} {b : Bool} (h : mg x = some (.bool b)) : ∃ v u, mg x = some u ∧ RelV v u ∧ Fixed K (.bl b) v := ⟨.bl b, _, h, rfl, fun _ => rfl⟩
theorem con_tup1 {x : Str} {a : Addr} {d : Option Addr} {s : List Nat} {t : Tok} {n : Nat} {sl : Array (Option Value)} (h : mg x = some (.ref a)) (hk : K.lookup a = some ⟨.type "tuple", d, .seq #[.str ⟨s.toArray⟩ t] n, sl⟩) (hz : s.length ≤ 100000) : ∃ v u, mg x = some u ∧ RelV v u ∧ Fixed K (.tup [.str s]) v :=
  ⟨.ref a, _, h, rfl, fun W => ⟨a, [strV s], rfl, .inr ⟨_, _, _, hk, rfl, rfl, by rw [sizeLine_eq]; simp, .cons ⟨t, rfl⟩ .nil⟩, strV s, [], rfl, ⟨rfl, by rw [sizeLine_eq]; omega⟩, rfl⟩⟩
/-- a class: its methods, fields, its making -/
structure ClsG (S : Stc) (D : List DefI) (K : PySem.W.Frag) (mg : Str → Option Value) (cl : Nat → Addr) (fa : Nat → Addr) : Prop where
  mks : ∀ x c j, (x, c, j) ∈ S.mks → Mk K (cl c) (fa j) ∧ mg x = some (.ref (cl c)) ∧ Cls K (cl c)
  mts : ∀ m l c j, (m, l) ∈ S.mts → (c, j) ∈ l → Meth K (cl c) m (fa j)
  fld : ∀ f l c, (f, l) ∈ S.flds → c ∈ l → NoAttr K (cl c) f
def tabsB (S : Stc) (D : List DefI) : Bool := (S.fns.all fun p => decide (p.2 < D.length)) && (S.mks.all fun p => decide (p.2.2 < D.length)) && (S.mts.all fun p => p.2.all fun q => decide (q.2 < D.length)) && D.all fnScopeB
/-- what except names, when the class is the very one -/
theorem exm_own {C : Addr} (hb : PySem.W.subIn K (.ref C) (.type "BaseException") = some true) (hc : PySem.W.isClsIn K C = true) (ht : PySem.W.typeIn K (.ref C) = some (.type "type")) (hs : PySem.W.subIn K (.ref C) (.ref C) = some true) : PySem.W.exmOne K (.ref C) (.ref C) = some true := by
  have q : (PySem.W.clsIn K C).isSome = true := hc
  unfold PySem.W.exmOne
  rw [hb, if_pos (beq_self_eq_true _)]
  show (if ((PySem.W.clsIn K C).isSome && (PySem.W.typeIn K (.ref C) == some (.type "type"))) = true then _ else none) = _
  rw [q, ht, if_pos (by rw [Bool.true_and]; exact beq_self_eq_true _)]
  exact hs
/-- the values of a written dict -/
def WdV (K : PySem.W.Frag) (d : Addr) : List (List Nat × PV) → Prop
  | [] => True
  | (z, q) :: r => (∃ v u, PySem.W.nsIn K d ⟨z.toArray⟩ = some (some u) ∧ RelV v u ∧ Fixed K q v) ∧ WdV K d r
theorem WdV.at {d : Addr} : ∀ {tb : List (List Nat × PV)}, WdV K d tb → ∀ {z : List Nat} {q : PV}, (z, q) ∈ tb → ∃ v u, PySem.W.nsIn K d ⟨z.toArray⟩ = some (some u) ∧ RelV v u ∧ Fixed K q v
  | [], _, _, _, h => absurd h (by simp)
  | (y, i) :: r, z, x, p, h => by
    rcases List.mem_cons.mp h with e | h
    · cases e; exact z.1
    · exact WdV.at z.2 h
theorem wdv_cons {d : Addr} {z s : List Nat} {x : Str} {t : Tok} {tb : List (List Nat × PV)} (e : x = ⟨z.toArray⟩) (h : PySem.W.nsIn K d x = some (some (.str ⟨s.toArray⟩ t))) (hz : s.length ≤ 100000) (r : WdV K d tb) : WdV K d ((z, .str s) :: tb) :=
  ⟨⟨strV s, _, e ▸ h, ⟨t, rfl⟩, fun _ => ⟨rfl, by rw [sizeLine_eq]; omega⟩⟩, r⟩
theorem wd_of {w : World} {d : Addr} {es : Array DictEntry} {n : Nat} {x : Str} {tb : List (List Nat × PV)} (hm : mg x = some (.ref d)) (hl : K.lookup d = some ⟨.type "dict", none, .dict es n, #[]⟩) (hk : PySem.W.KeysLit w.params es.toList) (hv : WdV K d tb) :
    ∃ d, mg x = some (.ref d) ∧ ∀ z q, (z, q) ∈ tb → ∃ v, KDct K w d ⟨z.toArray⟩ v ∧ Fixed K q v :=
  ⟨d, hm, fun z q h => let ⟨v, u, h1, h2, h3⟩ := hv.at h; ⟨v, ⟨es, n, u, hl, hk, h1, h2⟩, h3⟩⟩
theorem prog_of {w : World} {dflt : FuncData} {cl : Nat → Addr} {l : List (Addr × FuncData)} (ht : tabsB S D = true) (hf : AllF K D l) (hg : AllG mg (faOf l) S.fns) (hc : ConG K mg S.gcs) (hC : ClsG S D K mg cl (faOf l)) (hb : ∀ x ∈ bltNames, mg x = none)
    (he : ∀ x c, (x, c) ∈ S.exs → ExF K mg x (cl c)) (hm : ∀ x l, (x, l) ∈ S.exm → ∃ C, mg x = some (.ref C) ∧ ∀ n b, (n, b) ∈ l → PySem.W.exmOne K (.ref (cl n)) (.ref C) = some b)
    (hk : ∀ (P : Program) (base : Heap) x kl, (x, kl) ∈ S.kin → ∀ m ys, (m, ys) ∈ kl → ∃ f fd y, FnHot P w K mg base ⟨K, cl⟩ f fd y (cl m) ys ∧ mg x = some (.ref f) ∧ PySem.W.keepIn K (.ref f) = true ∧ Binds K fd [y] [])
    (hw : ∀ x tb, (x, tb) ∈ S.wds → ∃ d, mg x = some (.ref d) ∧ ∀ z q, (z, q) ∈ tb → ∃ v, KDct K w d ⟨z.toArray⟩ v ∧ Fixed K q v) :
    Prog S D w K mg ⟨K, cl⟩ (faOf l) (fdOf dflt l) := by
  unfold tabsB at ht
  simp only [Bool.and_eq_true, List.all_eq_true, decide_eq_true_eq] at ht
  obtain ⟨⟨⟨t1, t2⟩, t3⟩, t4⟩ := ht
  have there : ∀ {j : Nat}, j < D.length → ∃ d, D[j]? = some d := fun h => ⟨_, List.getElem?_eq_getElem h⟩
  refine ⟨rfl, fun j d h => (hf.at h).1, fun j d h => fnScope_of (t4 d (List.mem_of_getElem? h)), fun j d h => (hf.at h).2, fun x j h => ⟨there (t1 _ (lookup_mem h)), hg.at (lookup_mem h)⟩, fun x c j h => ?_, fun m c j h => ?_, fun x p h => hc.at (lookup_mem h), hb, fun f c h => ?_, fun x c h => he x c (lookup_mem h), fun x l h => let ⟨C, h1, h2⟩ := hm x l (lookup_mem h); ⟨C, h1, fun n b z => h2 n b (lookup_mem z)⟩, fun P base x kl h m ys z => hk P base x kl (lookup_mem h) m ys (lookup_mem z), fun x tb h => let ⟨d, h1, h2⟩ := hw x tb (lookup_mem h); ⟨d, h1, fun z q k => h2 z q (lookup_mem k)⟩⟩
  · have m := lookup_mem h
    exact ⟨there (t2 _ m), hC.mks _ _ _ m⟩
  · obtain ⟨l', h1, h2⟩ := Option.bind_eq_some_iff.mp h
    have m1 := lookup_mem h1
    have m2 := lookup_mem h2
    exact ⟨there (t3 _ m1 _ m2), hC.mts _ _ _ _ m1 m2⟩
  · unfold Stc.fldOk at h
    cases hl : S.flds.lookup f with
    | none => rw [hl] at h; cases h
    | some l' =>
      rw [hl] at h
      exact hC.fld _ _ _ (lookup_mem hl) (List.contains_iff_mem.mp h)
end
end Pv
/-! Pv, part T: rules for what an answer of the evaluator is. -/
namespace Pv
open PySem L2

/-- r answers, and so that Q (a structure, so that nobody unfolds it) -/
inductive Mk1 {α : Sort u} (a : α) : Type
  | mk
/-- r answers, so that Q, or raises, so that Z (the marks: what is wanted later is of their types, so that simp, which works on r, never looks into it) -/
def satX {α : Type} (Z : Exc → Store → Prop) (r : R α) (Q : α → Store → Prop) : Prop := match r with
  | .ok a st => Q a st
  | .ex x st => Z x st
  | .stuck => False
structure SatX {α : Type} (Z : Exc → Store → Prop) (r : R α) (Q : α → Store → Prop) (u : Mk1 Q := .mk) (w : Mk1 Z := .mk) : Prop where
  run : satX Z r Q
def satS (Z : Exc → Store → Prop) (r : SR) (nx : Sig → Store → Prop) (rt : PV → Store → Prop) : Prop := match r with
  | .nx sg st => nx sg st
  | .rt p st => rt p st
  | .ex x _ st => Z x st
  | _ => False
structure SatSX (Z : Exc → Store → Prop) (r : SR) (nx : Sig → Store → Prop) (rt : PV → Store → Prop) (u : Mk1 nx := .mk) (w : Mk1 rt := .mk) (y : Mk1 Z := .mk) : Prop where
  run : satS Z r nx rt
/-- .. and nothing is raised -/
abbrev Sat {α : Type} (r : R α) (Q : α → Store → Prop) : Prop := SatX (fun _ _ => False) r Q
abbrev SatS (r : SR) (nx : Sig → Store → Prop) (rt : PV → Store → Prop) : Prop := SatSX (fun _ _ => False) r nx rt
section
variable {α β : Type} {Z Z' : Exc → Store → Prop} {Q Q' : α → Store → Prop}
@[simp] theorem Sat_ok (a : α) (st : Store) : SatX Z (.ok a st) Q = Q a st := propext ⟨fun h => h.run, fun h => ⟨h⟩⟩
@[simp] theorem Sat_stuck : SatX Z (.stuck : R α) Q = False := propext ⟨fun h => h.run, fun h => ⟨h⟩⟩
@[simp] theorem Sat_ex (x : Exc) (st : Store) : SatX Z (.ex x st : R α) Q = Z x st := propext ⟨fun h => h.run, fun h => ⟨h⟩⟩
theorem Sat_bind (r : R α) (f : α → Store → R β) (Q : β → Store → Prop) : SatX Z (r.bind f) Q = SatX Z r fun a st => SatX Z (f a st) Q := by
  cases r with
  | ok a st => rw [Sat_ok]; rfl
  | ex x st => rw [Sat_ex]; exact Sat_ex x st
  | stuck => rw [Sat_stuck]; exact Sat_stuck
theorem SatX.imp {r : R α} (h : SatX Z r Q) (i : ∀ a st, Q a st → Q' a st) (j : ∀ x st, Z x st → Z' x st) : SatX Z' r Q' := by
  obtain ⟨h⟩ := h
  cases r with
  | ok a st => exact ⟨i _ _ h⟩
  | ex x st => exact ⟨j _ _ h⟩
  | stuck => exact ⟨h⟩
theorem SatX.mono {r : R α} (h : SatX Z r Q) (i : ∀ a st, Q a st → Q' a st) : SatX Z r Q' := h.imp i fun _ _ z => z
theorem Sat.mono {r : R α} (h : Sat r Q) (i : ∀ a st, Q a st → Q' a st) : SatX Z r Q' := SatX.imp h i fun _ _ z => z.elim
theorem Sat.ok {r : R α} (h : Sat r Q) : ∃ a st, r = .ok a st ∧ Q a st := by
  obtain ⟨h⟩ := h
  cases r with
  | ok a st => exact ⟨a, st, rfl, h⟩
  | ex x st => exact h.elim
  | stuck => exact h.elim
theorem Sat_eq {r : R α} (h : ∀ a st, Q a st = Q' a st) : SatX Z r Q = SatX Z r Q' := by
  have e : Q = Q' := funext fun a => funext fun st => h a st
  rw [e]
theorem Sat_noX (r : R α) : SatX Z (noX r) Q = Sat r Q := by
  cases r with
  | ok a st => exact (Sat_ok a st).trans (Sat_ok a st).symm
  | ex x st => exact Sat_stuck.trans (Sat_ex (Z := fun _ _ => False) x st).symm
  | stuck => exact Sat_stuck.trans Sat_stuck.symm
variable {nx nx' : Sig → Store → Prop} {rt rt' : PV → Store → Prop}
@[simp] theorem SatS_nx (sg : Sig) (st : Store) : SatSX Z (.nx sg st) nx rt = nx sg st := propext ⟨fun h => h.run, fun h => ⟨h⟩⟩
@[simp] theorem SatS_rt (p : PV) (st : Store) : SatSX Z (.rt p st) nx rt = rt p st := propext ⟨fun h => h.run, fun h => ⟨h⟩⟩
@[simp] theorem SatS_stuck : SatSX Z .stuck nx rt = False := propext ⟨fun h => h.run, fun h => h.elim⟩
@[simp] theorem SatS_ex (x : Exc) (sg : Sig) (st : Store) : SatSX Z (.ex x sg st) nx rt = Z x st := propext ⟨fun h => h.run, fun h => ⟨h⟩⟩
@[simp] theorem SatS_bk (sg : Sig) (st : Store) : SatSX Z (.bk sg st) nx rt = False := propext ⟨fun h => h.run, fun h => h.elim⟩
@[simp] theorem SatS_ct (sg : Sig) (st : Store) : SatSX Z (.ct sg st) nx rt = False := propext ⟨fun h => h.run, fun h => h.elim⟩
theorem SatS_bindE (r : R α) (sg : Sig) (k : α → Store → SR) : SatSX Z (bindE r sg k) nx rt = SatX Z r fun a st => SatSX Z (k a st) nx rt := by
  cases r with
  | ok a st => rw [Sat_ok]; rfl
  | ex x st => rw [Sat_ex]; exact SatS_ex x sg st
  | stuck => rw [Sat_stuck]; exact SatS_stuck
theorem SatS_seq (r : SR) (v : FS) : SatSX Z (seqR r v) nx rt = SatSX Z r (fun sg st => SatSX Z (v sg st) nx rt) rt := by
  cases r with
  | nx sg st => rw [SatS_nx]; rfl
  | rt p st => rw [SatS_rt]; exact SatS_rt p st
  | bk sg st => rw [SatS_bk]; exact SatS_bk sg st
  | ct sg st => rw [SatS_ct]; exact SatS_ct sg st
  | ex x sg st => rw [SatS_ex]; exact SatS_ex x sg st
  | stuck => rw [SatS_stuck]; exact SatS_stuck
theorem SatSX.imp {r : SR} (h : SatSX Z r nx rt) (i : ∀ sg st, nx sg st → nx' sg st) (j : ∀ p st, rt p st → rt' p st) (k : ∀ x st, Z x st → Z' x st) : SatSX Z' r nx' rt' := by
  obtain ⟨h⟩ := h
  cases r with
  | nx sg st => exact ⟨i _ _ h⟩
  | rt p st => exact ⟨j _ _ h⟩
  | ex x sg st => exact ⟨k _ _ h⟩
  | bk _ _ => exact h.elim
  | ct _ _ => exact h.elim
  | stuck => exact h.elim
theorem SatSX.mono {r : SR} (h : SatSX Z r nx rt) (i : ∀ sg st, nx sg st → nx' sg st) (j : ∀ p st, rt p st → rt' p st) : SatSX Z r nx' rt' := h.imp i j fun _ _ z => z
theorem SatS.mono {r : SR} (h : SatS r nx rt) (i : ∀ sg st, nx sg st → nx' sg st) (j : ∀ p st, rt p st → rt' p st) : SatSX Z r nx' rt' := SatSX.imp h i j fun _ _ z => z.elim
/-- what stands behind a statement that returns is not looked at -/
theorem SatS_ret {A B : FS} {sg : Sig} {st : Store} (h : SatSX Z (A sg st) (fun _ _ => False) rt) : SatSX Z (fsSeq A B sg st) nx rt := by
  show SatSX Z (seqR (A sg st) B) nx rt
  rw [SatS_seq]
  exact h.mono (fun _ _ z => z.elim) fun _ _ z => z
theorem Sat_fnF {n m : Nat} {f : FS} {ps : List PV} {st : Store} {Q : PV → Store → Prop} (hl : ps.length = n) (h : SatSX Z (f (startS m ps) st) (fun _ st => Q .non st) Q) : SatX Z (fnF n m f ps st) Q := by
  unfold fnF
  rw [if_pos hl]
  cases e : f (startS m ps) st with
  | nx sg st => rw [e, SatS_nx] at h; simpa using h
  | rt p st => rw [e, SatS_rt] at h; simpa using h
  | ex x sg st => rw [e, SatS_ex] at h; simpa using h
  | bk _ _ => rw [e, SatS_bk] at h; exact h.elim
  | ct _ _ => rw [e, SatS_ct] at h; exact h.elim
  | stuck => rw [e, SatS_stuck] at h; exact h.elim
end
/-- a for loop, by an invariant -/
theorem SatS_for {Z : Exc → Store → Prop} {g : FG} {body : FS} {nx : Sig → Store → Prop} {rt : PV → Store → Prop} (I : List PV → Sig → Store → Prop)
    (h0 : ∀ sg st, I [] sg st → nx sg st) (h1 : ∀ p ps sg st, I (p :: ps) sg st → SatX Z (g p sg st) fun sg st => SatSX Z (body sg st) (I ps) rt) :
    ∀ (items : List PV) (sg : Sig) (st : Store), I items sg st → SatSX Z (forL g body items sg st) nx rt
  | [], sg, st, h => by unfold forL; rw [SatS_nx]; exact h0 sg st h
  | p :: ps, sg, st, h => by
    unfold forL
    rw [SatS_bindE]
    refine (h1 p ps sg st h).mono fun sg1 st1 k => ?_
    cases e : body sg1 st1 with
    | nx sg2 st2 => rw [e, SatS_nx] at k; exact SatS_for I h0 h1 ps sg2 st2 k
    | rt p st2 => rw [e, SatS_rt] at k; simpa using k
    | ex x sg2 st2 => rw [e, SatS_ex] at k; simpa using k
    | bk _ _ => rw [e, SatS_bk] at k; exact k.elim
    | ct _ _ => rw [e, SatS_ct] at k; exact k.elim
    | stuck => rw [e, SatS_stuck] at k; exact k.elim
/-- a while loop, by an invariant with a measure -/
theorem SatS_while {Z : Exc → Store → Prop} {c : FT} {body : FS} {nx : Sig → Store → Prop} {rt : PV → Store → Prop} (I : Nat → Sig → Store → Prop)
    (h : ∀ n sg st, I n sg st → SatX Z (c sg st) fun b st => if b then SatSX Z (body sg st) (fun sg st => ∃ m, m < n ∧ I m sg st) rt else nx sg st) :
    ∀ (f n : Nat) (sg : Sig) (st : Store), n < f → I n sg st → SatSX Z (whileN c body f sg st) nx rt
  | 0, n, _, _, hn, _ => absurd hn (Nat.not_lt_zero _)
  | f + 1, n, sg, st, hn, hi => by
    unfold whileN
    rw [SatS_bindE]
    refine (h n sg st hi).mono fun b st1 k => ?_
    cases b with
    | false => simpa using k
    | true =>
      simp only [if_true] at k ⊢
      cases e : body sg st1 with
      | nx sg2 st2 => rw [e, SatS_nx] at k; obtain ⟨m, hm, k⟩ := k; exact SatS_while I h f m sg2 st2 (by omega) k
      | rt p st2 => rw [e, SatS_rt] at k; simpa using k
      | ex x sg2 st2 => rw [e, SatS_ex] at k; simpa using k
      | bk _ _ => rw [e, SatS_bk] at k; exact k.elim
      | ct _ _ => rw [e, SatS_ct] at k; exact k.elim
      | stuck => rw [e, SatS_stuck] at k; exact k.elim
/-- a comprehension, turn by turn -/
theorem Sat_comp {Z : Exc → Store → Prop} {body : PV → Store → R (Option PV)} {Q : List PV → Store → Prop} (I : List PV → List PV → Store → Prop)
    (h0 : ∀ acc st, I acc [] st → Q acc st) (h1 : ∀ acc p ps st, I acc (p :: ps) st → Sat (body p st) fun o st => I (acc ++ o.toList) ps st) :
    ∀ (items acc : List PV) (st : Store), I acc items st → SatX Z (compL body items st) fun ys st => Q (acc ++ ys) st
  | [], acc, st, h => by
    unfold compL
    rw [Sat_ok, List.append_nil]; exact h0 acc st h
  | p :: ps, acc, st, h => by
    unfold compL
    rw [Sat_bind]
    refine Sat.mono (h1 acc p ps st h) fun o st1 k => ?_
    rw [Sat_bind]
    refine (Sat_comp (Z := Z) I h0 h1 ps (acc ++ o.toList) st1 k).mono fun ys st2 k2 => ?_
    rw [Sat_ok]
    simpa using k2
section
variable {sg : Sig} {st : Store} {α : Type} {Z : Exc → Store → Prop}
@[simp] theorem isI_ap (t c : Ty) : isI t c = (decide (t = c) || (decide (t = .bool) && decide (c = .int))) := rfl
/-! the combinators, each at its names and its store: what runs first is taken out -/
section
variable {f g h : FE} {c d : FT} {fa : FA} {fl fh : FO} {u v : FS} {gt : FG} {i n : Nat} {p q : PV} {Q : PV → Store → Prop} {QT : Bool → Store → Prop} {QA : List PV → Store → Prop} {QO : Option Int → Store → Prop} {QG : Sig → Store → Prop} {nx : Sig → Store → Prop} {rt : PV → Store → Prop}
@[simp ↓] theorem Sat_ite {k : Prop} [Decidable k] {r r' : R α} {Q : α → Store → Prop} : SatX Z (if k then r else r') Q = if k then SatX Z r Q else SatX Z r' Q := by split <;> rfl
@[simp ↓] theorem SatS_ite {k : Prop} [Decidable k] {r r' : SR} : SatSX Z (if k then r else r') nx rt = if k then SatSX Z r nx rt else SatSX Z r' nx rt := by split <;> rfl
@[simp] theorem fVar_ap : fVar i sg st = match sg[i]? with | some (some p) => .ok p st | _ => .stuck := rfl
@[simp ↓] theorem Sat_fC : SatX Z (fC p sg st) Q = Q p st := by
  simp only [fC, Sat_bind, Sat_noX, Sat_ok, Sat_ite, Sat_stuck, if_false_right, SatS_bindE, SatS_ite, SatS_nx, SatS_rt, SatS_stuck]
  repeat (first | rfl | (refine Sat_eq fun _ _ => ?_; try simp only [Sat_bind, Sat_noX, Sat_ok, Sat_ite, Sat_stuck, if_false_right, SatS_bindE, SatS_ite, SatS_nx, SatS_rt, SatS_stuck]))
@[simp ↓] theorem Sat_fBin (o : PV → PV → Store → Option PV) : SatX Z (fBin o f g sg st) Q = SatX Z (f sg st) fun p st => SatX Z (g sg st) fun q st => SatX Z (lift (o p q st) st) Q := by
  simp only [fBin, Sat_bind, Sat_noX, Sat_ok, Sat_ite, Sat_stuck, if_false_right, SatS_bindE, SatS_ite, SatS_nx, SatS_rt, SatS_stuck]
  repeat (first | rfl | (refine Sat_eq fun _ _ => ?_; try simp only [Sat_bind, Sat_noX, Sat_ok, Sat_ite, Sat_stuck, if_false_right, SatS_bindE, SatS_ite, SatS_nx, SatS_rt, SatS_stuck]))
@[simp ↓] theorem Sat_fUn (o : PV → Store → Option PV) : SatX Z (fUn o f sg st) Q = SatX Z (f sg st) fun p st => SatX Z (lift (o p st) st) Q := by
  simp only [fUn, Sat_bind, Sat_noX, Sat_ok, Sat_ite, Sat_stuck, if_false_right, SatS_bindE, SatS_ite, SatS_nx, SatS_rt, SatS_stuck]
  repeat (first | rfl | (refine Sat_eq fun _ _ => ?_; try simp only [Sat_bind, Sat_noX, Sat_ok, Sat_ite, Sat_stuck, if_false_right, SatS_bindE, SatS_ite, SatS_nx, SatS_rt, SatS_stuck]))
theorem Sat_fChain0 (o o' : PV → PV → Store → Option PV) : SatX Z (fChain o o' f g h sg st) Q = SatX Z (f sg st) fun p st => SatX Z (g sg st) fun q st => SatX Z (match o p q st with
  | some (.bl true) => (h sg st).bind fun r st => lift (o' q r st) st
  | some (.bl false) => .ok (.bl false) st
  | _ => .stuck) Q := by
  simp only [fChain, Sat_bind, Sat_noX, Sat_ok, Sat_ite, Sat_stuck, if_false_right, SatS_bindE, SatS_ite, SatS_nx, SatS_rt, SatS_stuck]
  repeat (first | rfl | (refine Sat_eq fun _ _ => ?_; try simp only [Sat_bind, Sat_noX, Sat_ok, Sat_ite, Sat_stuck, if_false_right, SatS_bindE, SatS_ite, SatS_nx, SatS_rt, SatS_stuck]))
/-- a comparison that is known -/
def blO : Option PV → Option Bool
  | some (.bl b) => some b
  | _ => none
@[simp] theorem blO_bl (b : Bool) : blO (some (.bl b)) = some b := rfl
@[simp ↓] theorem Sat_fChain (o o' : PV → PV → Store → Option PV) : SatX Z (fChain o o' f g h sg st) Q = SatX Z (f sg st) fun p st => SatX Z (g sg st) fun q st => ∃ b, blO (o p q st) = some b ∧ if b then SatX Z (h sg st) fun r st => SatX Z (lift (o' q r st) st) Q else Q (.bl false) st := by
  rw [Sat_fChain0]
  refine Sat_eq fun p st => Sat_eq fun q st => ?_
  cases e : o p q st with
  | none => simp [blO]
  | some z =>
    cases z with
    | bl b => cases b <;> simp [blO, Sat_bind]
    | _ => simp [blO]
@[simp ↓] theorem Sat_fTru : SatX Z (fTru f sg st) QT = SatX Z (f sg st) fun p st => SatX Z (match truP p st with | some b => .ok b st | none => .stuck) QT := by
  simp only [fTru, Sat_bind, Sat_noX, Sat_ok, Sat_ite, Sat_stuck, if_false_right, SatS_bindE, SatS_ite, SatS_nx, SatS_rt, SatS_stuck]
  repeat (first | rfl | (refine Sat_eq fun _ _ => ?_; try simp only [Sat_bind, Sat_noX, Sat_ok, Sat_ite, Sat_stuck, if_false_right, SatS_bindE, SatS_ite, SatS_nx, SatS_rt, SatS_stuck]))
@[simp ↓] theorem Sat_fBl : SatX Z (fBl f sg st) QT = SatX Z (f sg st) fun p st => SatX Z (match p with | .bl b => .ok b st | _ => .stuck) QT := by
  simp only [fBl, Sat_bind, Sat_noX, Sat_ok, Sat_ite, Sat_stuck, if_false_right, SatS_bindE, SatS_ite, SatS_nx, SatS_rt, SatS_stuck]
  repeat (first | rfl | (refine Sat_eq fun _ _ => ?_; try simp only [Sat_bind, Sat_noX, Sat_ok, Sat_ite, Sat_stuck, if_false_right, SatS_bindE, SatS_ite, SatS_nx, SatS_rt, SatS_stuck]))
@[simp ↓] theorem Sat_tfAnd : SatX Z (tfAnd c d sg st) QT = SatX Z (c sg st) fun b st => if b then SatX Z (d sg st) QT else QT false st := by
  simp only [tfAnd, Sat_bind, Sat_noX, Sat_ok, Sat_ite, Sat_stuck, if_false_right, SatS_bindE, SatS_ite, SatS_nx, SatS_rt, SatS_stuck]
  repeat (first | rfl | (refine Sat_eq fun _ _ => ?_; try simp only [Sat_bind, Sat_noX, Sat_ok, Sat_ite, Sat_stuck, if_false_right, SatS_bindE, SatS_ite, SatS_nx, SatS_rt, SatS_stuck]))
@[simp ↓] theorem Sat_tfOr : SatX Z (tfOr c d sg st) QT = SatX Z (c sg st) fun b st => if b then QT true st else SatX Z (d sg st) QT := by
  simp only [tfOr, Sat_bind, Sat_noX, Sat_ok, Sat_ite, Sat_stuck, if_false_right, SatS_bindE, SatS_ite, SatS_nx, SatS_rt, SatS_stuck]
  repeat (first | rfl | (refine Sat_eq fun _ _ => ?_; try simp only [Sat_bind, Sat_noX, Sat_ok, Sat_ite, Sat_stuck, if_false_right, SatS_bindE, SatS_ite, SatS_nx, SatS_rt, SatS_stuck]))
@[simp ↓] theorem Sat_tfNot : SatX Z (tfNot c sg st) QT = SatX Z (c sg st) fun b st => QT (!b) st := by
  simp only [tfNot, Sat_bind, Sat_noX, Sat_ok, Sat_ite, Sat_stuck, if_false_right, SatS_bindE, SatS_ite, SatS_nx, SatS_rt, SatS_stuck]
  repeat (first | rfl | (refine Sat_eq fun _ _ => ?_; try simp only [Sat_bind, Sat_noX, Sat_ok, Sat_ite, Sat_stuck, if_false_right, SatS_bindE, SatS_ite, SatS_nx, SatS_rt, SatS_stuck]))
/-- by a value's truth -/
def truI (p : PV) (st : Store) (a b : Prop) : Prop := match truP p st with
  | some true => a
  | some false => b
  | none => False
@[simp] theorem truI_bl (b : Bool) (x y : Prop) : truI (.bl b) st x y = if b then x else y := by cases b <;> rfl
@[simp ↓] theorem Sat_fAnd : SatX Z (fAnd f g sg st) Q = SatX Z (f sg st) fun p st => truI p st (SatX Z (g sg st) Q) (Q p st) := by
  simp only [fAnd, Sat_bind]
  refine Sat_eq fun p st => ?_
  unfold truI
  split <;> rename_i e <;> simp [e]
@[simp ↓] theorem Sat_fOr : SatX Z (fOr f g sg st) Q = SatX Z (f sg st) fun p st => truI p st (Q p st) (SatX Z (g sg st) Q) := by
  simp only [fOr, Sat_bind]
  refine Sat_eq fun p st => ?_
  unfold truI
  split <;> rename_i e <;> simp [e]
@[simp ↓] theorem Sat_fNot : SatX Z (fNot f sg st) Q = SatX Z (f sg st) fun p st => SatX Z (match truP p st with | some b => .ok (.bl (!b)) st | none => .stuck) Q := by
  simp only [fNot, Sat_bind, Sat_noX, Sat_ok, Sat_ite, Sat_stuck, if_false_right, SatS_bindE, SatS_ite, SatS_nx, SatS_rt, SatS_stuck]
  repeat (first | rfl | (refine Sat_eq fun _ _ => ?_; try simp only [Sat_bind, Sat_noX, Sat_ok, Sat_ite, Sat_stuck, if_false_right, SatS_bindE, SatS_ite, SatS_nx, SatS_rt, SatS_stuck]))
@[simp ↓] theorem Sat_fIte : SatX Z (fIte c f g sg st) Q = SatX Z (c sg st) fun b st => if b then SatX Z (f sg st) Q else SatX Z (g sg st) Q := by
  simp only [fIte, Sat_bind, Sat_noX, Sat_ok, Sat_ite, Sat_stuck, if_false_right, SatS_bindE, SatS_ite, SatS_nx, SatS_rt, SatS_stuck]
  repeat (first | rfl | (refine Sat_eq fun _ _ => ?_; try simp only [Sat_bind, Sat_noX, Sat_ok, Sat_ite, Sat_stuck, if_false_right, SatS_bindE, SatS_ite, SatS_nx, SatS_rt, SatS_stuck]))
@[simp ↓] theorem Sat_tfIte {a b : FT} : SatX Z (tfIte c a b sg st) QT = SatX Z (c sg st) fun t st => if t then SatX Z (a sg st) QT else SatX Z (b sg st) QT := by
  simp only [tfIte, Sat_bind, Sat_noX, Sat_ok, Sat_ite, Sat_stuck, if_false_right, SatS_bindE, SatS_ite, SatS_nx, SatS_rt, SatS_stuck]
  repeat (first | rfl | (refine Sat_eq fun _ _ => ?_; try simp only [Sat_bind, Sat_noX, Sat_ok, Sat_ite, Sat_stuck, if_false_right, SatS_bindE, SatS_ite, SatS_nx, SatS_rt, SatS_stuck]))
@[simp ↓] theorem Sat_faNil : SatX Z (faNil sg st) QA = QA [] st := by
  simp only [faNil, Sat_bind, Sat_noX, Sat_ok, Sat_ite, Sat_stuck, if_false_right, SatS_bindE, SatS_ite, SatS_nx, SatS_rt, SatS_stuck]
  repeat (first | rfl | (refine Sat_eq fun _ _ => ?_; try simp only [Sat_bind, Sat_noX, Sat_ok, Sat_ite, Sat_stuck, if_false_right, SatS_bindE, SatS_ite, SatS_nx, SatS_rt, SatS_stuck]))
@[simp ↓] theorem Sat_faCons : SatX Z (faCons f fa sg st) QA = SatX Z (f sg st) fun p st => SatX Z (fa sg st) fun ps st => QA (p :: ps) st := by
  simp only [faCons, Sat_bind, Sat_noX, Sat_ok, Sat_ite, Sat_stuck, if_false_right, SatS_bindE, SatS_ite, SatS_nx, SatS_rt, SatS_stuck]
  repeat (first | rfl | (refine Sat_eq fun _ _ => ?_; try simp only [Sat_bind, Sat_noX, Sat_ok, Sat_ite, Sat_stuck, if_false_right, SatS_bindE, SatS_ite, SatS_nx, SatS_rt, SatS_stuck]))
@[simp ↓] theorem Sat_fTup : SatX Z (fTup fa sg st) Q = SatX Z (fa sg st) fun ps st => ps.length ≤ sizeLine ∧ Q (.tup ps) st := by
  simp only [fTup, Sat_bind, Sat_noX, Sat_ok, Sat_ite, Sat_stuck, if_false_right, SatS_bindE, SatS_ite, SatS_nx, SatS_rt, SatS_stuck]
  repeat (first | rfl | (refine Sat_eq fun _ _ => ?_; try simp only [Sat_bind, Sat_noX, Sat_ok, Sat_ite, Sat_stuck, if_false_right, SatS_bindE, SatS_ite, SatS_nx, SatS_rt, SatS_stuck]))
@[simp ↓] theorem Sat_fLst (bx : Bool) : SatX Z (fLst bx fa sg st) Q = SatX Z (fa sg st) fun ps st => ps.length ≤ sizeLine ∧ Q (newL bx ps st).1 (newL bx ps st).2 := by
  simp only [fLst, Sat_bind, Sat_noX, Sat_ok, Sat_ite, Sat_stuck, if_false_right, SatS_bindE, SatS_ite, SatS_nx, SatS_rt, SatS_stuck]
  repeat (first | rfl | (refine Sat_eq fun _ _ => ?_; try simp only [Sat_bind, Sat_noX, Sat_ok, Sat_ite, Sat_stuck, if_false_right, SatS_bindE, SatS_ite, SatS_nx, SatS_rt, SatS_stuck]))
@[simp ↓] theorem Sat_foNone : SatX Z (foNone sg st) QO = QO none st := by
  simp only [foNone, Sat_bind, Sat_noX, Sat_ok, Sat_ite, Sat_stuck, if_false_right, SatS_bindE, SatS_ite, SatS_nx, SatS_rt, SatS_stuck]
  repeat (first | rfl | (refine Sat_eq fun _ _ => ?_; try simp only [Sat_bind, Sat_noX, Sat_ok, Sat_ite, Sat_stuck, if_false_right, SatS_bindE, SatS_ite, SatS_nx, SatS_rt, SatS_stuck]))
@[simp ↓] theorem Sat_foSome : SatX Z (foSome f sg st) QO = SatX Z (f sg st) fun p st => SatX Z (match p with | .int i => .ok (some i) st | _ => .stuck) QO := by
  simp only [foSome, Sat_bind, Sat_noX, Sat_ok, Sat_ite, Sat_stuck, if_false_right, SatS_bindE, SatS_ite, SatS_nx, SatS_rt, SatS_stuck]
  repeat (first | rfl | (refine Sat_eq fun _ _ => ?_; try simp only [Sat_bind, Sat_noX, Sat_ok, Sat_ite, Sat_stuck, if_false_right, SatS_bindE, SatS_ite, SatS_nx, SatS_rt, SatS_stuck]))
@[simp ↓] theorem Sat_fSlc : SatX Z (fSlc f fl fh sg st) Q = SatX Z (f sg st) fun p st => SatX Z (fl sg st) fun l st => SatX Z (fh sg st) fun h st => SatX Z (lift (slcP p l h st) st) Q := by
  simp only [fSlc, Sat_bind, Sat_noX, Sat_ok, Sat_ite, Sat_stuck, if_false_right, SatS_bindE, SatS_ite, SatS_nx, SatS_rt, SatS_stuck]
  repeat (first | rfl | (refine Sat_eq fun _ _ => ?_; try simp only [Sat_bind, Sat_noX, Sat_ok, Sat_ite, Sat_stuck, if_false_right, SatS_bindE, SatS_ite, SatS_nx, SatS_rt, SatS_stuck]))
@[simp ↓] theorem Sat_fFrz : SatX Z (fFrz f sg st) Q = SatX Z (f sg st) fun p st => SatX Z (frzP p st) Q := by
  simp only [fFrz, Sat_bind, Sat_noX, Sat_ok, Sat_ite, Sat_stuck, if_false_right, SatS_bindE, SatS_ite, SatS_nx, SatS_rt, SatS_stuck]
  repeat (first | rfl | (refine Sat_eq fun _ _ => ?_; try simp only [Sat_bind, Sat_noX, Sat_ok, Sat_ite, Sat_stuck, if_false_right, SatS_bindE, SatS_ite, SatS_nx, SatS_rt, SatS_stuck]))
@[simp ↓] theorem Sat_gtName : SatX Z (gtName i p sg st) QG = QG (sg.set i (some p)) st := by
  simp only [gtName, Sat_bind, Sat_noX, Sat_ok, Sat_ite, Sat_stuck, if_false_right, SatS_bindE, SatS_ite, SatS_nx, SatS_rt, SatS_stuck]
  repeat (first | rfl | (refine Sat_eq fun _ _ => ?_; try simp only [Sat_bind, Sat_noX, Sat_ok, Sat_ite, Sat_stuck, if_false_right, SatS_bindE, SatS_ite, SatS_nx, SatS_rt, SatS_stuck]))
@[simp ↓] theorem Sat_gsNil : SatX Z (gsNil [] sg st) QG = QG sg st := by
  simp only [gsNil, Sat_bind, Sat_noX, Sat_ok, Sat_ite, Sat_stuck, if_false_right, SatS_bindE, SatS_ite, SatS_nx, SatS_rt, SatS_stuck]
  repeat (first | rfl | (refine Sat_eq fun _ _ => ?_; try simp only [Sat_bind, Sat_noX, Sat_ok, Sat_ite, Sat_stuck, if_false_right, SatS_bindE, SatS_ite, SatS_nx, SatS_rt, SatS_stuck]))
@[simp ↓] theorem Sat_gsCons {gs : List PV → Sig → Store → R Sig} {ps : List PV} : SatX Z (gsCons gt gs (p :: ps) sg st) QG = SatX Z (gt p sg st) fun sg st => SatX Z (gs ps sg st) QG := by
  simp only [gsCons, Sat_bind, Sat_noX, Sat_ok, Sat_ite, Sat_stuck, if_false_right, SatS_bindE, SatS_ite, SatS_nx, SatS_rt, SatS_stuck]
  repeat (first | rfl | (refine Sat_eq fun _ _ => ?_; try simp only [Sat_bind, Sat_noX, Sat_ok, Sat_ite, Sat_stuck, if_false_right, SatS_bindE, SatS_ite, SatS_nx, SatS_rt, SatS_stuck]))
@[simp ↓] theorem Sat_gtTup {gs : List PV → Sig → Store → R Sig} {xs : List PV} : SatX Z (gtTup n gs (.tup xs) sg st) QG = (xs.length = n ∧ SatX Z (gs xs sg st) QG) := by
  simp only [gtTup, Sat_bind, Sat_noX, Sat_ok, Sat_ite, Sat_stuck, if_false_right, SatS_bindE, SatS_ite, SatS_nx, SatS_rt, SatS_stuck]
  repeat (first | rfl | (refine Sat_eq fun _ _ => ?_; try simp only [Sat_bind, Sat_noX, Sat_ok, Sat_ite, Sat_stuck, if_false_right, SatS_bindE, SatS_ite, SatS_nx, SatS_rt, SatS_stuck]))
@[simp ↓] theorem Sat_gtSub : SatX Z (gtSub f g q sg st) QG = Sat (f sg st) fun a st => Sat (g sg st) fun i st => Sat (liftU sg (setP a i q st)) QG := by
  unfold gtSub
  rw [Sat_noX]
  exact (Sat_bind _ _ _).trans (Sat_eq fun _ _ => Sat_bind _ _ _)
@[simp ↓] theorem Sat_fiVal : SatX Z (fiVal f sg st) QA = SatX Z (f sg st) fun p st => SatX Z (frzP p st) fun p st => SatX Z (iterV p st) QA := by
  simp only [fiVal, Sat_bind, Sat_noX, Sat_ok, Sat_ite, Sat_stuck, if_false_right, SatS_bindE, SatS_ite, SatS_nx, SatS_rt, SatS_stuck]
  repeat (first | rfl | (refine Sat_eq fun _ _ => ?_; try simp only [Sat_bind, Sat_noX, Sat_ok, Sat_ite, Sat_stuck, if_false_right, SatS_bindE, SatS_ite, SatS_nx, SatS_rt, SatS_stuck]))
@[simp ↓] theorem Sat_fiRng1 : SatX Z (fiRng1 f sg st) QA = SatX Z (f sg st) fun p st => SatX Z (rngV [p] st) QA := by
  simp only [fiRng1, Sat_bind, Sat_noX, Sat_ok, Sat_ite, Sat_stuck, if_false_right, SatS_bindE, SatS_ite, SatS_nx, SatS_rt, SatS_stuck]
  repeat (first | rfl | (refine Sat_eq fun _ _ => ?_; try simp only [Sat_bind, Sat_noX, Sat_ok, Sat_ite, Sat_stuck, if_false_right, SatS_bindE, SatS_ite, SatS_nx, SatS_rt, SatS_stuck]))
@[simp ↓] theorem Sat_fiRng2 : SatX Z (fiRng2 f g sg st) QA = SatX Z (f sg st) fun p st => SatX Z (g sg st) fun q st => SatX Z (rngV [p, q] st) QA := by
  simp only [fiRng2, Sat_bind, Sat_noX, Sat_ok, Sat_ite, Sat_stuck, if_false_right, SatS_bindE, SatS_ite, SatS_nx, SatS_rt, SatS_stuck]
  repeat (first | rfl | (refine Sat_eq fun _ _ => ?_; try simp only [Sat_bind, Sat_noX, Sat_ok, Sat_ite, Sat_stuck, if_false_right, SatS_bindE, SatS_ite, SatS_nx, SatS_rt, SatS_stuck]))
@[simp ↓] theorem Sat_fiKeys : SatX Z (fiKeys f sg st) QA = SatX Z (f sg st) fun p st => SatX Z (keysV p st) QA := by
  simp only [fiKeys, Sat_bind, Sat_noX, Sat_ok, Sat_ite, Sat_stuck, if_false_right, SatS_bindE, SatS_ite, SatS_nx, SatS_rt, SatS_stuck]
  repeat (first | rfl | (refine Sat_eq fun _ _ => ?_; try simp only [Sat_bind, Sat_noX, Sat_ok, Sat_ite, Sat_stuck, if_false_right, SatS_bindE, SatS_ite, SatS_nx, SatS_rt, SatS_stuck]))
@[simp ↓] theorem Sat_fiEnum : SatX Z (fiEnum f sg st) QA = SatX Z (f sg st) fun p st => SatX Z (frzP p st) fun p st => SatX Z (enumV p st) QA := by
  simp only [fiEnum, Sat_bind, Sat_noX, Sat_ok, Sat_ite, Sat_stuck, if_false_right, SatS_bindE, SatS_ite, SatS_nx, SatS_rt, SatS_stuck]
  repeat (first | rfl | (refine Sat_eq fun _ _ => ?_; try simp only [Sat_bind, Sat_noX, Sat_ok, Sat_ite, Sat_stuck, if_false_right, SatS_bindE, SatS_ite, SatS_nx, SatS_rt, SatS_stuck]))
@[simp ↓] theorem Sat_fiZip : SatX Z (fiZip f g sg st) QA = SatX Z (f sg st) fun p st => SatX Z (g sg st) fun q st => SatX Z (frzP p st) fun p st => SatX Z (frzP q st) fun q st => SatX Z (zipV p q st) QA := by
  simp only [fiZip, Sat_bind, Sat_noX, Sat_ok, Sat_ite, Sat_stuck, if_false_right, SatS_bindE, SatS_ite, SatS_nx, SatS_rt, SatS_stuck]
  repeat (first | rfl | (refine Sat_eq fun _ _ => ?_; try simp only [Sat_bind, Sat_noX, Sat_ok, Sat_ite, Sat_stuck, if_false_right, SatS_bindE, SatS_ite, SatS_nx, SatS_rt, SatS_stuck]))
@[simp ↓] theorem Sat_ftYes : SatX Z (ftYes sg st) QT = QT true st := by
  simp only [ftYes, Sat_bind, Sat_noX, Sat_ok, Sat_ite, Sat_stuck, if_false_right, SatS_bindE, SatS_ite, SatS_nx, SatS_rt, SatS_stuck]
  repeat (first | rfl | (refine Sat_eq fun _ _ => ?_; try simp only [Sat_bind, Sat_noX, Sat_ok, Sat_ite, Sat_stuck, if_false_right, SatS_bindE, SatS_ite, SatS_nx, SatS_rt, SatS_stuck]))
@[simp ↓] theorem Sat_fCall (F : FF) : SatX Z (fCall F fa sg st) Q = SatX Z (fa sg st) fun ps st => SatX Z (F ps st) Q := by
  simp only [fCall, Sat_bind, Sat_noX, Sat_ok, Sat_ite, Sat_stuck, if_false_right, SatS_bindE, SatS_ite, SatS_nx, SatS_rt, SatS_stuck]
  repeat (first | rfl | (refine Sat_eq fun _ _ => ?_; try simp only [Sat_bind, Sat_noX, Sat_ok, Sat_ite, Sat_stuck, if_false_right, SatS_bindE, SatS_ite, SatS_nx, SatS_rt, SatS_stuck]))
@[simp ↓] theorem Sat_fcB (o : List PV → Store → Option (PV × Store)) : SatX Z (fcB o fa sg st) Q = SatX Z (fa sg st) fun ps st => SatX Z (liftS (o ps st)) Q := by
  simp only [fcB, Sat_bind, Sat_noX, Sat_ok, Sat_ite, Sat_stuck, if_false_right, SatS_bindE, SatS_ite, SatS_nx, SatS_rt, SatS_stuck]
  repeat (first | rfl | (refine Sat_eq fun _ _ => ?_; try simp only [Sat_bind, Sat_noX, Sat_ok, Sat_ite, Sat_stuck, if_false_right, SatS_bindE, SatS_ite, SatS_nx, SatS_rt, SatS_stuck]))
@[simp ↓] theorem Sat_fIsi (t : Ty) : SatX Z (fIsi t f sg st) Q = SatX Z (f sg st) fun p st => SatX Z (match tyP p st with | some c => .ok (.bl (isI c t)) st | none => .stuck) Q := by
  simp only [fIsi, Sat_bind, Sat_noX, Sat_ok, Sat_ite, Sat_stuck, if_false_right, SatS_bindE, SatS_ite, SatS_nx, SatS_rt, SatS_stuck]
  repeat (first | rfl | (refine Sat_eq fun _ _ => ?_; try simp only [Sat_bind, Sat_noX, Sat_ok, Sat_ite, Sat_stuck, if_false_right, SatS_bindE, SatS_ite, SatS_nx, SatS_rt, SatS_stuck]))
/-- an object's method -/
def mtO (mt : Nat → Option FF) (m : List Nat) (o : Option (Nat × List (List Nat × PV))) : Option FF := match o with
  | some (c, fs) => match lookF m fs, mt c with
    | none, some F => some F
    | _, _ => none
  | none => none
def mtI (o : Option FF) (P : FF → Prop) : Prop := match o with
  | some F => P F
  | none => False
@[simp] theorem mtI_some (F : FF) (P : FF → Prop) : mtI (some F) P = P F := rfl
@[simp ↓] theorem Sat_fMeth {mt : Nat → Option FF} {m : List Nat} : SatX Z (fMeth mt m f fa sg st) Q = SatX Z (f sg st) fun p st => mtI (mtO mt m (insAt p st)) fun F => SatX Z (fa sg st) fun ps st => SatX Z (F (p :: ps) st) Q := by
  simp only [fMeth, Sat_bind]
  refine Sat_eq fun p st => ?_
  unfold mtO mtI
  split
  · split <;> simp [Sat_bind, *]
  · simp [*]
@[simp ↓] theorem Sat_fBM {is : PV → Store → Bool} {o : PV → List PV → Store → Option (PV × Store)} : SatX Z (fBM is o f fa sg st) Q = SatX Z (f sg st) fun p st => is p st = true ∧ SatX Z (fa sg st) fun ps st => SatX Z (liftS (o p ps st)) Q := by
  simp only [fBM, Sat_bind, Sat_noX, Sat_ok, Sat_ite, Sat_stuck, if_false_right, SatS_bindE, SatS_ite, SatS_nx, SatS_rt, SatS_stuck]
  repeat (first | rfl | (refine Sat_eq fun _ _ => ?_; try simp only [Sat_bind, Sat_noX, Sat_ok, Sat_ite, Sat_stuck, if_false_right, SatS_bindE, SatS_ite, SatS_nx, SatS_rt, SatS_stuck]))
@[simp ↓] theorem Sat_fFld {l : List Nat} : SatX Z (fFld l f sg st) Q = SatX Z (f sg st) fun p st => SatX Z (match insAt p st with
  | some (_, fs) => match lookF l fs with
    | some z => .ok z st
    | none => .stuck
  | none => .stuck) Q := by
  simp only [fFld, Sat_bind, Sat_noX, Sat_ok, Sat_ite, Sat_stuck, if_false_right, SatS_bindE, SatS_ite, SatS_nx, SatS_rt, SatS_stuck]
  repeat (first | rfl | (refine Sat_eq fun _ _ => ?_; try simp only [Sat_bind, Sat_noX, Sat_ok, Sat_ite, Sat_stuck, if_false_right, SatS_bindE, SatS_ite, SatS_nx, SatS_rt, SatS_stuck]))
@[simp ↓] theorem Sat_fMake {F : FF} : SatX Z (fMake n F fa sg st) Q = SatX Z (fa sg st) fun ps st => SatX Z (noX (F (.ref st.length :: ps) (st ++ [.ins n []]))) fun z st' => SatX Z (match z with
  | .non => .ok (.ref st.length) st'
  | _ => .stuck) Q := by
  unfold fMake
  exact (Sat_bind _ _ _).trans (Sat_eq fun _ _ => Sat_bind _ _ _)
@[simp ↓] theorem Sat_fDNew (bx : Bool) : SatX Z (fDNew bx sg st) Q = Q (newD bx [] [] st).1 (newD bx [] [] st).2 := by
  simp only [fDNew, Sat_bind, Sat_noX, Sat_ok, Sat_ite, Sat_stuck, if_false_right, SatS_bindE, SatS_ite, SatS_nx, SatS_rt, SatS_stuck]
  repeat (first | rfl | (refine Sat_eq fun _ _ => ?_; try simp only [Sat_bind, Sat_noX, Sat_ok, Sat_ite, Sat_stuck, if_false_right, SatS_bindE, SatS_ite, SatS_nx, SatS_rt, SatS_stuck]))
@[simp ↓] theorem Sat_fDisp (bx : Bool) {prs : List (FE × FE)} : SatX Z (fDisp bx prs sg st) Q = SatX Z (fPs prs sg st) fun l st => l.length ≤ 15 ∧ SatX Z (match foldD l [] [] with
  | some (ks, vs) => .ok (newD bx ks vs st).1 (newD bx ks vs st).2
  | none => .stuck) Q := by
  simp only [fDisp, Sat_bind, Sat_noX, Sat_ok, Sat_ite, Sat_stuck, if_false_right, SatS_bindE, SatS_ite, SatS_nx, SatS_rt, SatS_stuck]
  repeat (first | rfl | (refine Sat_eq fun _ _ => ?_; try simp only [Sat_bind, Sat_noX, Sat_ok, Sat_ite, Sat_stuck, if_false_right, SatS_bindE, SatS_ite, SatS_nx, SatS_rt, SatS_stuck]))
  repeat (first | rfl | (refine Sat_eq fun _ _ => ?_; try simp only [Sat_bind, Sat_noX, Sat_ok, Sat_ite, Sat_stuck, if_false_right, SatS_bindE, SatS_ite, SatS_nx, SatS_rt, SatS_stuck]))
@[simp ↓] theorem Sat_turnC {ws : List Nat} {QC : Option PV → Store → Prop} : SatX Z (turnC ws gt c f sg p st) QC = Sat (gt p (wipeS sg ws) st) fun sg' st => Sat (c sg' st) fun b st => if b then Sat (f sg' st) fun q st => QC (some q) st else QC none st := by
  unfold turnC
  rw [Sat_noX]
  refine (Sat_bind _ _ _).trans (Sat_eq fun _ _ => (Sat_bind _ _ _).trans (Sat_eq fun b _ => ?_))
  cases b
  · exact Sat_ok _ _
  · exact (Sat_bind _ _ _).trans (Sat_eq fun _ _ => Sat_ok _ _)
@[simp ↓] theorem SatS_fsStuck : SatSX Z (fsStuck sg st) nx rt = False := by
  simp only [fsStuck, Sat_bind, Sat_noX, Sat_ok, Sat_ite, Sat_stuck, if_false_right, SatS_bindE, SatS_ite, SatS_nx, SatS_rt, SatS_stuck]
  repeat (first | rfl | (refine Sat_eq fun _ _ => ?_; try simp only [Sat_bind, Sat_noX, Sat_ok, Sat_ite, Sat_stuck, if_false_right, SatS_bindE, SatS_ite, SatS_nx, SatS_rt, SatS_stuck]))
@[simp ↓] theorem SatS_fsNil : SatSX Z (fsNil sg st) nx rt = nx sg st := by
  simp only [fsNil, Sat_bind, Sat_noX, Sat_ok, Sat_ite, Sat_stuck, if_false_right, SatS_bindE, SatS_ite, SatS_nx, SatS_rt, SatS_stuck]
  repeat (first | rfl | (refine Sat_eq fun _ _ => ?_; try simp only [Sat_bind, Sat_noX, Sat_ok, Sat_ite, Sat_stuck, if_false_right, SatS_bindE, SatS_ite, SatS_nx, SatS_rt, SatS_stuck]))
@[simp ↓] theorem SatS_fsSeq : SatSX Z (fsSeq u v sg st) nx rt = SatSX Z (u sg st) (fun sg st => SatSX Z (v sg st) nx rt) rt := by
  unfold fsSeq
  rw [SatS_seq]
@[simp ↓] theorem SatS_fsRet : SatSX Z (fsRet f sg st) nx rt = SatX Z (f sg st) rt := by
  simp only [fsRet, Sat_bind, Sat_noX, Sat_ok, Sat_ite, Sat_stuck, if_false_right, SatS_bindE, SatS_ite, SatS_nx, SatS_rt, SatS_stuck]
  repeat (first | rfl | (refine Sat_eq fun _ _ => ?_; try simp only [Sat_bind, Sat_noX, Sat_ok, Sat_ite, Sat_stuck, if_false_right, SatS_bindE, SatS_ite, SatS_nx, SatS_rt, SatS_stuck]))
@[simp ↓] theorem SatS_fsRetN : SatSX Z (fsRetN sg st) nx rt = rt .non st := by
  simp only [fsRetN, Sat_bind, Sat_noX, Sat_ok, Sat_ite, Sat_stuck, if_false_right, SatS_bindE, SatS_ite, SatS_nx, SatS_rt, SatS_stuck]
  repeat (first | rfl | (refine Sat_eq fun _ _ => ?_; try simp only [Sat_bind, Sat_noX, Sat_ok, Sat_ite, Sat_stuck, if_false_right, SatS_bindE, SatS_ite, SatS_nx, SatS_rt, SatS_stuck]))
@[simp ↓] theorem SatS_fsIf0 : SatSX Z (fsIf c u v sg st) nx rt = SatX Z (c sg st) fun b st => if b then SatSX Z (u sg st) nx rt else SatSX Z (v sg st) nx rt := by
  simp only [fsIf, Sat_bind, Sat_noX, Sat_ok, Sat_ite, Sat_stuck, if_false_right, SatS_bindE, SatS_ite, SatS_nx, SatS_rt, SatS_stuck]
  repeat (first | rfl | (refine Sat_eq fun _ _ => ?_; try simp only [Sat_bind, Sat_noX, Sat_ok, Sat_ite, Sat_stuck, if_false_right, SatS_bindE, SatS_ite, SatS_nx, SatS_rt, SatS_stuck]))
@[simp ↓] theorem SatS_fsDrop : SatSX Z (fsDrop f sg st) nx rt = SatX Z (f sg st) fun _ st => nx sg st := by
  simp only [fsDrop, Sat_bind, Sat_noX, Sat_ok, Sat_ite, Sat_stuck, if_false_right, SatS_bindE, SatS_ite, SatS_nx, SatS_rt, SatS_stuck]
  repeat (first | rfl | (refine Sat_eq fun _ _ => ?_; try simp only [Sat_bind, Sat_noX, Sat_ok, Sat_ite, Sat_stuck, if_false_right, SatS_bindE, SatS_ite, SatS_nx, SatS_rt, SatS_stuck]))
@[simp ↓] theorem SatS_fsAsg : SatSX Z (fsAsg f gt sg st) nx rt = SatX Z (f sg st) fun p st => SatX Z (gt p sg st) fun sg st => nx sg st := by
  simp only [fsAsg, Sat_bind, Sat_noX, Sat_ok, Sat_ite, Sat_stuck, if_false_right, SatS_bindE, SatS_ite, SatS_nx, SatS_rt, SatS_stuck]
  repeat (first | rfl | (refine Sat_eq fun _ _ => ?_; try simp only [Sat_bind, Sat_noX, Sat_ok, Sat_ite, Sat_stuck, if_false_right, SatS_bindE, SatS_ite, SatS_nx, SatS_rt, SatS_stuck]))
@[simp ↓] theorem SatS_fsPar {is : List Nat} : SatSX Z (fsPar is fa sg st) nx rt = SatX Z (fa sg st) fun ps st => ps.length = is.length ∧ nx ((is.zip ps).foldl (fun sg ip => sg.set ip.1 (some ip.2)) sg) st := by
  simp only [fsPar, Sat_bind, Sat_noX, Sat_ok, Sat_ite, Sat_stuck, if_false_right, SatS_bindE, SatS_ite, SatS_nx, SatS_rt, SatS_stuck]
  repeat (first | rfl | (refine Sat_eq fun _ _ => ?_; try simp only [Sat_bind, Sat_noX, Sat_ok, Sat_ite, Sat_stuck, if_false_right, SatS_bindE, SatS_ite, SatS_nx, SatS_rt, SatS_stuck]))
@[simp ↓] theorem SatS_fsFor : SatSX Z (fsFor fa gt u sg st) nx rt = SatX Z (fa sg st) fun items st => SatSX Z (forL gt u items sg st) nx rt := by
  simp only [fsFor, Sat_bind, Sat_noX, Sat_ok, Sat_ite, Sat_stuck, if_false_right, SatS_bindE, SatS_ite, SatS_nx, SatS_rt, SatS_stuck]
  repeat (first | rfl | (refine Sat_eq fun _ _ => ?_; try simp only [Sat_bind, Sat_noX, Sat_ok, Sat_ite, Sat_stuck, if_false_right, SatS_bindE, SatS_ite, SatS_nx, SatS_rt, SatS_stuck]))
@[simp ↓] theorem SatS_fsFld {ok : Nat → Bool} {l : List Nat} : SatSX Z (fsFld ok l f g sg st) nx rt = SatX Z (f sg st) fun p st => SatX Z (g sg st) fun q st => SatSX Z (match setF ok l q p st with
  | some st => .nx sg st
  | none => .stuck) nx rt := by
  simp only [fsFld, Sat_bind, Sat_noX, Sat_ok, Sat_ite, Sat_stuck, if_false_right, SatS_bindE, SatS_ite, SatS_nx, SatS_rt, SatS_stuck]
  repeat (first | rfl | (refine Sat_eq fun _ _ => ?_; try simp only [Sat_bind, Sat_noX, Sat_ok, Sat_ite, Sat_stuck, if_false_right, SatS_bindE, SatS_ite, SatS_nx, SatS_rt, SatS_stuck]))
/-- x.l op= p -/
def fldAug (ok : Nat → Bool) (l : List Nat) (op : PySem.Operator) (q p : PV) (st : Store) : Option Store := match insAt q st with
  | some (_, fs) => match lookF l fs with
    | some z => match augP op z p st with
      | some y => setF ok l q y st
      | none => none
    | none => none
  | none => none
def stI (o : Option Store) (P : Store → Prop) : Prop := match o with
  | some st => P st
  | none => False
@[simp] theorem stI_some (P : Store → Prop) : stI (some st) P = P st := rfl
@[simp ↓] theorem SatS_fsFldAugC {ok : Nat → Bool} {l : List Nat} {op : PySem.Operator} {z : PV} : SatSX Z (fsFldAug ok l op (fC z) g sg st) nx rt = SatX Z (g sg st) fun q st => stI (fldAug ok l op q z st) fun st => nx sg st := by
  have e1 : fsFldAug ok l op (fC z) g sg st = bindE (g sg st) sg fun q st => match insAt q st with
    | some (c, fs) => match lookF l fs with
      | some y => match augP op y z st, insAt q st with
        | some y, some (c', _) => if c' = c then match setF ok l q y st with
          | some st => .nx sg st
          | none => .stuck else .stuck
        | _, _ => .stuck
      | none => .stuck
    | none => .stuck := rfl
  rw [e1, SatS_bindE]
  refine Sat_eq fun q st => ?_
  unfold fldAug stI
  cases hi : insAt q st with
  | none => simp
  | some cf =>
    obtain ⟨c, fs⟩ := cf
    cases hl : lookF l fs with
    | none => simp [hl]
    | some y =>
      cases ha : augP op y z st with
      | none => simp [hl, ha]
      | some w =>
        simp only [hl, ha, if_true]
        cases hs : setF ok l q w st with
        | none => simp
        | some s2 => simp
@[simp ↓] theorem SatS_fsAug {op : PySem.Operator} : SatSX Z (fsAug i op f sg st) nx rt = SatSX Z (match sg[i]? with
  | some (some p) => bindE (f sg st) sg fun q st => match augP op p q st with
    | some z => .nx (sg.set i (some z)) st
    | none => .stuck
  | _ => .stuck) nx rt := rfl
end
@[simp] theorem lift_some (p : PV) : lift (some p) st = .ok p st := rfl
@[simp] theorem lift_none : lift none st = .stuck := rfl
@[simp] theorem liftS_some (p : PV) : liftS (some (p, st)) = .ok p st := rfl
@[simp] theorem liftS_none : liftS none = .stuck := rfl
@[simp] theorem liftU_some : liftU sg (some st) = .ok sg st := rfl
@[simp] theorem liftU_none : liftU sg none = .stuck := rfl
@[simp] theorem lift_if {k : Prop} [Decidable k] (z : PV) : lift (if k then some z else none) st = if k then .ok z st else .stuck := by split <;> rfl
@[simp] theorem liftS_if {k : Prop} [Decidable k] (z : PV × Store) : liftS (if k then some z else none) = if k then .ok z.1 z.2 else .stuck := by split <;> rfl
@[simp] theorem startS_ap (n : Nat) (ps : List PV) : startS n ps = ps.map some ++ List.replicate (n - ps.length) none := rfl
@[simp] theorem newL_ap (bx : Bool) (xs : List PV) : newL bx xs st = if bx then (.ref st.length, st ++ [.lst xs]) else (.lst xs, st) := rfl
@[simp] theorem newD_ap (bx : Bool) (ks vs : List PV) : newD bx ks vs st = if bx then (.ref st.length, st ++ [.dic ks vs]) else (.dic ks vs, st) := rfl
@[simp ↓] theorem Sat_fPs_nil {Q : List (PV × PV) → Store → Prop} : SatX Z (fPs [] sg st) Q = Q [] st := by simp only [fPs, Sat_ok]
@[simp ↓] theorem Sat_fPs_cons (f g : FE) (r : List (FE × FE)) {Q : List (PV × PV) → Store → Prop} : SatX Z (fPs ((f, g) :: r) sg st) Q = SatX Z (f sg st) fun a st => SatX Z (g sg st) fun b st => SatX Z (fPs r sg st) fun l st => Q ((a, b) :: l) st := by
  simp only [fPs, Sat_bind]
  repeat (first | rfl | (refine Sat_eq fun _ _ => ?_; try simp only [Sat_bind, Sat_ok]))
@[simp] theorem wipeS_nil : wipeS sg [] = sg := rfl
@[simp] theorem wipeS_cons (v : Nat) (vs : List Nat) : wipeS sg (v :: vs) = (wipeS sg vs).set v none := rfl
@[simp] theorem frzP_tup (xs : List PV) : frzP (.tup xs) st = .ok (.tup xs) st := rfl
@[simp] theorem frzP_lst (xs : List PV) : frzP (.lst xs) st = .ok (.lst xs) st := rfl
@[simp] theorem frzP_str (xs : List Nat) : frzP (.str xs) st = .ok (.str xs) st := rfl
@[simp] theorem frzP_scr (xs : List PV) : frzP (.scr xs) st = .ok (.scr xs) st := rfl
theorem frzP_ref {n : Nat} {xs : List PV} (h : st[n]? = some (.lst xs)) : frzP (.ref n) st = .ok (.lst xs) (st.set n .dead) := by simp [frzP, h]
@[simp] theorem iterV_tup (xs : List PV) : iterV (.tup xs) st = .ok xs st := rfl
@[simp] theorem iterV_lst (xs : List PV) : iterV (.lst xs) st = .ok xs st := rfl
@[simp] theorem iterV_scr (xs : List PV) : iterV (.scr xs) st = .ok xs st := rfl
@[simp] theorem iterV_str (xs : List Nat) : iterV (.str xs) st = .ok (chrs xs) st := rfl
@[simp] theorem addP_int (i j : Int) : addP (.int i) (.int j) st = some (.int (i + j)) := rfl
@[simp] theorem subP_int (i j : Int) : subP (.int i) (.int j) st = some (.int (i - j)) := rfl
@[simp] theorem mulP_int (i j : Int) : mulP (.int i) (.int j) st = if (-(2 ^ 64) < i ∧ i < 2 ^ 64) ∨ (-(2 ^ 64) < j ∧ j < 2 ^ 64) then some (.int (i * j)) else none := rfl
@[simp] theorem modP_int (i j : Int) : modP (.int i) (.int j) st = if 0 < j then some (.int (i % j)) else none := rfl
@[simp] theorem divP_int (i j : Int) : divP (.int i) (.int j) st = if 0 < j ∧ j < 1073741824 then some (.int (i / j)) else none := rfl
@[simp] theorem truP_bl (b : Bool) : truP (.bl b) st = some b := rfl
@[simp] theorem truP_int (i : Int) : truP (.int i) st = some (i != 0) := rfl
@[simp] theorem truP_str (a : List Nat) : truP (.str a) st = some (!a.isEmpty) := rfl
@[simp] theorem truP_non : truP .non st = some false := rfl
@[simp] theorem truP_tup (xs : List PV) : truP (.tup xs) st = some (!xs.isEmpty) := rfl
@[simp] theorem truP_lst (xs : List PV) : truP (.lst xs) st = some (!xs.isEmpty) := rfl
@[simp] theorem tyP_non : tyP .non st = some .non := rfl
@[simp] theorem tyP_bl (b : Bool) : tyP (.bl b) st = some .bool := rfl
@[simp] theorem tyP_int (i : Int) : tyP (.int i) st = some .int := rfl
@[simp] theorem tyP_str (a : List Nat) : tyP (.str a) st = some .str := rfl
@[simp] theorem tyP_tup (xs : List PV) : tyP (.tup xs) st = some .tuple := rfl
@[simp] theorem tyP_lst (xs : List PV) : tyP (.lst xs) st = some .list := rfl
@[simp] theorem tyP_dic (xs ys : List PV) : tyP (.dic xs ys) st = some .dict := rfl
@[simp] theorem intB_int (i : Int) : intB [.int i] st = some (.int i, st) := rfl
@[simp] theorem rng1_int (i : Int) : rngV [.int i] st = if -(2 ^ 62) ≤ i ∧ i < 2 ^ 62 then .ok (rngL 0 i.toNat) st else .stuck := rfl
@[simp] theorem R_bind_ok {β : Type} (a : α) (f : α → Store → R β) : (R.ok a st).bind f = f a st := rfl
@[simp] theorem R_bind_stuck {β : Type} (f : α → Store → R β) : (R.stuck : R α).bind f = .stuck := rfl
@[simp] theorem bindE_ok (a : α) (k : α → Store → SR) : bindE (.ok a st) sg k = k a st := rfl
@[simp] theorem bindE_stuck (k : α → Store → SR) : bindE (.stuck : R α) sg k = .stuck := rfl
@[simp] theorem seqR_nx (v : FS) : seqR (.nx sg st) v = v sg st := rfl
@[simp] theorem seqR_rt (p : PV) (v : FS) : seqR (.rt p st) v = .rt p st := rfl
@[simp] theorem seqR_stuck (v : FS) : seqR .stuck v = .stuck := rfl
@[simp ↓] theorem SatS_forL_nil (g : FG) (body : FS) {nx : Sig → Store → Prop} {rt : PV → Store → Prop} : SatSX Z (forL g body [] sg st) nx rt = nx sg st := by simp only [forL, SatS_nx]
theorem SatS_forL_cons {g : FG} {body : FS} {p : PV} {ps : List PV} {nx : Sig → Store → Prop} {rt : PV → Store → Prop} (h : SatX Z (g p sg st) fun sg st => SatSX Z (body sg st) (fun sg st => SatSX Z (forL g body ps sg st) nx rt) rt) : SatSX Z (forL g body (p :: ps) sg st) nx rt := by
  unfold forL
  rw [SatS_bindE]
  refine h.mono fun sg1 st1 k => ?_
  cases e : body sg1 st1 with
  | nx sg2 st2 => rw [e, SatS_nx] at k; exact k
  | rt p st2 => rw [e, SatS_rt] at k; simpa using k
  | ex x sg2 st2 => rw [e, SatS_ex] at k; simpa using k
  | bk _ _ => rw [e, SatS_bk] at k; exact k.elim
  | ct _ _ => rw [e, SatS_ct] at k; exact k.elim
  | stuck => rw [e, SatS_stuck] at k; exact k.elim
@[simp] theorem ltC_int (i j : Int) : ltC (.int i) (.int j) st = some (.bl (decide (i < j))) := rfl
@[simp] theorem leC_int (i j : Int) : leC (.int i) (.int j) st = some (.bl (decide (i ≤ j))) := rfl
@[simp] theorem gtC_int (i j : Int) : gtC (.int i) (.int j) st = some (.bl (decide (j < i))) := rfl
@[simp] theorem geC_int (i j : Int) : geC (.int i) (.int j) st = some (.bl (decide (j ≤ i))) := rfl
@[simp] theorem idxP_lst (xs : List PV) (q : PV) : idxP (.lst xs) q st = match q with | .int i => L2.atI xs i | _ => none := rfl
@[simp] theorem idxP_tup (xs : List PV) (q : PV) : idxP (.tup xs) q st = match q with | .int i => L2.atI xs i | _ => none := rfl
@[simp] theorem idxP_str (a : List Nat) (i : Int) : idxP (.str a) (.int i) st = (L2.atI a i).map fun c => .str [c] := rfl
theorem idxP_ref {n : Nat} {xs : List PV} (h : st[n]? = some (.lst xs)) (i : Int) : idxP (.ref n) (.int i) st = L2.atI xs i := by simp [idxP, idxQ, asQ, asR, asL, h]
theorem idxP_dic {n : Nat} {ks vs : List PV} (h : st[n]? = some (.dic ks vs)) (q : PV) : idxP (.ref n) q st = (keyOf q).bind fun _ => lookD q ks vs := by simp [idxP, idxQ, asQ, asR, asL, asD, h]
@[simp] theorem lenB_lst (xs : List PV) : lenB [.lst xs] st = some (.int xs.length, st) := rfl
@[simp] theorem lenB_tup (xs : List PV) : lenB [.tup xs] st = some (.int xs.length, st) := rfl
@[simp] theorem lenB_str (xs : List Nat) : lenB [.str xs] st = some (.int xs.length, st) := rfl
theorem lenB_ref {n : Nat} {xs : List PV} (h : st[n]? = some (.lst xs)) : lenB [.ref n] st = some (.int xs.length, st) := by simp [lenB, asQ, asR, asL, h]
theorem setP_ref {n : Nat} {xs : List PV} (h : st[n]? = some (.lst xs)) (i : Int) (v : PV) : setP (.ref n) (.int i) v st = (ixN xs.length i).map fun m => st.set n (.lst (xs.set m v)) := by simp [setP, h]
theorem setP_dic {n : Nat} {ks vs : List PV} (h : st[n]? = some (.dic ks vs)) (q v : PV) (hz : ks.length < sizeLine) : setP (.ref n) q v st = (keyOf q).map fun _ => st.set n (.dic (putDk q ks) (putDv q v ks vs)) := by simp [setP, h, hz]
@[simp] theorem ixN_ap (n : Nat) (i : Int) : L2.ixN n i = if 0 ≤ i then (if i < n then some i.toNat else none) else if -(n : Int) ≤ i then some (i + n).toNat else none := rfl
section
variable {α : Type} {x y z u v : α} {r : List α}
@[simp] theorem atI_0 : L2.atI (x :: r) 0 = some x := by simp [L2.atI]
@[simp] theorem atI_1 : L2.atI (x :: y :: r) 1 = some y := by
  have h : (1 : Int) < (r.length : Int) + 1 + 1 := by omega
  simp [L2.atI, h]
@[simp] theorem atI_2 : L2.atI (x :: y :: z :: r) 2 = some z := by
  have h : (2 : Int) < (r.length : Int) + 1 + 1 + 1 := by omega
  simp [L2.atI, h]
@[simp] theorem atI_3 : L2.atI (x :: y :: z :: u :: r) 3 = some u := by
  have h : (3 : Int) < (r.length : Int) + 1 + 1 + 1 + 1 := by omega
  simp [L2.atI, h]
@[simp] theorem atI_4 : L2.atI (x :: y :: z :: u :: v :: r) 4 = some v := by
  have h : (4 : Int) < (r.length : Int) + 1 + 1 + 1 + 1 + 1 := by omega
  simp [L2.atI, h]
end
@[simp] theorem asR_lst (xs : List PV) : asR (.lst xs) st = some xs := rfl
@[simp] theorem asR_scr (xs : List PV) : asR (.scr xs) st = some xs := rfl
@[simp] theorem asQ_lst (xs : List PV) : asQ (.lst xs) st = some xs := rfl
@[simp] theorem asQ_scr (xs : List PV) : asQ (.scr xs) st = some xs := rfl
@[simp] theorem asQ_tup (xs : List PV) : asQ (.tup xs) st = some xs := rfl
theorem asR_ref {n : Nat} {xs : List PV} (h : st[n]? = some (.lst xs)) : asR (.ref n) st = some xs := by simp [asR, asL, h]
theorem asQ_ref {n : Nat} {xs : List PV} (h : st[n]? = some (.lst xs)) : asQ (.ref n) st = some xs := by simp [asQ, asR, asL, h]
theorem idxP_set {n : Nat} {xs : List PV} (h : n < st.length) (i : Int) : idxP (.ref n) (.int i) (st.set n (.lst xs)) = L2.atI xs i := idxP_ref (List.getElem?_set_self h) i
theorem lenB_set {n : Nat} {xs : List PV} (h : n < st.length) : lenB [.ref n] (st.set n (.lst xs)) = some (.int xs.length, st.set n (.lst xs)) := lenB_ref (List.getElem?_set_self h)
theorem setP_set {n : Nat} {xs : List PV} (h : n < st.length) (i : Int) (v : PV) : setP (.ref n) (.int i) v (st.set n (.lst xs)) = (ixN xs.length i).map fun m => st.set n (.lst (xs.set m v)) := by rw [setP_ref (List.getElem?_set_self h)]; simp
@[simp] theorem noX_ok (a : α) : noX (.ok a st) = .ok a st := rfl
@[simp] theorem noX_stuck : noX (.stuck : R α) = .stuck := rfl
theorem set_get {st : Store} {n : Nat} {c c0 : Cell} (h : st[n]? = some c0) : (st.set n c)[n]? = some c := List.getElem?_set_self (List.getElem?_eq_some_iff.mp h).1
theorem atI_ints {xs : List Int} {a : Int} (h0 : 0 ≤ a) (h1 : a < xs.length) : ∃ x, (L2.ixN (xs.map PV.int).length a).bind (fun j => (xs.map PV.int)[j]?) = some (.int x) := by
  have hl : a.toNat < xs.length := by omega
  refine ⟨xs[a.toNat], ?_⟩
  have e : L2.ixN (xs.map PV.int).length a = some a.toNat := by
    unfold L2.ixN
    rw [if_pos h0, if_pos (by rw [List.length_map]; exact h1)]
  rw [e]
  simp [hl]
end
end Pv
namespace Pv
open PySem L2
theorem Sat_fComp {ws : List Nat} {fi : FA} {g : FG} {ft : FT} {f : FE} {sg : Sig} {st : Store} {Q : PV → Store → Prop}
    (h : SatX Z (fi sg st) fun items st1 => items.length ≤ sizeLine ∧ SatX Z (compL (turnC ws g ft f sg) items st1) fun ys st2 => Q (.lst ys) st2) : SatX Z (fComp false ws fi g ft f sg st) Q := by
  unfold fComp
  rw [Sat_bind]
  refine h.mono fun items st1 ⟨h1, h2⟩ => ?_
  rw [if_pos h1, Sat_bind]
  exact h2.mono fun ys st2 k => by rw [Sat_ok]; exact k
theorem Sat_map {body : PV → Store → R (Option PV)} {φ : PV → PV} {Q : List PV → Store → Prop} {st : Store} : ∀ (ps : List PV), (∀ p ∈ ps, Sat (body p st) fun o st' => o = some (φ p) ∧ st' = st) → Q (ps.map φ) st → SatX Z (compL body ps st) Q := fun ps h q => by
  refine (Sat_comp (body := body) (Q := fun ys st' => ys = ps.map φ ∧ st' = st) (fun acc l st' => acc ++ l.map φ = ps.map φ ∧ st' = st ∧ ∀ p ∈ l, p ∈ ps) (fun acc st' ⟨e, e2, _⟩ => ⟨by simpa using e, e2⟩) (fun acc p l st' ⟨e, e2, hm⟩ => ?_) ps [] st ⟨rfl, rfl, fun _ h => h⟩).mono fun ys st' ⟨e1, e2⟩ => ?_
  · subst e2
    refine (h p (hm p List.mem_cons_self)).mono fun o st2 ⟨e3, e4⟩ => ⟨?_, e4, fun q hq => hm q (List.mem_cons_of_mem _ hq)⟩
    subst e3
    simpa using e
  · have e1 : ys = ps.map φ := by simpa using e1
    subst e1; subst e2; exact q
theorem Sat_filter {body : PV → Store → R (Option PV)} {c : PV → Bool} {φ : PV → PV} {Q : List PV → Store → Prop} {st : Store} : ∀ (ps : List PV), (∀ p ∈ ps, Sat (body p st) fun o st' => o = (if c p then some (φ p) else none) ∧ st' = st) → Q ((ps.filter c).map φ) st → SatX Z (compL body ps st) Q := fun ps h q => by
  refine (Sat_comp (body := body) (Q := fun ys st' => ys = (ps.filter c).map φ ∧ st' = st) (fun acc l st' => acc ++ (l.filter c).map φ = (ps.filter c).map φ ∧ st' = st ∧ ∀ p ∈ l, p ∈ ps) (fun acc st' ⟨e, e2, _⟩ => ⟨by simpa using e, e2⟩) (fun acc p l st' ⟨e, e2, hm⟩ => ?_) ps [] st ⟨rfl, rfl, fun _ h => h⟩).mono fun ys st' ⟨e1, e2⟩ => ?_
  · subst e2
    refine (h p (hm p List.mem_cons_self)).mono fun o st2 ⟨e3, e4⟩ => ⟨?_, e4, fun q hq => hm q (List.mem_cons_of_mem _ hq)⟩
    subst e3
    by_cases hc : c p = true
    · simp only [hc, if_true, List.filter_cons_of_pos, List.map_cons, Option.toList_some] at e ⊢
      simpa using e
    · have hc : c p = false := by simpa using hc
      simp only [hc, List.filter_cons_of_neg, Bool.false_eq_true, if_false, not_false_eq_true, Option.toList_none, List.append_nil] at e ⊢
      exact e
  · have e1 : ys = (ps.filter c).map φ := by simpa using e1
    subst e1; subst e2; exact q
end Pv
namespace Pv
open PySem L2
section
variable {st : Store}
theorem eqP_str (n : Nat) (a b : List Nat) : eqP (n + 1) (.str a) (.str b) = some (a == b) := by rw [eqP]
theorem eqP_int (n : Nat) (a b : Int) : eqP (n + 1) (.int a) (.int b) = some (a == b) := by rw [eqP]
theorem eqP_bl (n : Nat) (a b : Bool) : eqP (n + 1) (.bl a) (.bl b) = some (a == b) := by rw [eqP]
theorem eqB_str (a b : List Nat) : eqB (.str a) (.str b) st = some (a == b) := by unfold eqB; exact eqP_str 199 a b
theorem eqB_int (a b : Int) : eqB (.int a) (.int b) st = some (a == b) := by unfold eqB; exact eqP_int 199 a b
theorem eqB_bl (a b : Bool) : eqB (.bl a) (.bl b) st = some (a == b) := by unfold eqB; exact eqP_bl 199 a b
@[simp] theorem eqC_str (a b : List Nat) : eqC (.str a) (.str b) st = some (.bl (a == b)) := by rw [eqC, eqB_str, Option.map_some]
@[simp] theorem neC_str (a b : List Nat) : neC (.str a) (.str b) st = some (.bl (!(a == b))) := by rw [neC, eqB_str, Option.map_some]
@[simp] theorem eqC_int (a b : Int) : eqC (.int a) (.int b) st = some (.bl (a == b)) := by rw [eqC, eqB_int, Option.map_some]
@[simp] theorem neC_int (a b : Int) : neC (.int a) (.int b) st = some (.bl (!(a == b))) := by rw [neC, eqB_int, Option.map_some]
@[simp] theorem eqC_bl (a b : Bool) : eqC (.bl a) (.bl b) st = some (.bl (a == b)) := by rw [eqC, eqB_bl, Option.map_some]
@[simp] theorem neC_bl (a b : Bool) : neC (.bl a) (.bl b) st = some (.bl (!(a == b))) := by rw [neC, eqB_bl, Option.map_some]
@[simp] theorem inC_chr (c : Nat) (b : List Nat) : inC (.str [c]) (.str b) st = some (.bl (b.contains c)) := rfl
@[simp] theorem ninC_chr (c : Nat) (b : List Nat) : ninC (.str [c]) (.str b) st = some (.bl (!b.contains c)) := rfl
theorem boolL_map {α : Type} (f : α → Bool) : ∀ l : List α, boolL (l.map fun x => PV.bl (f x)) = some (l.map f)
  | [] => rfl
  | x :: r => by
    have ih := boolL_map f r
    simp [boolL, ih]
theorem allB_map {α : Type} (f : α → Bool) (l : List α) : allB [.lst (l.map fun x => PV.bl (f x))] st = some (.bl (l.all f), st) := by
  simp [allB, boolL_map]
end
end Pv
namespace Pv
open PySem L2
theorem SatS_whileF {c : FT} {body : FS} {nx : Sig → Store → Prop} {rt : PV → Store → Prop} {sg : Sig} {st : Store} (I : Nat → Sig → Store → Prop) (n : Nat) (hn : n < 1000000000) (hi : I n sg st)
    (h : ∀ n sg st, I n sg st → SatX Z (c sg st) fun b st => if b then SatSX Z (body sg st) (fun sg st => ∃ m, m < n ∧ I m sg st) rt else nx sg st) : SatSX Z (fsWhile c body sg st) nx rt :=
  SatS_while I h fuelW n sg st hn hi
theorem set_self {st : Store} {n : Nat} {c : Cell} (h : st[n]? = some c) : st.set n c = st := by
  refine List.ext_getElem? fun k => ?_
  by_cases e : n = k
  · subst e
    rw [List.getElem?_set_self (List.getElem?_eq_some_iff.mp h).1, h]
  · rw [List.getElem?_set_ne e]
/-- all cells but n stay; more may come -/
def Frn (n : Nat) (st st' : Store) : Prop := st.length ≤ st'.length ∧ ∀ k, k ≠ n → k < st.length → st'[k]? = st[k]?
theorem Frn.refl (n : Nat) (st : Store) : Frn n st st := ⟨Nat.le_refl _, fun _ _ _ => rfl⟩
theorem Frn.trans {n : Nat} {a b c : Store} (h : Frn n a b) (k : Frn n b c) : Frn n a c := ⟨Nat.le_trans h.1 k.1, fun j h0 h1 => (k.2 j h0 (Nat.lt_of_lt_of_le h1 h.1)).trans (h.2 j h0 h1)⟩
theorem Frn.set (n : Nat) (st : Store) (c : Cell) : Frn n st (st.set n c) := ⟨by simp, fun k h0 _ => by rw [List.getElem?_set_ne (Ne.symm h0)]⟩
theorem Frn.app (n : Nat) (st : Store) (c : Cell) : Frn n st (st ++ [c]) := ⟨by simp, fun k _ h => List.getElem?_append_left h⟩
theorem Frn.get {n : Nat} {st st' : Store} (h : Frn n st st') {k : Nat} {c : Cell} (h0 : k ≠ n) (e : st[k]? = some c) : st'[k]? = some c := (h.2 k h0 (List.getElem?_eq_some_iff.mp e).1).trans e
theorem app_new (st : Store) (c : Cell) : (st ++ [c])[st.length]? = some c := by simp
end Pv
namespace Pv
open PySem L2
section
variable {st : Store} {n : Nat} {xs : List PV}
theorem isLst_ref (h : st[n]? = some (.lst xs)) : isLst (.ref n) st = true := by simp [isLst, h]
theorem appM_ref (h : st[n]? = some (.lst xs)) (hz : xs.length < sizeLine) (q : PV) : appM (.ref n) [q] st = some (.non, st.set n (.lst (xs ++ [q]))) := by simp [appM, h, hz]
theorem lst_set {k : Nat} {c : Cell} {c0 : Option Cell} (h : st[k]? = c0) (hk : n ≠ k) : (st.set n c)[k]? = c0 := by rw [List.getElem?_set_ne hk]; exact h
end
end Pv
namespace Pv
open PySem L2
section
variable {A B : FS} {c : FT} {sg : Sig} {st : Store} {nx : Sig → Store → Prop} {rt : PV → Store → Prop}
theorem SatS_then (h : SatSX Z (A sg st) (fun sg st => SatSX Z (B sg st) nx rt) rt) : SatSX Z (fsSeq A B sg st) nx rt := by
  show SatSX Z (seqR (A sg st) B) nx rt
  rw [SatS_seq]
  exact h
theorem SatS_fsIf {u v : FS} (h : SatX Z (c sg st) fun b st => SatSX Z (if b then u sg st else v sg st) nx rt) : SatSX Z (fsIf c u v sg st) nx rt := by
  show SatSX Z (bindE (c sg st) sg fun b st => if b then u sg st else v sg st) nx rt
  rw [SatS_bindE]
  exact h
end
end Pv
namespace Pv
open PySem L2
section
variable {Z : Exc → Store → Prop} {sg : Sig} {st : Store} {nx : Sig → Store → Prop} {rt : PV → Store → Prop} {f : FE} {u : FS} {c : Nat} {l : List (Nat × Bool)} {p : PV}
@[simp ↓] theorem SatS_fsRaise : SatSX Z (fsRaise c f sg st) nx rt = SatX Z (f sg st) fun _ st => Z ⟨c, none⟩ st := by
  unfold fsRaise
  rw [SatS_bindE]
  exact Sat_eq fun _ _ => SatS_ex _ _ _
theorem SatS_fsTry (h : SatSX (fun x st' => l.lookup x.c = some true ∧ rt p st') (u sg st) nx rt) : SatSX Z (fsTry l u p sg st) nx rt := by
  obtain ⟨h⟩ := h
  unfold fsTry
  cases e : u sg st with
  | nx sg1 st1 => rw [e] at h; rw [SatS_nx]; exact h
  | rt p1 st1 => rw [e] at h; rw [SatS_rt]; exact h
  | ex x sg1 st1 =>
    rw [e] at h
    have h : l.lookup x.c = some true ∧ rt p st1 := h
    simp only [h.1, SatS_rt]
    exact h.2
  | bk sg1 st1 => rw [e] at h; exact h.elim
  | ct sg1 st1 => rw [e] at h; exact h.elim
  | stuck => rw [e] at h; exact h.elim
end
end Pv
namespace Pv
open PySem L2
theorem Sat.to {α : Type} {Z : Exc → Store → Prop} {r : R α} {Q : α → Store → Prop} (h : Sat r Q) : SatX Z r Q := Sat.mono h fun _ _ q => q
theorem SatS.to {Z : Exc → Store → Prop} {r : SR} {nx : Sig → Store → Prop} {rt : PV → Store → Prop} (h : SatS r nx rt) : SatSX Z r nx rt := SatS.mono h (fun _ _ q => q) fun _ _ q => q
end Pv
set_option maxHeartbeats 4000000
/-! Pv, part KI: a def that tells of what classes an exception is (lines of `if isinstance(e, C): found.append(..)`). -/
namespace Pv
open PySem PySem.Spec PyProof.Rows PySem.SeqAt L2
/-- one line: asked the other way round; the class; the text; the places -/
structure KL where
  neg : Bool
  c : Str
  s : Str
  P : List Pos
def ps0 : Pos := ⟨0, 0, 0, 0⟩
def KL.p (l : KL) (i : Nat) : Pos := l.P.getD i ps0
def kCall (y : Str) (l : KL) : Expr := .Call (.Name "isinstance" (l.p 0)) [.Name y (l.p 1), .Name l.c (l.p 2)] [] (l.p 3)
def kTest (y : Str) (l : KL) : Expr := match l.neg with
  | true => .UnaryOp .Not (kCall y l) (l.p 4)
  | false => kCall y l
def kSt (y r : Str) (l : KL) : Stmt := .If (kTest y l) [.Expr (.Call (.Attribute (.Name r (l.p 5)) "append" (l.p 6)) [.Constant (.str l.s) 0 (l.p 7)] [] (l.p 8)) (l.p 9)] [] (l.p 10)
def kRest (y r : Str) (Q : List Pos) : List KL → List Stmt
  | [] => [.Return (some (.Name r (Q.getD 3 ps0))) (Q.getD 4 ps0)]
  | l :: ls => kSt y r l :: kRest y r Q ls
def kBody (y r : Str) (Q : List Pos) (ls : List KL) : List Stmt := .Assign [.Name r (Q.getD 0 ps0)] (.List [] (Q.getD 1 ps0)) (Q.getD 2 ps0) :: kRest y r Q ls
def kT (a : Addr) (l : KL) (b : Bool) : FT := match l.neg with
  | true => tfNot (fTru (fIsX a b (fVar 0)))
  | false => fTru (fIsX a b (fVar 0))
def kOne (a : Addr) (l : KL) (b : Bool) : FS := fsIf (kT a l b) (fsSeq (fsDrop (fBM isLst appM (fVar 1) (faCons (fC (.str l.s.cps.toList)) faNil))) fsNil) fsNil
def kF (a : Addr) : List (KL × Bool) → FS
  | [] => fsSeq (fsRet (fVar 1)) fsNil
  | p :: r => fsSeq (kOne a p.1 p.2) (kF a r)
def kFF (a : Addr) (ls : List (KL × Bool)) : FS := fsSeq (fsAsg (fLst true faNil) (gtName 1)) (kF a ls)
def kOn (p : KL × Bool) : Bool := p.2 != p.1.neg
theorem kOne_eq {a : Addr} {l : KL} {b : Bool} {st : Store} {acc : List PV} (hz : acc.length < sizeLine) :
    kOne a l b [some (.adr a), some (.ref st.length)] (st ++ [.lst acc]) = .nx [some (.adr a), some (.ref st.length)] (st ++ [.lst (acc ++ if kOn (l, b) then [.str l.s.cps.toList] else [])]) := by
  have hc : (st ++ [Cell.lst acc])[st.length]? = some (.lst acc) := app_new _ _
  have t : ∀ c : Bool, fTru (fIsX a c (fVar 0)) [some (.adr a), some (.ref st.length)] (st ++ [Cell.lst acc]) = .ok c (st ++ [Cell.lst acc]) := fun c => by
    simp [fTru, fIsX, fVar, R.bind, truP]
  have ap : fsSeq (fsDrop (fBM isLst appM (fVar 1) (faCons (fC (.str l.s.cps.toList)) faNil))) fsNil [some (.adr a), some (.ref st.length)] (st ++ [Cell.lst acc]) = .nx [some (.adr a), some (.ref st.length)] (st ++ [Cell.lst (acc ++ [.str l.s.cps.toList])]) := by
    have e : fBM isLst appM (fVar 1) (faCons (fC (.str l.s.cps.toList)) faNil) [some (.adr a), some (.ref st.length)] (st ++ [Cell.lst acc]) = .ok .non (st ++ [Cell.lst (acc ++ [.str l.s.cps.toList])]) := by
      simp only [fBM, fVar, faCons, faNil, fC, R.bind, List.getElem?_cons_succ, List.getElem?_cons_zero, isLst_ref hc, if_true, appM_ref hc hz, liftS]
      simp
    simp only [fsSeq, fsDrop, e, bindE, seqR, fsNil]
  unfold kOne kT fsIf kOn
  cases hn : l.neg <;> cases b <;> simp only [tfNot, t, R.bind, bindE, ap, fsNil] <;> simp
theorem kF_eq {a : Addr} {st : Store} : ∀ (ls : List (KL × Bool)) (acc : List PV), acc.length + ls.length < 1000 →
    kF a ls [some (.adr a), some (.ref st.length)] (st ++ [.lst acc]) = .rt (.ref st.length) (st ++ [.lst (acc ++ (ls.filter kOn).map fun p => .str p.1.s.cps.toList)])
  | [], acc, _ => by simp [kF, fsSeq, fsRet, fVar, bindE, seqR]
  | p :: r, acc, h => by
    rw [List.length_cons] at h
    unfold kF
    show seqR (kOne a p.1 p.2 _ _) (kF a r) = _
    rw [kOne_eq (by rw [sizeLine_eq]; omega)]
    show kF a r _ _ = _
    have := kF_eq (a := a) (st := st) r (acc ++ if kOn (p.1, p.2) then [.str p.1.s.cps.toList] else []) (by split <;> simp <;> omega)
    rw [this]
    cases hk : kOn p with
    | true => simp [hk]
    | false => simp [hk]
theorem kFF_eq {a : Addr} {st : Store} {ls : List (KL × Bool)} (h : ls.length < 1000) : fnF 1 2 (kFF a ls) [.adr a] st = hotF ((ls.filter kOn).map fun p => p.1.s.cps.toList) [.adr a] st := by
  have e : kFF a ls [some (.adr a), none] st = .rt (.ref st.length) (st ++ [.lst ((ls.filter kOn).map fun p => .str p.1.s.cps.toList)]) := by
    unfold kFF
    have e1 : fsAsg (fLst true faNil) (gtName 1) [some (.adr a), none] st = .nx [some (.adr a), some (.ref st.length)] (st ++ [.lst []]) := by
      simp [fsAsg, fLst, faNil, R.bind, bindE, gtName, newL]
    show seqR (fsAsg (fLst true faNil) (gtName 1) _ _) (kF a ls) = _
    rw [e1]
    show kF a ls _ _ = _
    rw [kF_eq ls [] (by simpa using h), List.nil_append]
  unfold fnF startS hotF
  simp only [List.length_singleton, if_true, List.map_cons, List.map_nil]
  show (match kFF a ls [some (.adr a), none] st with
    | .nx _ st => R.ok PV.non st
    | .rt p st => .ok p st
    | .ex x _ st => .ex x st
    | _ => .stuck) = _
  rw [e]
  simp [List.map_map, Function.comp_def]
/-- what is known of a line's class -/
def KCl (K : PySem.W.Frag) (mg : Str → Option Value) (sc : Scope) (D : Addr) (p : KL × Bool) : Prop :=
  (sc.names.lookup p.1.c = some .globalImplicit ∧ okName p.1.c = true ∧ ((p.1.p 6).endLine == (p.1.p 8).line) = true ∧ p.1.s.cps.toList.length ≤ 100000) ∧
  ((∃ Ca, mg p.1.c = some (.ref Ca) ∧ PySem.W.kitOne K (.ref D) (.ref Ca) = some p.2) ∨ (∃ t, mg p.1.c = none ∧ bootBuiltins p.1.c = some (.type t) ∧ PySem.W.kitOne K (.ref D) (.type t) = some p.2))
section
variable {X : Cx} {T : Txt} {Wx : WX} {a D : Addr} {oe : Obj} {y r : Str}
theorem ds_kind (hK : T.K = X.K) (hp : (a, oe) ∈ X.pn) (C : ExcC X.K D) (hz : L2.Zc (.ref D) none oe) (hf : ∃ vs, oe.data = .fields vs) (hN : X.N = [y, r])
    (sy : X.env.scope.names.lookup y = some .local) (sr : X.env.scope.names.lookup r = some .local) (oy : okName y = true) (orr : okName r = true) (gi : Gl X "isinstance") (mi : X.mg "isinstance" = none) {p : KL × Bool} (h : KCl X.K X.mg X.env.scope D p) :
    PS X (kSt y r p.1) (TSv T Wx (kOne a p.1 p.2)) := by
  obtain ⟨⟨k1, k2, k3, k4⟩, k5⟩ := h
  have n0 : X.N[0]? = some y := by rw [hN]; rfl
  have n1 : X.N[1]? = some r := by rw [hN]; rfl
  have call : PE X (kCall y p.1) (TEv T Wx (fIsX a p.2 (fVar 0))) := by
    rcases k5 with ⟨Ca, m, k⟩ | ⟨t, m, bt, k⟩
    · exact de_isX hp C hz hf gi mi (de_var hK n0 (.inl sy) (okName_of oy).1 (okName_of oy).2.1) rfl (pe_glob (v := .ref Ca) k1 m rfl (okName_of k2).1) (fun u ru => ru) k
    · exact de_isX hp C hz hf gi mi (de_var hK n0 (.inl sy) (okName_of oy).1 (okName_of oy).2.1) rfl (pe_bltn (v := .ty t) k1 m bt rfl (okName_of k2).2.2 (okName_of k2).1) (fun u ru => ru) k
  have test : PT X (kTest y p.1) (TTv T Wx (kT a p.1 p.2)) := by
    unfold kTest kT
    cases p.1.neg with
    | true => exact dt_not (dt_val hK call rfl)
    | false => exact dt_val hK call rfl
  refine ds_if test (dss_cons (ds_expr ?_ rfl) dss_nil) dss_nil
  exact de_bm hK (@fun _ _ _ S _ _ r h => isLst_at S r h) F.plainAttrs_list F.slot_list_append F.type_list_append (meApp hK) (de_var hK n1 (.inl sr) (okName_of orr).1 (okName_of orr).2.1) (da_cons (de_str (by rw [sizeLine_eq]; omega)) da_nil rfl) rfl rfl (Nat.lt_of_sub_eq_succ rfl) k3
theorem ds_kinds (hK : T.K = X.K) (hp : (a, oe) ∈ X.pn) (C : ExcC X.K D) (hz : L2.Zc (.ref D) none oe) (hf : ∃ vs, oe.data = .fields vs) (hN : X.N = [y, r]) (hyr : y ≠ r) (hk : X.env.scope.kind = .function)
    (sy : X.env.scope.names.lookup y = some .local) (sr : X.env.scope.names.lookup r = some .local) (oy : okName y = true) (orr : okName r = true) (gi : Gl X "isinstance") (mi : X.mg "isinstance" = none) {Q : List Pos} {ls : List (KL × Bool)} (h : ∀ p ∈ ls, KCl X.K X.mg X.env.scope D p) :
    PSs X (kBody y r Q (ls.map (·.1))) (TSv T Wx (kFF a ls)) := by
  have n1 : X.N[1]? = some r := by rw [hN]; rfl
  have nd : X.N.Nodup := by rw [hN]; simp [hyr]
  refine dss_cons (ds_asg rfl hk (de_lst true da_nil) (dg_name nd n1 (.inl sr) (.inr sr)) rfl rfl rfl) ?_
  have rest : ∀ ls : List (KL × Bool), (∀ p ∈ ls, KCl X.K X.mg X.env.scope D p) → PSs X (kRest y r Q (ls.map (·.1))) (TSv T Wx (kF a ls)) := by
    intro ls
    induction ls with
    | nil => exact fun _ => dss_cons (ds_ret (de_var hK n1 (.inl sr) (okName_of orr).1 (okName_of orr).2.1)) dss_nil
    | cons p r ih => exact fun h => dss_cons (ds_kind hK hp C hz hf hN sy sr oy orr gi mi (h p List.mem_cons_self)) (ih fun q hq => h q (List.mem_cons_of_mem _ hq))
  exact rest ls h
end
theorem fn_kinds {P : Program} {w : World} {K : PySem.W.Frag} {mg : Str → Option Value} {base : Heap} {T : Txt} {x qual y r : Str} {st : Stmt} {f D : Addr} {fd : FuncData} {Q : List Pos} {ls : List (KL × Bool)} (hK : T.K = K) (F : L2.Fun K x qual st f fd) (S : FnScope [y, r] [y] (defScope st))
    (hb : defBody st = kBody y r Q (ls.map (·.1))) (sy : (defScope st).names.lookup y = some .local) (sr : (defScope st).names.lookup r = some .local) (oy : okName y = true) (orr : okName r = true) (gi : (defScope st).names.lookup ("isinstance" : Str) = some .globalImplicit) (mi : mg "isinstance" = none)
    (C : ExcC K D) (h : ∀ p ∈ ls, KCl K mg (defScope st) D p) (hl : ls.length < 1000) : FnHot P w K mg base T f fd y D ((ls.filter kOn).map fun p => p.1.s.cps.toList) := by
  have hyr : y ≠ r := by have := S.nd; simp at this; exact this
  refine fn_hot (b := fun a => kFF a ls) F S (fun cdv A outer s H a oe hz hf => ?_) fun a st => kFF_eq hl
  rw [hb]
  exact ds_kinds (X := L2H.cxH (L2.CX P w) P w K mg base [y, r] qual (defScope st) f cdv A outer s H (fun _ _ _ => False) (a, oe)) hK List.mem_cons_self C hz hf rfl hyr S.kind sy sr oy orr gi mi h
/-- isinstance of an own class of exceptions -/
theorem kit_own {K : PySem.W.Frag} {D C : Addr} {b : Bool} (hc : PySem.W.isClsIn K C = true) (ht : PySem.W.typeIn K (.ref C) = some (.type "type")) (hs : PySem.W.subIn K (.ref D) (.ref C) = some b) (hb : D = C → b = true) : PySem.W.kitOne K (.ref D) (.ref C) = some b := by
  have q : (PySem.W.clsIn K C).isSome = true := hc
  unfold PySem.W.kitOne
  by_cases e : D = C
  · subst e
    rw [if_pos (beq_self_eq_true _), hb rfl]
  · rw [if_neg (by simpa using e)]
    show (if ((PySem.W.clsIn K C).isSome && (PySem.W.typeIn K (.ref C) == some (.type "type"))) = true then _ else none) = _
    rw [q, ht, if_pos (by rw [Bool.true_and]; exact beq_self_eq_true _)]
    exact hs
theorem kit_blt {K : PySem.W.Frag} {D : Addr} {t : String} {b : Bool} (hm : PySem.W.kitMeta t = true) (hs : PySem.W.subIn K (.ref D) (.type t) = some b) : PySem.W.kitOne K (.ref D) (.type t) = some b := by
  unfold PySem.W.kitOne
  rw [if_neg (by simp)]
  show (if PySem.W.kitMeta t = true then _ else none) = _
  rw [if_pos hm]
  exact hs
/-- what except names, a class above -/
theorem exm_sub {C D : Addr} {K : PySem.W.Frag} {b : Bool} (hb : PySem.W.subIn K (.ref C) (.type "BaseException") = some true) (hc : PySem.W.isClsIn K C = true) (ht : PySem.W.typeIn K (.ref C) = some (.type "type")) (hs : PySem.W.subIn K (.ref D) (.ref C) = some b) : PySem.W.exmOne K (.ref D) (.ref C) = some b := by
  have q : (PySem.W.clsIn K C).isSome = true := hc
  unfold PySem.W.exmOne
  rw [hb, if_pos (beq_self_eq_true _)]
  show (if ((PySem.W.clsIn K C).isSome && (PySem.W.typeIn K (.ref C) == some (.type "type"))) = true then _ else none) = _
  rw [q, ht, if_pos (by rw [Bool.true_and]; exact beq_self_eq_true _)]
  exact hs
end Pv
/-! Nrm, part A: programs in normal form as plain data; dicts by names. -/
namespace Nrm
open Pv

abbrev Nm := List Nat
inductive Kd where
  | b | n (m : Int)
  deriving DecidableEq
def Kd.pv : Kd → PV
  | .b => .tup [.str [98, 111, 111, 108]]
  | .n m => .tup [.str [110, 117, 109], .int m]
def Kd.size : Kd → Int
  | .b => 2
  | .n m => m
def inK (k : Kd) (v : Int) : Prop := 0 ≤ v ∧ v < k.size
abbrev Ck := List (Nm × Int)
def cpv (p : Nm × Int) : PV := .tup [.str p.1, .int p.2]
def ckpv (c : Ck) : PV := .tup (c.map cpv)
abbrev Row := Nm × Kd × Ck
def rowpv (r : Row) : PV := .tup [.str r.1, r.2.1.pv, ckpv r.2.2]
abbrev Io := Nm × Kd
def iopv (r : Io) : PV := .tup [.str r.1, r.2.pv]
/-- plus, minus, times; less, same -/
inductive Wo where
  | plus | minus | times | less | same
  deriving DecidableEq
def Wo.nm : Wo → Nm
  | .plus => [112, 108, 117, 115]
  | .minus => [109, 105, 110, 117, 115]
  | .times => [116, 105, 109, 101, 115]
  | .less => [108, 101, 115, 115]
  | .same => [115, 97, 109, 101]
def Wo.arith : Wo → Bool
  | .plus => true | .minus => true | .times => true | _ => false
inductive Op where
  | value (v : Int) | copy (a : Nm) | math (w : Wo) (a b : Nm) | not (a : Nm) | choose (c a b : Nm) | when (a : Nm) | merge (c a b : Nm)
def Op.pv : Op → PV
  | .value v => .tup [.str [118, 97, 108, 117, 101], .int v]
  | .copy a => .tup [.str [99, 111, 112, 121], .str a]
  | .math w a b => .tup [.str [109, 97, 116, 104], .str w.nm, .str a, .str b]
  | .not a => .tup [.str [110, 111, 116], .str a]
  | .choose c a b => .tup [.str [99, 104, 111, 111, 115, 101], .str c, .str a, .str b]
  | .when a => .tup [.str [119, 104, 101, 110], .str a]
  | .merge c a b => .tup [.str [109, 101, 114, 103, 101], .str c, .str a, .str b]
inductive Eqn where
  | is (x : Nm) (o : Op) | mem (x : Nm) (v : Int) (s : Nm) | node (xs : List Nm) (f : Nm) (as : List Nm) (r : Nm)
def snms (l : List Nm) : PV := .tup (l.map .str)
def Eqn.pv : Eqn → PV
  | .is x o => .tup [.str [105, 115], .str x, o.pv]
  | .mem x v s => .tup [.str [109, 101, 109, 111, 114, 121], .str x, .int v, .str s]
  | .node xs f as r => .tup [.str [110, 111, 100, 101], snms xs, .str f, snms as, .str r]
structure Node where
  name : Nm
  ins : List Io
  outs : List Io
  rows : List Row
  eqs : List Eqn
def Node.pv (N : Node) : PV := .tup [.str N.name, .tup (N.ins.map iopv), .tup (N.outs.map iopv), .tup (N.rows.map rowpv), .tup (N.eqs.map Eqn.pv)]
/-- what a node shows of itself -/
abbrev Sg := Nm × List Io × List Io
def Node.sg (N : Node) : Sg := (N.name, N.ins, N.outs)
def sgpv (s : Sg) : PV := .tup [.str s.1, .tup (s.2.1.map iopv), .tup (s.2.2.map iopv)]

/-! ### dicts by names -/
abbrev Al := List (Nm × PV)
def dk (al : Al) : List PV := al.map fun p => .str p.1
def dv (al : Al) : List PV := al.map (·.2)
def getA (x : Nm) : Al → Option PV
  | [] => none
  | (y, v) :: r => if y = x then some v else getA x r
def putA (x : Nm) (v : PV) : Al → Al
  | [] => [(x, v)]
  | (y, u) :: r => if y = x then (y, v) :: r.map (fun p => if p.1 = x then (p.1, v) else p) else (y, u) :: putA x v r
theorem keyEq_strs (a b : Nm) : keyEq (.str a) (.str b) = decide (a = b) := by
  show (a == b) = _
  by_cases h : a = b
  · simp [h]
  · simp [h]
theorem hasD_str (x : Nm) : ∀ al : Al, hasD (.str x) (dk al) = al.any fun p => decide (p.1 = x)
  | [] => rfl
  | (y, v) :: r => by
    have ih := hasD_str x r
    unfold hasD dk at ih ⊢
    rw [List.map_cons, List.any_cons, List.any_cons, keyEq_strs, ih]
theorem lookD_str (x : Nm) : ∀ al : Al, lookD (.str x) (dk al) (dv al) = getA x al
  | [] => rfl
  | (y, v) :: r => by
    show (if keyEq (.str y) (.str x) = true then some v else lookD (.str x) (dk r) (dv r)) = if y = x then some v else getA x r
    rw [keyEq_strs, lookD_str x r]
    by_cases h : y = x <;> simp [h]
theorem repD_str (x : Nm) (v : PV) : ∀ al : Al, repD (.str x) v (dk al) (dv al) = dv (al.map fun p => if p.1 = x then (p.1, v) else p)
  | [] => rfl
  | (y, u) :: r => by
    show (if keyEq (.str y) (.str x) = true then v else u) :: repD (.str x) v (dk r) (dv r) = _
    rw [keyEq_strs, repD_str x v r]
    by_cases h : y = x
    · simp [h, dv]
    · simp [h, dv]
theorem dk_map (x : Nm) (v : PV) (al : Al) : dk (al.map fun p => if p.1 = x then (p.1, v) else p) = dk al := by
  unfold dk
  rw [List.map_map]
  exact List.map_congr_left fun p _ => by show PV.str (if p.1 = x then (p.1, v) else p).1 = _; split <;> rfl
theorem putDk_str (x : Nm) (v : PV) : ∀ al : Al, putDk (.str x) (dk al) = dk (putA x v al)
  | [] => rfl
  | (y, u) :: r => by
    have ih := putDk_str x v r
    unfold putDk at ih ⊢
    rw [hasD_str] at ih ⊢
    unfold putA
    by_cases h : y = x
    · rw [if_pos h]
      have : (((y, u) :: r).any fun p => decide (p.1 = x)) = true := by simp [h]
      rw [if_pos this]
      show _ = PV.str y :: dk (r.map fun p => if p.1 = x then (p.1, v) else p)
      rw [dk_map]; rfl
    · rw [if_neg h]
      have : (((y, u) :: r).any fun p => decide (p.1 = x)) = r.any fun p => decide (p.1 = x) := by simp [h]
      rw [this]
      show _ = PV.str y :: dk (putA x v r)
      rw [← ih]
      split <;> rfl
theorem putDv_str (x : Nm) (v : PV) : ∀ al : Al, putDv (.str x) v (dk al) (dv al) = dv (putA x v al)
  | [] => rfl
  | (y, u) :: r => by
    have ih := putDv_str x v r
    unfold putDv at ih ⊢
    rw [hasD_str] at ih ⊢
    unfold putA
    by_cases h : y = x
    · rw [if_pos h]
      have : (((y, u) :: r).any fun p => decide (p.1 = x)) = true := by simp [h]
      rw [if_pos this, repD_str]
      show dv ((if y = x then (y, v) else (y, u)) :: r.map fun p => if p.1 = x then (p.1, v) else p) = _
      rw [if_pos h]
    · rw [if_neg h]
      have : (((y, u) :: r).any fun p => decide (p.1 = x)) = r.any fun p => decide (p.1 = x) := by simp [h]
      rw [this]
      show _ = u :: dv (putA x v r)
      rw [← ih, repD_str, repD_str]
      split
      · show dv ((if y = x then (y, v) else (y, u)) :: _) = _
        rw [if_neg h]; rfl
      · rfl
theorem getA_put (x y : Nm) (v : PV) : ∀ al : Al, getA y (putA x v al) = if y = x then some v else getA y al
  | [] => by
    show (if x = y then some v else none) = _
    by_cases h : y = x
    · simp [h]
    · simp [h, Ne.symm h, getA]
  | (z, u) :: r => by
    have mp : ∀ l : Al, y ≠ x → getA y (l.map fun p => if p.1 = x then (p.1, v) else p) = getA y l := fun l hne => by
      induction l with
      | nil => rfl
      | cons p l ih =>
        rw [List.map_cons]
        by_cases hp : p.1 = x
        · rw [if_pos hp]
          show (if p.1 = y then some v else getA y _) = (if p.1 = y then some p.2 else getA y l)
          rw [if_neg (fun e => hne (e.symm.trans hp)), if_neg (fun e => hne (e.symm.trans hp)), ih]
        · rw [if_neg hp]
          show (if p.1 = y then some p.2 else getA y _) = (if p.1 = y then some p.2 else getA y l)
          rw [ih]
    unfold putA
    by_cases h : z = x
    · rw [if_pos h]
      show (if z = y then some v else getA y _) = _
      by_cases hy : y = x
      · rw [if_pos (h.trans hy.symm), if_pos hy]
      · rw [if_neg (fun e => hy (e.symm.trans h)), if_neg hy, mp r hy]
        show _ = (if z = y then some u else getA y r)
        rw [if_neg (fun e => hy (e.symm.trans h))]
    · rw [if_neg h]
      show (if z = y then some u else getA y (putA x v r)) = _
      rw [getA_put x y v r]
      by_cases hy : y = x
      · rw [if_pos hy, if_neg (fun e => h (e.trans hy)), if_pos hy]
      · rw [if_neg hy, if_neg hy]; rfl
theorem putA_len (x : Nm) (v : PV) : ∀ al : Al, (putA x v al).length ≤ al.length + 1
  | [] => Nat.le_refl _
  | (y, u) :: r => by
    unfold putA
    split
    · simp
    · have := putA_len x v r
      simp only [List.length_cons]
      omega
/-- many entries put -/
def putsA (more : Al) (al : Al) : Al := more.foldl (fun a p => putA p.1 p.2 a) al
theorem putsA_len : ∀ (more al : Al), (putsA more al).length ≤ al.length + more.length
  | [], al => Nat.le_refl _
  | p :: r, al => by
    have h1 := putsA_len r (putA p.1 p.2 al)
    have h2 := putA_len p.1 p.2 al
    show (putsA r (putA p.1 p.2 al)).length ≤ _
    simp only [List.length_cons]
    omega
theorem mrgD_str : ∀ (more al : Al), mrgD (dk more) (dv more) (dk al) (dv al) = (dk (putsA more al), dv (putsA more al))
  | [], al => rfl
  | (x, v) :: r, al => by
    show mrgD (dk r) (dv r) (putDk (.str x) (dk al)) (putDv (.str x) v (dk al) (dv al)) = _
    rw [putDk_str x v al, putDv_str x v al, mrgD_str r]
    rfl
/-- the last entry for x -/
theorem getA_puts (y : Nm) : ∀ (more al : Al), (∀ p ∈ more, p.1 ≠ y) → getA y (putsA more al) = getA y al
  | [], al, _ => rfl
  | p :: r, al, h => by
    show getA y (putsA r (putA p.1 p.2 al)) = _
    rw [getA_puts y r _ fun q hq => h q (List.mem_cons_of_mem _ hq), getA_put, if_neg (Ne.symm (h p List.mem_cons_self))]
theorem getA_puts_mem {y : Nm} {v : PV} : ∀ {more al : Al}, (more.map (·.1)).Nodup → (y, v) ∈ more → getA y (putsA more al) = some v
  | [], _, _, h => absurd h (by simp)
  | p :: r, al, nd, h => by
    rw [List.map_cons, List.nodup_cons] at nd
    show getA y (putsA r (putA p.1 p.2 al)) = _
    rcases List.mem_cons.mp h with e | h
    · subst e
      rw [getA_puts y r _ fun q hq e => nd.1 (List.mem_map.mpr ⟨q, hq, e⟩), getA_put, if_pos rfl]
    · exact getA_puts_mem nd.2 h
/-- a list of names with values, laid into an empty dict -/
theorem zipD_str : ∀ (xs : List Nm) (ys : List PV) (al : Al), zipD (xs.map .str) ys (dk al) (dv al) = some (dk (putsA (xs.zip ys) al), dv (putsA (xs.zip ys) al))
  | [], ys, al => by cases ys <;> rfl
  | x :: xs, [], al => rfl
  | x :: xs, y :: ys, al => by
    have e : zipD ((x :: xs).map PV.str) (y :: ys) (dk al) (dv al) = zipD (xs.map .str) ys (putDk (.str x) (dk al)) (putDv (.str x) y (dk al) (dv al)) := rfl
    rw [e, putDk_str x y al, putDv_str x y al, zipD_str xs ys]
    rfl
theorem putsA_app (a b al : Al) : putsA (a ++ b) al = putsA b (putsA a al) := by unfold putsA; rw [List.foldl_append]
theorem putA_new {x : Nm} {v : PV} : ∀ {al : Al}, (∀ p ∈ al, p.1 ≠ x) → putA x v al = al ++ [(x, v)]
  | [], _ => rfl
  | (y, u) :: r, h => by
    unfold putA
    rw [if_neg (h _ List.mem_cons_self), putA_new fun p hp => h p (List.mem_cons_of_mem _ hp)]
    rfl
theorem putsA_fresh : ∀ {more al : Al}, (al.map (·.1) ++ more.map (·.1)).Nodup → putsA more al = al ++ more
  | [], al, _ => by simp [putsA]
  | (x, v) :: r, al, nd => by
    have hx : ∀ p ∈ al, p.1 ≠ x := fun p hp e => by
      rw [List.nodup_append] at nd
      exact nd.2.2 _ (List.mem_map.mpr ⟨p, hp, rfl⟩) x (by simp) e
    show putsA r (putA x v al) = _
    rw [putA_new hx, putsA_fresh]
    · simp
    · rw [List.map_append, List.append_assoc]
      simpa using nd
theorem dk_len (al : Al) : (dk al).length = al.length := by simp [dk]
end Nrm
/-! Nrm, part B: what is well formed; what a program means; that it keeps the kinds. -/
namespace Nrm
open Pv

def All2 {α β : Type} (R : α → β → Prop) : List α → List β → Prop
  | [], [] => True
  | a :: as, b :: bs => R a b ∧ All2 R as bs
  | _, _ => False
theorem All2.len {α β : Type} {R : α → β → Prop} : ∀ {as : List α} {bs : List β}, All2 R as bs → as.length = bs.length
  | [], [], _ => rfl
  | _ :: _, _ :: _, ⟨_, h⟩ => congrArg (· + 1) (All2.len h)
  | [], _ :: _, h => h.elim
  | _ :: _, [], h => h.elim
theorem All2.imp {α β : Type} {R S : α → β → Prop} (i : ∀ a b, R a b → S a b) : ∀ {as : List α} {bs : List β}, All2 R as bs → All2 S as bs
  | [], [], _ => True.intro
  | _ :: _, _ :: _, ⟨a, h⟩ => ⟨i _ _ a, All2.imp i h⟩
  | [], _ :: _, h => h.elim
  | _ :: _, [], h => h.elim
def KOk (k : Kd) : Prop := 2 ≤ k.size ∧ k.size ≤ 1000
def gives : Eqn → List Nm
  | .is x _ => [x]
  | .node xs _ _ _ => xs
  | .mem _ _ _ => []
def givesL (L : List Eqn) : List Nm := L.flatMap gives
def memsL (L : List Eqn) : List (Nm × Int × Nm) := L.filterMap fun e => match e with
  | .mem x v s => some (x, v, s)
  | _ => none
def OpOk (T : List Row) (G : List Nm) (k : Kd) (c : Ck) : Op → Prop
  | .value v => inK k v
  | .copy a => a ∈ G ∧ (a, k, c) ∈ T
  | .math w a b => (a ∈ G ∧ b ∈ G) ∧ ∃ k', (a, k', c) ∈ T ∧ (b, k', c) ∈ T ∧ if w.arith then k' = k else k = .b
  | .not a => k = .b ∧ a ∈ G ∧ (a, .b, c) ∈ T
  | .choose q a b => (q ∈ G ∧ (q, .b, c) ∈ T) ∧ (a ∈ G ∧ (a, k, c) ∈ T) ∧ b ∈ G ∧ (b, k, c) ∈ T
  | .when a => a ∈ G ∧ ∃ c0 p, c = c0 ++ [p] ∧ (a, k, c0) ∈ T
  | .merge q a b => (q ∈ G ∧ (q, .b, c) ∈ T) ∧ (a ∈ G ∧ (a, k, c ++ [(q, 1)]) ∈ T) ∧ b ∈ G ∧ (b, k, c ++ [(q, 0)]) ∈ T
def EqOk (T : List Row) (sg : List Sg) (G : List Nm) : Eqn → Prop
  | .is x o => ∃ k c, (x, k, c) ∈ T ∧ (∀ p ∈ c, p.1 ∈ G) ∧ OpOk T G k c o
  | .mem _ _ _ => True
  | .node xs f as r => ∃ s ∈ sg, s.1 = f ∧ ∃ c, (∀ p ∈ c, p.1 ∈ G) ∧ xs ≠ [] ∧ All2 (fun x (o : Io) => (x, o.2, c) ∈ T) xs s.2.2 ∧ All2 (fun a (i : Io) => a ∈ G ∧ (a, i.2, c) ∈ T) as s.2.1 ∧ (r = [] ∨ r ∈ G ∧ (r, .b, c) ∈ T)
def LinesOk (T : List Row) (sg : List Sg) : List Nm → List Eqn → Prop
  | _, [] => True
  | G, e :: L => EqOk T sg G e ∧ LinesOk T sg (G ++ gives e) L
def tyOf (N : Node) : List Row := (N.ins.map fun p => (p.1, p.2, [])) ++ (N.outs.map fun p => (p.1, p.2, [])) ++ N.rows
def start (N : Node) : List Nm := N.ins.map (·.1) ++ (memsL N.eqs).map (·.1)
structure WFN (sg : List Sg) (N : Node) : Prop where
  names : ((tyOf N).map (·.1)).Nodup
  kinds : ∀ r ∈ tyOf N, KOk r.2.1
  lines : LinesOk (tyOf N) sg (start N) N.eqs
  nodup : (start N ++ givesL N.eqs).Nodup
  mems : ∀ m ∈ memsL N.eqs, ∃ k c, (m.1, k, c) ∈ tyOf N ∧ inK k m.2.1 ∧ (m.2.2, k, c) ∈ tyOf N ∧ m.2.2 ∈ start N ++ givesL N.eqs ∧ ∀ p ∈ c, p.1 ∈ start N ++ givesL N.eqs
  outs : ∀ p ∈ N.outs, p.1 ∈ start N ++ givesL N.eqs
  some : N.outs ≠ []
  nonil : ∀ r ∈ tyOf N, r.1 ≠ []
  size : (tyOf N).length ≤ 10000 ∧ N.eqs.length ≤ 10000 ∧ (start N ++ givesL N.eqs).length ≤ 10000 ∧ ∀ r ∈ tyOf N, r.2.2.length ≤ 1000

/-! ### the meaning -/
abbrev Gm := Nm → Option Int
def upd (g : Gm) (x : Nm) (v : Option Int) : Gm := fun y => if y = x then v else g y
def upds (g : Gm) : List Nm → List Int → Gm
  | x :: xs, v :: vs => upds (upd g x (some v)) xs vs
  | _, _ => g
def thereG (g : Gm) (c : Ck) : Bool := c.all fun p => decide (g p.1 = some p.2)
def reck (w : Wo) (n i j : Int) : Int := match w with
  | .plus => (i + j) % n
  | .minus => (i - j) % n
  | .times => i * j % n
  | .less => if i < j then 1 else 0
  | .same => if i = j then 1 else 0
def opG (k : Kd) (g : Gm) : Op → Option Int
  | .value v => some v
  | .copy a => g a
  | .math w a b => (g a).bind fun i => (g b).map fun j => reck w k.size i j
  | .not a => (g a).map fun i => 1 - i
  | .choose q a b => if g q = some 1 then g a else g b
  | .when a => g a
  | .merge q a b => if g q = some 1 then g a else g b
inductive Mem where
  | mk (vs : List Int) (ms : List Mem)
mutual
def Mem.pv : Mem → PV
  | .mk vs ms => .tup [.tup (vs.map .int), .tup (Mem.pvs ms)]
def Mem.pvs : List Mem → List PV
  | [] => []
  | m :: r => m.pv :: Mem.pvs r
end
theorem pvs_map : ∀ ms : List Mem, Mem.pvs ms = ms.map Mem.pv
  | [] => by simp [Mem.pvs]
  | m :: r => by rw [Mem.pvs, List.map_cons, pvs_map r]
def rowOf (T : List Row) (x : Nm) : Option Row := T.find? fun r => decide (r.1 = x)
def ckOf (T : List Row) (x : Nm) : Ck := match rowOf T x with
  | some r => r.2.2
  | none => []
def kdOf (T : List Row) (x : Nm) : Kd := match rowOf T x with
  | some r => r.2.1
  | none => .b
abbrev Fd := Nm → Option Node
def firstF (fd : Fd) : Nat → Node → Mem
  | 0, _ => .mk [] []
  | d + 1, N => .mk ((memsL N.eqs).map (·.2.1)) (N.eqs.filterMap fun e => match e with
    | .node _ f _ _ => (fd f).map (firstF fd d)
    | _ => none)
def runE (fs : Nm → Mem) (sp : Nm → Mem → List Int → List Int × Mem) (T : List Row) : List Eqn → Gm → List Mem → Gm × List Mem
  | [], g, _ => (g, [])
  | .mem _ _ _ :: es, g, ms => runE fs sp T es g ms
  | .is x o :: es, g, ms => runE fs sp T es (if thereG g (ckOf T x) then upd g x (opG (kdOf T x) g o) else g) ms
  | .node xs f as r :: es, g, m :: ms =>
    if thereG g (ckOf T (xs.headD [])) then
      let m1 := if r ≠ [] ∧ g r = some 1 then fs f else m
      let z := sp f m1 (as.map fun a => (g a).getD 0)
      let w := runE fs sp T es (upds g xs z.1) ms
      (w.1, z.2 :: w.2)
    else
      let w := runE fs sp T es g ms
      (w.1, m :: w.2)
  | .node _ _ _ _ :: es, g, [] => runE fs sp T es g []
def gStart (N : Node) (vs ins : List Int) : Gm := upds (upds (fun _ => none) (N.ins.map (·.1)) ins) ((memsL N.eqs).map (·.1)) vs
def behind (T : List Row) (g : Gm) : List (Nm × Int × Nm) → List Int → List Int
  | m :: ms, v :: vs => (if thereG g (ckOf T m.1) then (g m.2.2).getD 0 else v) :: behind T g ms vs
  | _, _ => []
def stepF (fd : Fd) : Nat → Node → Mem → List Int → List Int × Mem
  | 0, _, _, _ => ([], .mk [] [])
  | d + 1, N, .mk vs ms, ins =>
    let w := runE (fun f => (fd f).elim (.mk [] []) (firstF fd d)) (fun f m i => (fd f).elim ([], m) fun M => stepF fd d M m i) (tyOf N) N.eqs (gStart N vs ins) ms
    (N.outs.map fun p => (w.1 p.1).getD 0, .mk (behind (tyOf N) w.1 (memsL N.eqs) vs) w.2)
/-- the nodes that a node calls are there, and well formed, d deep -/
def PW (fd : Fd) : Nat → Node → Prop
  | 0, _ => False
  | d + 1, N => ∃ sg, WFN sg N ∧ ∀ s ∈ sg, ∃ M, fd s.1 = some M ∧ M.sg = s ∧ PW fd d M
theorem PW.up {fd : Fd} : ∀ {d : Nat} {N : Node}, PW fd d N → PW fd (d + 1) N
  | 0, _, h => h.elim
  | d + 1, N, ⟨sg, w, h⟩ => ⟨sg, w, fun s hs => let ⟨M, a, b, c⟩ := h s hs; ⟨M, a, b, c.up⟩⟩
theorem PW.mono {fd : Fd} {N : Node} {d d' : Nat} (h : PW fd d N) (l : d ≤ d') : PW fd d' N := by
  induction l with
  | refl => exact h
  | step _ ih => exact ih.up
def nodesL (L : List Eqn) : List Nm := L.filterMap fun e => match e with
  | .node _ f _ _ => some f
  | _ => none
/-- a memory fits a node -/
def MemOk (fd : Fd) : Nat → Node → Mem → Prop
  | 0, _, _ => False
  | d + 1, N, .mk vs ms => All2 (fun (m : Nm × Int × Nm) v => ∀ k c, (m.1, k, c) ∈ tyOf N → inK k v) (memsL N.eqs) vs ∧ All2 (fun f m => ∃ M, fd f = some M ∧ MemOk fd d M m) (nodesL N.eqs) ms
/-! ### kinds are kept -/
theorem mem_uniq {T : List Row} (nd : (T.map (·.1)).Nodup) : ∀ {r s : Row}, r ∈ T → s ∈ T → r.1 = s.1 → r = s := by
  induction T with
  | nil => intro r s h; cases h
  | cons t T ih =>
    intro r s hr hs e
    rw [List.map_cons, List.nodup_cons] at nd
    rcases List.mem_cons.mp hr with e1 | h1
    · rcases List.mem_cons.mp hs with e2 | h2
      · rw [e1, e2]
      · exact absurd (List.mem_map.mpr ⟨s, h2, by rw [← e, e1]⟩) nd.1
    · rcases List.mem_cons.mp hs with e2 | h2
      · exact absurd (List.mem_map.mpr ⟨r, h1, by rw [e, e2]⟩) nd.1
      · exact ih nd.2 h1 h2 e
theorem rowOf_mem {T : List Row} (nd : (T.map (·.1)).Nodup) {x : Nm} {k : Kd} {c : Ck} (h : (x, k, c) ∈ T) : rowOf T x = some (x, k, c) := by
  unfold rowOf
  cases e : T.find? fun r => decide (r.1 = x) with
  | none =>
    have := List.find?_eq_none.mp e _ h
    simp at this
  | some r =>
    have h1 := List.find?_some e
    have h2 := List.mem_of_find?_eq_some e
    rw [mem_uniq nd h2 h (by simpa using h1)]
theorem ckOf_mem {T : List Row} (nd : (T.map (·.1)).Nodup) {x : Nm} {k : Kd} {c : Ck} (h : (x, k, c) ∈ T) : ckOf T x = c := by unfold ckOf; rw [rowOf_mem nd h]
theorem kdOf_mem {T : List Row} (nd : (T.map (·.1)).Nodup) {x : Nm} {k : Kd} {c : Ck} (h : (x, k, c) ∈ T) : kdOf T x = k := by unfold kdOf; rw [rowOf_mem nd h]
structure GOk (T : List Row) (G : List Nm) (g : Gm) : Prop where
  off : ∀ x, x ∉ G → g x = none
  ok : ∀ x ∈ G, ∀ k c, (x, k, c) ∈ T → (∃ v, g x = some v ∧ inK k v) ∨ (g x = none ∧ (∀ p ∈ c, p.1 ∈ G) ∧ thereG g c = false)
theorem thereG_congr {g g' : Gm} {c : Ck} (h : ∀ p ∈ c, g' p.1 = g p.1) : thereG g' c = thereG g c := by
  unfold thereG
  induction c with
  | nil => rfl
  | cons p c ih =>
    rw [List.all_cons, List.all_cons, h p List.mem_cons_self, ih fun q hq => h q (List.mem_cons_of_mem _ hq)]
theorem thereG_app {g : Gm} {c c' : Ck} : thereG g (c ++ c') = (thereG g c && thereG g c') := by unfold thereG; rw [List.all_append]
section
variable {T : List Row} {G : List Nm} {g : Gm}
theorem GOk.at (h : GOk T G g) {x : Nm} {k : Kd} {c : Ck} (hx : x ∈ G) (ht : (x, k, c) ∈ T) (th : thereG g c = true) : ∃ v, g x = some v ∧ inK k v := by
  rcases h.ok x hx k c ht with z | ⟨_, _, z⟩
  · exact z
  · rw [th] at z; cases z
theorem inK_b {v : Int} (h : inK .b v) : v = 0 ∨ v = 1 := by
  obtain ⟨h1, h2⟩ := h
  have h2 : v < 2 := h2
  omega
theorem opG_ok (hg : GOk T G g) (hk : ∀ r ∈ T, KOk r.2.1) {x : Nm} {k : Kd} {c : Ck} {o : Op} (hx : (x, k, c) ∈ T) (ho : OpOk T G k c o) (th : thereG g c = true) : ∃ v, opG k g o = some v ∧ inK k v := by
  have ks := hk _ hx
  have ks : 2 ≤ k.size ∧ k.size ≤ 1000 := ks
  cases o with
  | value v => exact ⟨v, rfl, ho⟩
  | copy a => exact hg.at ho.1 ho.2 th
  | math w a b =>
    obtain ⟨⟨h1, h2⟩, k', t1, t2, hw⟩ := ho
    obtain ⟨i, ei, _⟩ := hg.at h1 t1 th
    obtain ⟨j, ej, _⟩ := hg.at h2 t2 th
    refine ⟨reck w k.size i j, by simp [opG, ei, ej], ?_⟩
    have md : ∀ z : Int, inK k (z % k.size) := fun z => ⟨Int.emod_nonneg _ (by omega), Int.emod_lt_of_pos _ (by omega)⟩
    cases w with
    | plus => exact md _
    | minus => exact md _
    | times => exact md _
    | less =>
      have : k = .b := by simpa [Wo.arith] using hw
      subst this
      show inK .b (if i < j then 1 else 0)
      split
      · exact ⟨by decide, by decide⟩
      · exact ⟨by decide, by decide⟩
    | same =>
      have : k = .b := by simpa [Wo.arith] using hw
      subst this
      show inK .b (if i = j then 1 else 0)
      split
      · exact ⟨by decide, by decide⟩
      · exact ⟨by decide, by decide⟩
  | not a =>
    obtain ⟨rfl, h1, h2⟩ := ho
    obtain ⟨v, e, hv⟩ := hg.at h1 h2 th
    refine ⟨1 - v, by simp [opG, e], ?_⟩
    rcases inK_b hv with rfl | rfl
    · exact ⟨by decide, by decide⟩
    · exact ⟨by decide, by decide⟩
  | choose q a b =>
    obtain ⟨_, ⟨h1, h2⟩, h3, h4⟩ := ho
    show ∃ v, (if g q = some 1 then g a else g b) = some v ∧ inK k v
    split
    · exact hg.at h1 h2 th
    · exact hg.at h3 h4 th
  | when a =>
    obtain ⟨h1, c0, p, rfl, h2⟩ := ho
    rw [thereG_app, Bool.and_eq_true] at th
    exact hg.at h1 h2 th.1
  | merge q a b =>
    obtain ⟨⟨q1, q2⟩, ⟨h1, h2⟩, h3, h4⟩ := ho
    obtain ⟨v, e, hv⟩ := hg.at q1 q2 th
    show ∃ v, (if g q = some 1 then g a else g b) = some v ∧ inK k v
    rcases inK_b hv with rfl | rfl
    · rw [if_neg (by rw [e]; simp)]
      exact hg.at h3 h4 (by rw [thereG_app, th]; simp [thereG, e])
    · rw [if_pos e]
      exact hg.at h1 h2 (by rw [thereG_app, th]; simp [thereG, e])
/-- one more name -/
theorem GOk.give (hg : GOk T G g) (nd : (T.map (·.1)).Nodup) {x : Nm} {k : Kd} {c : Ck} (hx : (x, k, c) ∈ T) (hn : x ∉ G) (hc : ∀ p ∈ c, p.1 ∈ G) {v : Int} (hv : inK k v) : GOk T (G ++ [x]) (upd g x (some v)) := by
  have same : ∀ y ∈ G, upd g x (some v) y = g y := fun y hy => by
    unfold upd
    rw [if_neg]
    rintro rfl
    exact hn hy
  refine ⟨fun y hy => ?_, fun y hy k' c' ht => ?_⟩
  · rw [List.mem_append, not_or] at hy
    unfold upd
    rw [if_neg (by simpa using hy.2)]
    exact hg.off y hy.1
  · rcases List.mem_append.mp hy with hy | hy
    · rw [same y hy]
      rcases hg.ok y hy k' c' ht with z | ⟨z1, z2, z3⟩
      · exact .inl z
      · refine .inr ⟨z1, fun p hp => List.mem_append_left _ (z2 p hp), ?_⟩
        rw [thereG_congr fun p hp => same p.1 (z2 p hp)]
        exact z3
    · have : y = x := by simpa using hy
      subst this
      have e := mem_uniq nd hx ht rfl
      cases e
      exact .inl ⟨v, by simp [upd], hv⟩
theorem GOk.skip (hg : GOk T G g) (nd : (T.map (·.1)).Nodup) {x : Nm} {k : Kd} {c : Ck} (hx : (x, k, c) ∈ T) (hn : x ∉ G) (hc : ∀ p ∈ c, p.1 ∈ G) (th : thereG g c = false) : GOk T (G ++ [x]) g := by
  refine ⟨fun y hy => hg.off y fun z => hy (List.mem_append_left _ z), fun y hy k' c' ht => ?_⟩
  rcases List.mem_append.mp hy with hy | hy
  · rcases hg.ok y hy k' c' ht with z | ⟨z1, z2, z3⟩
    · exact .inl z
    · exact .inr ⟨z1, fun p hp => List.mem_append_left _ (z2 p hp), z3⟩
  · have : y = x := by simpa using hy
    subst this
    have e := mem_uniq nd hx ht rfl
    cases e
    exact .inr ⟨hg.off y hn, fun p hp => List.mem_append_left _ (hc p hp), th⟩
theorem GOk.gives (nd : (T.map (·.1)).Nodup) {c : Ck} : ∀ {xs : List Nm} {os : List Io} {vs : List Int} {G : List Nm} {g : Gm}, GOk T G g → All2 (fun x (o : Io) => (x, o.2, c) ∈ T) xs os → (G ++ xs).Nodup → (∀ p ∈ c, p.1 ∈ G) → All2 (fun (o : Io) v => inK o.2 v) os vs → GOk T (G ++ xs) (upds g xs vs)
  | [], [], [], G, g, hg, _, _, _, _ => by rw [List.append_nil]; exact hg
  | x :: xs, o :: os, v :: vs, G, g, hg, ⟨h1, h2⟩, hn, hc, ⟨v1, v2⟩ => by
    have hx : x ∉ G := fun z => by
      rw [List.nodup_append] at hn
      exact hn.2.2 x z x List.mem_cons_self rfl
    have hn' : ((G ++ [x]) ++ xs).Nodup := by rw [List.append_assoc]; exact hn
    have := GOk.gives nd (hg.give nd h1 hx hc v1) h2 hn' (fun p hp => List.mem_append_left _ (hc p hp)) v2
    rw [List.append_assoc] at this
    exact this
  | [], _ :: _, _, _, _, _, h, _, _, _ => h.elim
  | _ :: _, [], _, _, _, _, h, _, _, _ => h.elim
  | [], [], _ :: _, _, _, _, _, _, _, h => h.elim
  | _ :: _, _ :: _, [], _, _, _, _, _, _, h => h.elim
theorem GOk.skips (nd : (T.map (·.1)).Nodup) {c : Ck} : ∀ {xs : List Nm} {os : List Io} {G : List Nm} {g : Gm}, GOk T G g → All2 (fun x (o : Io) => (x, o.2, c) ∈ T) xs os → (G ++ xs).Nodup → (∀ p ∈ c, p.1 ∈ G) → thereG g c = false → GOk T (G ++ xs) g
  | [], [], G, g, hg, _, _, _, _ => by rw [List.append_nil]; exact hg
  | x :: xs, o :: os, G, g, hg, ⟨h1, h2⟩, hn, hc, th => by
    have hx : x ∉ G := fun z => by
      rw [List.nodup_append] at hn
      exact hn.2.2 x z x List.mem_cons_self rfl
    have hn' : ((G ++ [x]) ++ xs).Nodup := by rw [List.append_assoc]; exact hn
    have := GOk.skips nd (hg.skip nd h1 hx hc th) h2 hn' (fun p hp => List.mem_append_left _ (hc p hp)) th
    rw [List.append_assoc] at this
    exact this
  | [], _ :: _, _, _, _, h, _, _, _ => h.elim
  | _ :: _, [], _, _, _, h, _, _, _ => h.elim
end
def ent (r : Row) : Nm × PV := (r.1, .tup [r.2.1.pv, ckpv r.2.2])
def tabA (N : Node) : Al := putsA ((tyOf N).map ent) []
theorem tabA_get {N : Node} (nd : ((tyOf N).map (·.1)).Nodup) {x : Nm} {k : Kd} {c : Ck} (h : (x, k, c) ∈ tyOf N) : getA x (tabA N) = some (.tup [k.pv, ckpv c]) := by
  refine getA_puts_mem (by rw [List.map_map]; exact nd) (List.mem_map.mpr ⟨(x, k, c), h, rfl⟩)
theorem tabA_len (N : Node) : (tabA N).length ≤ (tyOf N).length := by
  have := putsA_len ((tyOf N).map ent) []
  simpa [tabA] using this
theorem tabA_eq {N : Node} (nd : ((tyOf N).map (·.1)).Nodup) : tabA N = putsA (putsA (N.rows.map ent) []) (putsA (N.ins.map (fun p => (p.1, .tup [p.2.pv, .tup []])) ++ N.outs.map fun p => (p.1, .tup [p.2.pv, .tup []])) []) := by
  have h1 : putsA (N.rows.map ent) [] = N.rows.map ent := by
    have e : (N.rows.map ent).map (·.1) = N.rows.map (·.1) := by rw [List.map_map]; rfl
    rw [putsA_fresh]
    · rfl
    · rw [e]
      unfold tyOf at nd
      rw [List.map_append, List.nodup_append] at nd
      simpa using nd.2.1
  rw [h1]
  unfold tabA tyOf
  rw [List.map_append, List.map_append, putsA_app, List.map_map, List.map_map]
  rfl
end Nrm
/-! Nrm, part C: a step keeps the kinds. -/
namespace Nrm
open Pv

/-- what is known of the nodes that are called -/
structure Sub (sg : List Sg) (fs : Nm → Mem) (sp : Nm → Mem → List Int → List Int × Mem) (MO : Nm → Mem → Prop) : Prop where
  first : ∀ s ∈ sg, MO s.1 (fs s.1)
  step : ∀ s ∈ sg, ∀ m is, MO s.1 m → All2 (fun (i : Io) v => inK i.2 v) s.2.1 is → All2 (fun (o : Io) v => inK o.2 v) s.2.2 (sp s.1 m is).1 ∧ MO s.1 (sp s.1 m is).2
section
variable {T : List Row} {sg : List Sg} {G : List Nm} {g : Gm} {fs : Nm → Mem} {sp : Nm → Mem → List Int → List Int × Mem} {MO : Nm → Mem → Prop}
theorem isStep (nd : (T.map (·.1)).Nodup) (hk : ∀ r ∈ T, KOk r.2.1) {x : Nm} {o : Op} (he : EqOk T sg G (.is x o)) (hn : x ∉ G) (hg : GOk T G g) : GOk T (G ++ [x]) (if thereG g (ckOf T x) then upd g x (opG (kdOf T x) g o) else g) := by
  obtain ⟨k, c, hx, hc, ho⟩ := he
  rw [ckOf_mem nd hx, kdOf_mem nd hx]
  by_cases th : thereG g c = true
  · rw [if_pos th]
    obtain ⟨v, e, hv⟩ := opG_ok hg hk hx ho th
    rw [e]
    exact hg.give nd hx hn hc hv
  · rw [if_neg th]
    exact hg.skip nd hx hn hc (by simpa using th)
theorem args_ok {c : Ck} (hg : GOk T G g) (th : thereG g c = true) : ∀ {as : List Nm} {is : List Io}, All2 (fun a (i : Io) => a ∈ G ∧ (a, i.2, c) ∈ T) as is → All2 (fun (i : Io) v => inK i.2 v) is (as.map fun a => (g a).getD 0)
  | [], [], _ => True.intro
  | a :: as, i :: is, ⟨⟨h1, h2⟩, h3⟩ => by
    obtain ⟨v, e, hv⟩ := hg.at h1 h2 th
    exact ⟨by show inK i.2 ((g a).getD 0); rw [e]; exact hv, args_ok hg th h3⟩
  | [], _ :: _, h => h.elim
  | _ :: _, [], h => h.elim
theorem head_ck (nd : (T.map (·.1)).Nodup) {c : Ck} {xs : List Nm} {os : List Io} (hn : xs ≠ []) (h : All2 (fun x (o : Io) => (x, o.2, c) ∈ T) xs os) : ckOf T (xs.headD []) = c := by
  match xs, os, h with
  | x :: xs, o :: os, ⟨h1, _⟩ => exact ckOf_mem nd h1
  | [], _, _ => exact absurd rfl hn
  | _ :: _, [], h => exact h.elim
/-- a call's step -/
theorem nodeStep (nd : (T.map (·.1)).Nodup) (S : Sub sg fs sp MO) {xs as : List Nm} {f r : Nm} (he : EqOk T sg G (.node xs f as r)) (hn : (G ++ xs).Nodup) (hg : GOk T G g) {m : Mem} (hm : MO f m) :
    (thereG g (ckOf T (xs.headD [])) = true → MO f (if r ≠ [] ∧ g r = some 1 then fs f else m) ∧
      GOk T (G ++ xs) (upds g xs (sp f (if r ≠ [] ∧ g r = some 1 then fs f else m) (as.map fun a => (g a).getD 0)).1) ∧ MO f (sp f (if r ≠ [] ∧ g r = some 1 then fs f else m) (as.map fun a => (g a).getD 0)).2) ∧
    (thereG g (ckOf T (xs.headD [])) = false → GOk T (G ++ xs) g) := by
  obtain ⟨s, hs, rfl, c, hc, hx, h1, h2, hr⟩ := he
  rw [head_ck nd hx h1]
  refine ⟨fun th => ?_, fun th => hg.skips nd h1 hn hc th⟩
  have hm1 : MO s.1 (if r ≠ [] ∧ g r = some 1 then fs s.1 else m) := by
    split
    · exact S.first s hs
    · exact hm
  obtain ⟨q1, q2⟩ := S.step s hs _ _ hm1 (args_ok hg th h2)
  exact ⟨hm1, hg.gives nd h1 hn hc q1, q2⟩
theorem runE_ok (nd : (T.map (·.1)).Nodup) (hk : ∀ r ∈ T, KOk r.2.1) (S : Sub sg fs sp MO) : ∀ {L : List Eqn} {G : List Nm} {g : Gm} {ms : List Mem}, LinesOk T sg G L → (G ++ givesL L).Nodup → GOk T G g → All2 MO (nodesL L) ms →
    GOk T (G ++ givesL L) (runE fs sp T L g ms).1 ∧ All2 MO (nodesL L) (runE fs sp T L g ms).2
  | [], G, g, ms, _, _, hg, _ => by
    simp only [givesL, List.flatMap_nil, List.append_nil]
    exact ⟨hg, True.intro⟩
  | .mem x v s :: L, G, g, ms, ⟨_, hl⟩, hn, hg, hm => by
    have hl : LinesOk T sg (G ++ []) L := hl
    rw [List.append_nil] at hl
    exact runE_ok nd hk S (L := L) hl hn hg hm
  | .is x o :: L, G, g, ms, ⟨he, hl⟩, hn, hg, hm => by
    have hn : (G ++ ([x] ++ givesL L)).Nodup := hn
    rw [← List.append_assoc] at hn
    have hx : x ∉ G := fun z => by
      rw [List.nodup_append, List.nodup_append] at hn
      exact hn.1.2.2 x z x (by simp) rfl
    have := runE_ok nd hk S (L := L) hl hn (isStep nd hk he hx hg) hm
    rw [List.append_assoc] at this
    exact this
  | .node xs f as r :: L, G, g, [], _, _, _, hm => hm.elim
  | .node xs f as r :: L, G, g, m :: ms, ⟨he, hl⟩, hn, hg, ⟨hm, hms⟩ => by
    have hn : (G ++ (xs ++ givesL L)).Nodup := hn
    rw [← List.append_assoc] at hn
    have hx : (G ++ xs).Nodup := (List.nodup_append.mp hn).1
    obtain ⟨h1, h2⟩ := nodeStep nd S he hx hg hm
    show GOk T (G ++ (xs ++ givesL L)) (runE fs sp T (.node xs f as r :: L) g (m :: ms)).1 ∧ All2 MO (f :: nodesL L) (runE fs sp T (.node xs f as r :: L) g (m :: ms)).2
    rw [← List.append_assoc]
    unfold runE
    by_cases th : thereG g (ckOf T (xs.headD [])) = true
    · rw [if_pos th]
      obtain ⟨_, a, b⟩ := h1 th
      have := runE_ok nd hk S (L := L) hl hn a hms
      exact ⟨this.1, b, this.2⟩
    · rw [if_neg th]
      have := runE_ok nd hk S (L := L) hl hn (h2 (by simpa using th)) hms
      exact ⟨this.1, hm, this.2⟩
end
theorem all2_map {α β : Type} {R : α → β → Prop} (f : α → β) (as : List α) (h : ∀ a ∈ as, R a (f a)) : All2 R as (as.map f) := by
  induction as with
  | nil => exact True.intro
  | cons a as ih => exact ⟨h a List.mem_cons_self, ih fun b hb => h b (List.mem_cons_of_mem _ hb)⟩
theorem lines_node {T : List Row} {sg : List Sg} : ∀ {L : List Eqn} {G : List Nm}, LinesOk T sg G L → ∀ f ∈ nodesL L, ∃ s ∈ sg, s.1 = f
  | [], _, _, f, h => absurd h (by simp [nodesL])
  | .mem _ _ _ :: L, _, ⟨_, hl⟩, f, h => lines_node (L := L) hl f h
  | .is _ _ :: L, _, ⟨_, hl⟩, f, h => lines_node (L := L) hl f h
  | .node xs f' as r :: L, _, ⟨he, hl⟩, f, h => by
    rcases List.mem_cons.mp (show f ∈ f' :: nodesL L from h) with rfl | h
    · obtain ⟨s, hs, e, _⟩ := he
      exact ⟨s, hs, e⟩
    · exact lines_node (L := L) hl f h
theorem node_firsts {fd : Fd} {R : Nm → Mem → Prop} {φ : Node → Mem} : ∀ {L : List Eqn}, (∀ f ∈ nodesL L, ∃ M, fd f = some M ∧ R f (φ M)) → All2 R (nodesL L) (L.filterMap fun e => match e with
    | .node _ f _ _ => (fd f).map φ
    | _ => none)
  | [], _ => True.intro
  | .mem _ _ _ :: L, h => node_firsts (L := L) h
  | .is _ _ :: L, h => node_firsts (L := L) h
  | .node xs f as r :: L, h => by
    obtain ⟨M, e, hr⟩ := h f List.mem_cons_self
    have e1 : ((Eqn.node xs f as r :: L).filterMap fun e => match e with
      | .node _ f _ _ => (fd f).map φ
      | _ => none) = φ M :: (L.filterMap fun e => match e with
      | .node _ f _ _ => (fd f).map φ
      | _ => none) := by simp [List.filterMap_cons, e]
    rw [e1]
    exact ⟨hr, node_firsts (L := L) fun f hf => h f (List.mem_cons_of_mem _ hf)⟩
theorem firstF_ok {fd : Fd} : ∀ {d : Nat} {N : Node}, PW fd d N → MemOk fd d N (firstF fd d N)
  | 0, _, h => h.elim
  | d + 1, N, ⟨sg, w, h⟩ => by
    refine ⟨all2_map (fun m : Nm × Int × Nm => m.2.1) _ fun m hm k c ht => ?_, node_firsts fun f hf => ?_⟩
    · obtain ⟨k', c', t1, hv, _⟩ := w.mems m hm
      have e := mem_uniq w.names ht t1 rfl
      cases e
      exact hv
    · obtain ⟨s, hs, rfl⟩ := lines_node w.lines f hf
      obtain ⟨M, e, _, hM⟩ := h s hs
      exact ⟨M, e, M, e, firstF_ok hM⟩
/-- the names given at the start -/
theorem upds_off {x : Nm} : ∀ {xs : List Nm} {vs : List Int} {g : Gm}, x ∉ xs → upds g xs vs x = g x
  | [], _, _, _ => by simp [upds]
  | y :: xs, [], _, _ => rfl
  | y :: xs, v :: vs, g, h => by
    rw [List.mem_cons, not_or] at h
    show upds (upd g y (some v)) xs vs x = g x
    rw [upds_off h.2]
    simp [upd, h.1]
theorem upds_in {α : Type} {R : α → Int → Prop} (nm : α → Nm) : ∀ {as : List α} {vs : List Int} {g : Gm}, ((as.map nm)).Nodup → All2 R as vs → ∀ a ∈ as, ∃ v, upds g (as.map nm) vs (nm a) = some v ∧ R a v
  | [], _, _, _, _, a, ha => absurd ha (by simp)
  | b :: as, [], _, _, h, _, _ => h.elim
  | b :: as, v :: vs, g, nd, ⟨h1, h2⟩, a, ha => by
    rw [List.map_cons, List.nodup_cons] at nd
    show ∃ w, upds (upd g (nm b) (some v)) (as.map nm) vs (nm a) = some w ∧ R a w
    rcases List.mem_cons.mp ha with e | ha
    · subst e
      rw [upds_off nd.1]
      exact ⟨v, by simp [upd], h1⟩
    · exact upds_in nm nd.2 h2 a ha
theorem gStart_ok {N : Node} {sg : List Sg} (w : WFN sg N) {vs ins : List Int} (h1 : All2 (fun (i : Io) v => inK i.2 v) N.ins ins) (h2 : All2 (fun (m : Nm × Int × Nm) v => ∀ k c, (m.1, k, c) ∈ tyOf N → inK k v) (memsL N.eqs) vs) : GOk (tyOf N) (start N) (gStart N vs ins) := by
  have nd : (start N).Nodup := (List.nodup_append.mp w.nodup).1
  obtain ⟨n1, n2, n3⟩ := List.nodup_append.mp (show (N.ins.map (·.1) ++ (memsL N.eqs).map (·.1)).Nodup from nd)
  refine ⟨fun x hx => ?_, fun x hx k c ht => ?_⟩
  · unfold start at hx
    rw [List.mem_append, not_or] at hx
    unfold gStart
    rw [upds_off hx.2, upds_off hx.1]
  · rcases List.mem_append.mp hx with hx | hx
    · obtain ⟨i, hi, rfl⟩ := List.mem_map.mp hx
      obtain ⟨v, e, hv⟩ := upds_in (g := fun _ => none) (fun i : Io => i.1) n1 h1 i hi
      have ht' : (i.1, i.2, []) ∈ tyOf N := List.mem_append_left _ (List.mem_append_left _ (List.mem_map.mpr ⟨i, hi, rfl⟩))
      have e2 := mem_uniq w.names ht ht' rfl
      cases e2
      refine .inl ⟨v, ?_, hv⟩
      unfold gStart
      rw [upds_off fun z => n3 _ (List.mem_map.mpr ⟨i, hi, rfl⟩) _ z rfl]
      exact e
    · obtain ⟨m, hm, rfl⟩ := List.mem_map.mp hx
      obtain ⟨v, e, hv⟩ := upds_in (g := upds (fun _ => none) (N.ins.map (·.1)) ins) (fun m : Nm × Int × Nm => m.1) n2 h2 m hm
      exact .inl ⟨v, e, hv k c ht⟩
theorem behind_ok {T : List Row} {g : Gm} (nd : (T.map (·.1)).Nodup) {G : List Nm} (hg : GOk T G g) : ∀ {ms : List (Nm × Int × Nm)} {vs : List Int}, (∀ m ∈ ms, ∃ k c, (m.1, k, c) ∈ T ∧ (m.2.2, k, c) ∈ T ∧ m.2.2 ∈ G) → All2 (fun (m : Nm × Int × Nm) v => ∀ k c, (m.1, k, c) ∈ T → inK k v) ms vs →
    All2 (fun (m : Nm × Int × Nm) v => ∀ k c, (m.1, k, c) ∈ T → inK k v) ms (behind T g ms vs)
  | [], [], _, _ => True.intro
  | m :: ms, v :: vs, h, ⟨h1, h2⟩ => by
    refine ⟨fun k c ht => ?_, behind_ok nd hg (fun m hm => h m (List.mem_cons_of_mem _ hm)) h2⟩
    obtain ⟨k', c', t1, t2, hs⟩ := h m List.mem_cons_self
    have e := mem_uniq nd ht t1 rfl
    cases e
    rw [ckOf_mem nd t1]
    by_cases th : thereG g c = true
    · rw [if_pos th]
      obtain ⟨v', e, hv⟩ := hg.at hs t2 th
      rw [e]
      exact hv
    · rw [if_neg th]
      exact h1 k c ht
  | [], _ :: _, _, h => h.elim
  | _ :: _, [], _, h => h.elim
def Sub.of (fd : Fd) (d : Nat) : Nm → Mem → Prop := fun f m => ∃ M, fd f = some M ∧ MemOk fd d M m
theorem stepF_ok {fd : Fd} : ∀ {d : Nat} {N : Node}, PW fd d N → ∀ {m : Mem} {ins : List Int}, MemOk fd d N m → All2 (fun (i : Io) v => inK i.2 v) N.ins ins →
    All2 (fun (o : Io) v => inK o.2 v) N.outs (stepF fd d N m ins).1 ∧ MemOk fd d N (stepF fd d N m ins).2
  | 0, _, h, _, _, _, _ => h.elim
  | d + 1, N, ⟨sg, w, h⟩, .mk vs ms, ins, ⟨m1, m2⟩, hi => by
    have S : Sub sg (fun f => (fd f).elim (.mk [] []) (firstF fd d)) (fun f m i => (fd f).elim ([], m) fun M => stepF fd d M m i) (Sub.of fd d) := by
      refine ⟨fun s hs => ?_, fun s hs m is hm his => ?_⟩
      · obtain ⟨M, e, _, hM⟩ := h s hs
        exact ⟨M, e, by rw [e]; exact firstF_ok hM⟩
      · obtain ⟨M, e, es, hM⟩ := h s hs
        obtain ⟨M', e', hm⟩ := hm
        rw [e] at e'; cases e'
        subst es
        rw [e]
        obtain ⟨a, b⟩ := stepF_ok hM hm his
        exact ⟨a, M, e, b⟩
    have g0 := gStart_ok w hi m1
    obtain ⟨r1, r2⟩ := runE_ok w.names w.kinds S w.lines w.nodup g0 m2
    refine ⟨all2_map (fun p : Io => ((runE _ _ (tyOf N) N.eqs (gStart N vs ins) ms).1 p.1).getD 0) _ fun p hp => ?_, behind_ok w.names r1 (fun m hm => ?_) m1, r2⟩
    · have ht : (p.1, p.2, []) ∈ tyOf N := List.mem_append_left _ (List.mem_append_right _ (List.mem_map.mpr ⟨p, hp, rfl⟩))
      obtain ⟨v, e, hv⟩ := r1.at (w.outs p hp) ht rfl
      show inK p.2 (((runE _ _ (tyOf N) N.eqs (gStart N vs ins) ms).1 p.1).getD 0)
      rw [e]
      exact hv
    · obtain ⟨k, c, t1, _, t2, hs, _⟩ := w.mems m hm
      exact ⟨k, c, t1, t2, hs⟩
end Nrm
/-! Nrm, part D: rules for what an answer is, over lists of data. -/
namespace Nrm
open Pv PySem L2

theorem ok_of {α : Type} {r : R α} {a : α} {st : Store} (h : Sat r fun b st' => b = a ∧ st' = st) : r = .ok a st := by
  obtain ⟨b, st', e, rfl, rfl⟩ := h.ok
  exact e
section
variable {α : Type} {Z : Exc → Store → Prop} {sg : Sig} {st : Store} {ws : List Nat} {fi : FA} {g : FG} {ft : FT} {f fk fv : FE} {Q : PV → Store → Prop} {bx : Bool}
/-- a comprehension whose turns change nothing -/
theorem Sat_fmL {body : PV → Store → R (Option PV)} {QL : List PV → Store → Prop} (enc : α → PV) (φ : α → Option PV) : ∀ (l : List α), (∀ a ∈ l, Sat (body (enc a) st) fun o st' => o = φ a ∧ st' = st) → QL (l.filterMap φ) st → SatX Z (compL body (l.map enc) st) QL := fun l h q => by
  have key : ∀ l : List α, (∀ a ∈ l, Sat (body (enc a) st) fun o st' => o = φ a ∧ st' = st) → compL body (l.map enc) st = .ok (l.filterMap φ) st := by
    intro l
    induction l with
    | nil => intro _; rfl
    | cons a l ih =>
      intro h
      have e := ok_of (h a List.mem_cons_self)
      show (body (enc a) st).bind (fun o st => (compL body (l.map enc) st).bind fun ys st => .ok (o.toList ++ ys) st) = _
      rw [e, R_bind_ok, ih fun b hb => h b (List.mem_cons_of_mem _ hb), R_bind_ok]
      cases hφ : φ a with
      | none => simp [List.filterMap_cons, hφ]
      | some v => simp [List.filterMap_cons, hφ]
  rw [key l h, Sat_ok]
  exact q
theorem Sat_fC_L (enc : α → PV) (φ : α → Option PV) (l : List α) (h : SatX Z (fi sg st) fun items st1 => items = l.map enc ∧ l.length ≤ sizeLine ∧ (∀ a ∈ l, Sat (turnC ws g ft f sg (enc a) st1) fun o st' => o = φ a ∧ st' = st1) ∧ Q (newL bx (l.filterMap φ) st1).1 (newL bx (l.filterMap φ) st1).2) :
    SatX Z (fComp bx ws fi g ft f sg st) Q := by
  unfold fComp
  rw [Sat_bind]
  refine h.mono fun items st1 ⟨e, hl, ht, q⟩ => ?_
  subst e
  rw [if_pos (by simpa using hl), Sat_bind]
  refine Sat_fmL enc φ l ht ?_
  rw [Sat_ok]
  exact q
/-- a cell walked -/
theorem compV_fm {body : PV → Store → R (Option PV)} {n : Nat} (enc : α → PV) (φ : α → Option PV) (l : List α) (hc : st[n]? = some (.lst (l.map enc))) (h : ∀ a ∈ l, Sat (body (enc a) st) fun o st' => o = φ a ∧ st' = st) :
    ∀ k, k ≤ l.length → compV body n l.length k st = .ok ((l.drop (l.length - k)).filterMap φ) st
  | 0, _ => by
    have : cellL n st = some (l.map enc) := by simp [cellL, hc]
    simp [compV, this]
  | k + 1, hk => by
    have e1 : cellL n st = some (l.map enc) := by simp [cellL, hc]
    have hlt : l.length - (k + 1) < l.length := by omega
    have ih := compV_fm enc φ l hc h k (by omega)
    have hd : l.drop (l.length - (k + 1)) = l[l.length - (k + 1)] :: l.drop (l.length - k) := by
      rw [List.drop_eq_getElem_cons hlt]
      congr 2
      omega
    have e2 : (l.map enc)[l.length - (k + 1)]? = some (enc l[l.length - (k + 1)]) := by simp [hlt]
    have e3 := ok_of (h l[l.length - (k + 1)] (List.getElem_mem hlt))
    have e0 : compV body n l.length (k + 1) st = match cellL n st with
      | some xs => if xs.length = l.length then (match xs[l.length - (k + 1)]? with
        | some p => (body p st).bind fun o st => (compV body n l.length k st).bind fun ys st => .ok (o.toList ++ ys) st
        | none => .stuck) else .stuck
      | none => .stuck := rfl
    rw [e0, e1]
    simp only [List.length_map, if_true, e2, e3, R_bind_ok, ih]
    rw [hd, List.filterMap_cons]
    cases φ l[l.length - (k + 1)] <;> rfl
theorem Sat_fCompV (enc : α → PV) (φ : α → Option PV) (l : List α) (h : SatX Z (fv sg st) fun p st1 => ∃ n, p = .ref n ∧ st1[n]? = some (.lst (l.map enc)) ∧ l.length ≤ sizeLine ∧ (∀ a ∈ l, Sat (turnC ws g ft f sg (enc a) st1) fun o st' => o = φ a ∧ st' = st1) ∧ Q (newL bx (l.filterMap φ) st1).1 (newL bx (l.filterMap φ) st1).2) :
    SatX Z (fCompV bx ws fv g ft f sg st) Q := by
  unfold fCompV
  rw [Sat_bind]
  refine h.mono fun p st1 ⟨n, e, hc, hl, ht, q⟩ => ?_
  subst e
  have e1 : cellL n st1 = some (l.map enc) := by simp [cellL, hc]
  simp only [e1]
  rw [if_pos (by simpa using hl), List.length_map, compV_fm enc φ l hc ht l.length (Nat.le_refl _)]
  simp only [Nat.sub_self, List.drop_zero, R_bind_ok]
  rw [Sat_ok]
  exact q
@[simp ↓] theorem Sat_turnD {p : PV} {QC : Option (PV × PV) → Store → Prop} : SatX Z (turnD ws g ft fk fv sg p st) QC = Sat (g p (wipeS sg ws) st) fun sg' st => Sat (ft sg' st) fun b st => if b then Sat (fk sg' st) fun k st => Sat (fv sg' st) fun v st => QC (some (k, v)) st else QC none st := by
  unfold turnD
  rw [Sat_noX]
  refine (Sat_bind _ _ _).trans (Sat_eq fun _ _ => (Sat_bind _ _ _).trans (Sat_eq fun b _ => ?_))
  cases b
  · exact Sat_ok _ _
  · exact (Sat_bind _ _ _).trans (Sat_eq fun _ _ => (Sat_bind _ _ _).trans (Sat_eq fun _ _ => Sat_ok _ _))
/-- a dict by names -/
theorem dcomp_str {body : PV → Store → R (Option (PV × PV))} (enc : α → PV) (nm : α → Nm) (val : α → PV) : ∀ (l : List α) (al : Al), al.length + l.length ≤ 1000000 → (∀ a ∈ l, Sat (body (enc a) st) fun o st' => o = some (.str (nm a), val a) ∧ st' = st) →
    dcompL body (l.map enc) (dk al) (dv al) st = .ok (dk (putsA (l.map fun a => (nm a, val a)) al), dv (putsA (l.map fun a => (nm a, val a)) al)) st
  | [], al, _, _ => rfl
  | a :: l, al, hl, h => by
    have e := ok_of (h a List.mem_cons_self)
    have e0 : dcompL body (((a :: l).map enc)) (dk al) (dv al) st = (body (enc a) st).bind fun o st => match o with
      | none => dcompL body (l.map enc) (dk al) (dv al) st
      | some kv => if (keyOf kv.1).isSome && decide ((dk al).length < sizeLine) then dcompL body (l.map enc) (putDk kv.1 (dk al)) (putDv kv.1 kv.2 (dk al) (dv al)) st else .stuck := rfl
    rw [e0, e, R_bind_ok]
    have hz : ((keyOf (PV.str (nm a))).isSome && decide ((dk al).length < sizeLine)) = true := by
      simp only [List.length_cons] at hl
      simp only [keyOf, Option.isSome_some, Bool.true_and, decide_eq_true_eq, dk, List.length_map, sizeLine_eq]
      omega
    simp only [hz, if_true]
    rw [putDk_str (nm a) (val a) al, putDv_str]
    have hp := putA_len (nm a) (val a) al
    simp only [List.length_cons] at hl
    rw [dcomp_str enc nm val l (putA (nm a) (val a) al) (by omega) fun b hb => h b (List.mem_cons_of_mem _ hb)]
    rfl
theorem Sat_fDCompS (enc : α → PV) (nm : α → Nm) (val : α → PV) (l : List α) (h : SatX Z (fi sg st) fun items st1 => items = l.map enc ∧ l.length ≤ 1000000 ∧ (∀ a ∈ l, Sat (turnD ws g ft fk fv sg (enc a) st1) fun o st' => o = some (.str (nm a), val a) ∧ st' = st1) ∧
      Q (newD bx (dk (putsA (l.map fun a => (nm a, val a)) [])) (dv (putsA (l.map fun a => (nm a, val a)) [])) st1).1 (newD bx (dk (putsA (l.map fun a => (nm a, val a)) [])) (dv (putsA (l.map fun a => (nm a, val a)) [])) st1).2) :
    SatX Z (fDComp bx ws fi g ft fk fv sg st) Q := by
  unfold fDComp
  rw [Sat_bind]
  refine h.mono fun items st1 ⟨e, hl, ht, q⟩ => ?_
  subst e
  have := dcomp_str (st := st1) (body := turnD ws g ft fk fv sg) enc nm val l [] (by simpa using hl) ht
  have e0 : dcompL (turnD ws g ft fk fv sg) (l.map enc) [] [] st1 = _ := this
  rw [e0, R_bind_ok, Sat_ok]
  exact q
/-- dict(zip(..)) -/
def dzO (bx : Bool) (p q : PV) (st : Store) : R PV := match fDictZip.seqX p st, fDictZip.seqX q st with
  | some xs, some ys => match zipD xs.2 ys.2 [] [] with
    | some kv => .ok (newD bx kv.1 kv.2 st).1 (newD bx kv.1 kv.2 st).2
    | none => .stuck
  | _, _ => .stuck
@[simp ↓] theorem Sat_fDictZip : SatX Z (fDictZip bx f fv sg st) Q = SatX Z (f sg st) fun p st => SatX Z (fv sg st) fun q st => SatX Z (dzO bx p q st) Q := by
  unfold fDictZip
  exact (Sat_bind _ _ _).trans (Sat_eq fun _ _ => Sat_bind _ _ _)
def catO (bx : Bool) (p q : PV) (st : Store) : R PV := match asL p st, asL q st with
  | some xs, some ys => if xs.length + ys.length ≤ sizeLine then .ok (newL bx (xs ++ ys) st).1 (newL bx (xs ++ ys) st).2 else .stuck
  | _, _ => .stuck
@[simp ↓] theorem Sat_fCat : SatX Z (fCat bx f fv sg st) Q = SatX Z (f sg st) fun p st => SatX Z (fv sg st) fun q st => SatX Z (catO bx p q st) Q := by
  unfold fCat
  exact (Sat_bind _ _ _).trans (Sat_eq fun _ _ => Sat_bind _ _ _)
end
theorem dzO_strs {xs : List Nm} {ys : List PV} {p q : PV} {bx : Bool} {st : Store} (hp : p = .lst (xs.map .str) ∨ p = .tup (xs.map .str)) (hq : q = .tup ys ∨ q = .lst ys) : dzO bx p q st = .ok (newD bx (dk (putsA (xs.zip ys) [])) (dv (putsA (xs.zip ys) [])) st).1 (newD bx (dk (putsA (xs.zip ys) [])) (dv (putsA (xs.zip ys) [])) st).2 := by
  have h1 : ∃ t, fDictZip.seqX p st = some (t, xs.map .str) := by rcases hp with rfl | rfl <;> exact ⟨_, rfl⟩
  have h2 : ∃ t, fDictZip.seqX q st = some (t, ys) := by rcases hq with rfl | rfl <;> exact ⟨_, rfl⟩
  obtain ⟨t, h1⟩ := h1
  obtain ⟨u, h2⟩ := h2
  have h3 : zipD (xs.map PV.str) ys [] [] = some (dk (putsA (xs.zip ys) []), dv (putsA (xs.zip ys) [])) := zipD_str xs ys []
  unfold dzO
  simp only [h1, h2, h3]
/-! ### dicts by names in cells -/
section
variable {st : Store} {n : Nat} {al : Al}
theorem idx_al (h : st[n]? = some (.dic (dk al) (dv al))) (x : Nm) : idxP (.ref n) (.str x) st = getA x al := by rw [idxP_dic h]; exact lookD_str x al
theorem idx_dic (x : Nm) : idxP (.dic (dk al) (dv al)) (.str x) st = getA x al := by
  have : idxP (.dic (dk al) (dv al)) (.str x) st = (keyOf (.str x)).bind fun _ => lookD (.str x) (dk al) (dv al) := by simp [idxP, idxQ, asQ, asR, asL, asD]
  rw [this]
  exact lookD_str x al
theorem get_al (h : st[n]? = some (.dic (dk al) (dv al))) (x : Nm) : getM (.ref n) [.str x] st = some ((getA x al).getD .non, st) := by
  rw [← lookD_str]
  simp [getM, asDw, h, keyOf]
theorem get_al2 (h : st[n]? = some (.dic (dk al) (dv al))) (x : Nm) (d : PV) : getM (.ref n) [.str x, d] st = some ((getA x al).getD d, st) := by
  rw [← lookD_str]
  simp [getM, asDw, h, keyOf]
theorem isDic_ref (h : st[n]? = some (.dic (dk al) (dv al))) : isDic (.ref n) st = true := by simp [isDic, h]
theorem put_al (h : st[n]? = some (.dic (dk al) (dv al))) (hl : al.length ≤ 1000000) (x : Nm) (v : PV) : setP (.ref n) (.str x) v st = some (st.set n (.dic (dk (putA x v al)) (dv (putA x v al)))) := by
  rw [setP_dic h _ _ (by simp [dk, sizeLine_eq]; omega)]
  simp only [keyOf, Option.map_some]
  rw [putDk_str x v al, putDv_str]
theorem upd_al {more : Al} {q : PV} (h : st[n]? = some (.dic (dk al) (dv al))) (hq : q = .dic (dk more) (dv more)) (hl : al.length + more.length ≤ 1000000) : updM (.ref n) [q] st = some (.non, st.set n (.dic (dk (putsA more al)) (dv (putsA more al)))) := by
  subst hq
  have e := mrgD_str more al
  have hz : (dk al).length + (dk more).length ≤ sizeLine := by simp [dk, sizeLine_eq]; omega
  simp [updM, h, asDw, notRef, hz, e]
end
/-! ### equality of kinds, clocks -/
theorem eqC_tups (xs ys : List PV) (st : Store) : eqC (.tup xs) (.tup ys) st = (eqL (eqP 199) xs ys).map .bl := by
  have : eqB (.tup xs) (.tup ys) st = eqL (eqP 199) xs ys := by
    show eqP 200 (.tup xs) (.tup ys) = _
    rw [eqP]
  rw [eqC, this]
theorem neC_tups (xs ys : List PV) (st : Store) : neC (.tup xs) (.tup ys) st = (eqL (eqP 199) xs ys).map fun b => .bl (!b) := by
  have : eqB (.tup xs) (.tup ys) st = eqL (eqP 199) xs ys := by
    show eqP 200 (.tup xs) (.tup ys) = _
    rw [eqP]
  rw [neC, this]
theorem eqL_kd (n : Nat) (k k' : Kd) : eqP (n + 2) k.pv k'.pv = some (decide (k = k')) := by
  have sb : (([98, 111, 111, 108] : List Nat) == [110, 117, 109]) = false := by decide
  have sn : (([110, 117, 109] : List Nat) == [98, 111, 111, 108]) = false := by decide
  cases k with
  | b => cases k' with
    | b => simp only [Kd.pv, eqP, eqL]; simp
    | n m => simp only [Kd.pv, eqP, eqL, sb]; simp
  | n m => cases k' with
    | b => simp only [Kd.pv, eqP, eqL, sn]; simp
    | n m' => simp only [Kd.pv, eqP, eqL]; by_cases h : m = m' <;> simp [h]
theorem eqC_kd (k k' : Kd) (st : Store) : eqC k.pv k'.pv st = some (.bl (decide (k = k'))) := by
  have h : eqB k.pv k'.pv st = eqP 200 k.pv k'.pv := by cases k <;> cases k' <;> rfl
  rw [eqC, h, eqL_kd 198]; rfl
theorem neC_kd (k k' : Kd) (st : Store) : neC k.pv k'.pv st = some (.bl (!decide (k = k'))) := by
  have h : eqB k.pv k'.pv st = eqP 200 k.pv k'.pv := by cases k <;> cases k' <;> rfl
  rw [neC, h, eqL_kd 198]; rfl
theorem eqP_cpv (n : Nat) (p q : Nm × Int) : eqP (n + 2) (cpv p) (cpv q) = some (decide (p = q)) := by
  obtain ⟨x, s⟩ := p
  obtain ⟨y, t⟩ := q
  simp only [cpv, eqP, eqL]
  by_cases h1 : x = y <;> by_cases h2 : s = t <;> simp [h1, h2]
theorem eqL_cpv (n : Nat) : ∀ c c' : Ck, eqL (eqP (n + 2)) (c.map cpv) (c'.map cpv) = some (decide (c = c'))
  | [], [] => rfl
  | [], _ :: _ => by simp [eqL]
  | _ :: _, [] => by simp [eqL]
  | p :: c, q :: c' => by
    have ih := eqL_cpv n c c'
    have h1 := eqP_cpv n p q
    simp only [List.map_cons, eqL, h1, ih]
    by_cases h1 : p = q
    · by_cases h2 : c = c'
      · simp [h1, h2]
      · have : ¬ (p :: c = q :: c') := fun e => h2 (List.cons.inj e).2
        simp [h2, this]
    · have : ¬ (p :: c = q :: c') := fun e => h1 (List.cons.inj e).1
      simp [h1, this]
theorem eqC_ck (c c' : Ck) (st : Store) : eqC (ckpv c) (ckpv c') st = some (.bl (decide (c = c'))) := by
  unfold ckpv
  rw [eqC_tups, eqL_cpv 197]; rfl
theorem neC_ck (c c' : Ck) (st : Store) : neC (ckpv c) (ckpv c') st = some (.bl (!decide (c = c'))) := by
  unfold ckpv
  rw [neC_tups, eqL_cpv 197]; rfl
end Nrm
/-! Nrm, part E: nodes under way: what is known of them, and that it stays. -/
namespace Nrm
open Pv PySem L2

theorem strI_pos {k : Int} (h : 0 ≤ k) : strI k = TL.numL k.natAbs := by unfold strI; rw [if_pos h]; rfl
def xnm (n : Nat) : Nm := 120 :: strI n
def innm (n : Nat) : Nm := [105, 110] ++ strI n
def outnm (n : Nat) : Nm := [111, 117, 116] ++ strI n
theorem strI_inj {m n : Nat} (h : strI m = strI n) : m = n := by
  rw [strI_pos (by omega), strI_pos (by omega)] at h
  have := TL.numL_inj h
  omega
theorem xnm_inj {m n : Nat} (h : xnm m = xnm n) : m = n := strI_inj (List.cons.inj h).2
theorem innm_inj {m n : Nat} (h : innm m = innm n) : m = n := strI_inj (List.append_cancel_left h)
theorem outnm_inj {m n : Nat} (h : outnm m = outnm n) : m = n := strI_inj (List.append_cancel_left h)
structure Ms where
  rows : List Row
  known : List Row
  lines : List Eqn
  later : List (Nm × Int)
def inT (ins : List Io) : List Row := ins.map fun p => (p.1, p.2, [])
theorem inT_app (a b : List Io) : inT (a ++ b) = inT a ++ inT b := List.map_append
def Ms.av (ins : List Io) (m : Ms) : List Nm := ins.map (·.1) ++ m.later.map (·.1) ++ givesL m.lines
def Ms.ty (ins outs : List Io) (m : Ms) : List Row := inT ins ++ inT outs ++ m.rows
theorem givesL_app (a b : List Eqn) : givesL (a ++ b) = givesL a ++ givesL b := List.flatMap_append
theorem memsL_app (a b : List Eqn) : memsL (a ++ b) = memsL a ++ memsL b := List.filterMap_append
/-! ### more names, more types -/
theorem OpOk.mono {T T' : List Row} {G G' : List Nm} (hT : ∀ r ∈ T, r ∈ T') (hG : ∀ x ∈ G, x ∈ G') {k : Kd} {c : Ck} : ∀ {o : Op}, OpOk T G k c o → OpOk T' G' k c o
  | .value v, h => h
  | .copy a, h => ⟨hG _ h.1, hT _ h.2⟩
  | .math w a b, ⟨⟨h1, h2⟩, k', t1, t2, h⟩ => ⟨⟨hG _ h1, hG _ h2⟩, k', hT _ t1, hT _ t2, h⟩
  | .not a, ⟨e, h1, h2⟩ => ⟨e, hG _ h1, hT _ h2⟩
  | .choose q a b, ⟨⟨a1, a2⟩, ⟨b1, b2⟩, c1, c2⟩ => ⟨⟨hG _ a1, hT _ a2⟩, ⟨hG _ b1, hT _ b2⟩, hG _ c1, hT _ c2⟩
  | .when a, ⟨h1, c0, p, e, h2⟩ => ⟨hG _ h1, c0, p, e, hT _ h2⟩
  | .merge q a b, ⟨⟨a1, a2⟩, ⟨b1, b2⟩, c1, c2⟩ => ⟨⟨hG _ a1, hT _ a2⟩, ⟨hG _ b1, hT _ b2⟩, hG _ c1, hT _ c2⟩
theorem EqOk.mono {T T' : List Row} {sg : List Sg} {G G' : List Nm} (hT : ∀ r ∈ T, r ∈ T') (hG : ∀ x ∈ G, x ∈ G') : ∀ {e : Eqn}, EqOk T sg G e → EqOk T' sg G' e
  | .is x o, ⟨k, c, h1, h2, h3⟩ => ⟨k, c, hT _ h1, fun p hp => hG _ (h2 p hp), h3.mono hT hG⟩
  | .mem _ _ _, _ => True.intro
  | .node xs f as r, ⟨s, hs, e, c, h1, h2, h3, h4, h5⟩ => ⟨s, hs, e, c, fun p hp => hG _ (h1 p hp), h2, h3.imp fun _ _ h => hT _ h, h4.imp fun _ _ h => ⟨hG _ h.1, hT _ h.2⟩, h5.imp (fun h => h) fun h => ⟨hG _ h.1, hT _ h.2⟩⟩
theorem LinesOk.mono {T T' : List Row} {sg : List Sg} (hT : ∀ r ∈ T, r ∈ T') : ∀ {L : List Eqn} {G G' : List Nm}, (∀ x ∈ G, x ∈ G') → LinesOk T sg G L → LinesOk T' sg G' L
  | [], _, _, _, _ => True.intro
  | e :: L, G, G', hG, ⟨h1, h2⟩ => ⟨h1.mono hT hG, LinesOk.mono hT (fun x hx => by
      rcases List.mem_append.mp hx with hx | hx
      · exact List.mem_append_left _ (hG x hx)
      · exact List.mem_append_right _ hx) h2⟩
theorem LinesOk.app {T : List Row} {sg : List Sg} : ∀ {L M : List Eqn} {G : List Nm}, LinesOk T sg G L → LinesOk T sg (G ++ givesL L) M → LinesOk T sg G (L ++ M)
  | [], M, G, _, h => by
    have e : G ++ givesL [] = G := List.append_nil G
    rw [e] at h; exact h
  | e :: L, M, G, ⟨h1, h2⟩, h => ⟨h1, h2.app (by
      have e' : G ++ givesL (e :: L) = G ++ gives e ++ givesL L := by rw [List.append_assoc]; rfl
      rw [e'] at h; exact h)⟩
theorem LinesOk.split {T : List Row} {sg : List Sg} : ∀ {L M : List Eqn} {G : List Nm}, LinesOk T sg G (L ++ M) → LinesOk T sg G L ∧ LinesOk T sg (G ++ givesL L) M
  | [], M, G, h => ⟨True.intro, by
      have e : G ++ givesL [] = G := List.append_nil G
      rw [e]; exact h⟩
  | e :: L, M, G, ⟨h1, h2⟩ => by
    obtain ⟨a, b⟩ := h2.split
    refine ⟨⟨h1, a⟩, ?_⟩
    have e' : G ++ givesL (e :: L) = G ++ gives e ++ givesL L := by rw [List.append_assoc]; rfl
    rw [e']; exact b
theorem LinesOk.snoc {T : List Row} {sg : List Sg} {L : List Eqn} {G : List Nm} {e : Eqn} (h : LinesOk T sg G L) (he : EqOk T sg (G ++ givesL L) e) : LinesOk T sg G (L ++ [e]) := h.app ⟨he, True.intro⟩
theorem LinesOk.ins {T : List Row} {sg : List Sg} {A B : List Eqn} {G : List Nm} {x s : Nm} {v : Int} (h : LinesOk T sg G (A ++ B)) : LinesOk T sg G (A ++ .mem x v s :: B) := by
  obtain ⟨a, b⟩ := h.split
  refine a.app ⟨True.intro, ?_⟩
  have e : G ++ givesL A ++ gives (.mem x v s) = G ++ givesL A := List.append_nil _
  rw [e]; exact b
/-! ### what holds of a node under way -/
def SgOk (sg : List Sg) : Prop := ∀ s ∈ sg, s.2.2 ≠ [] ∧ s.2.1.length ≤ 3 ∧ s.2.2.length ≤ 3 ∧ (∀ i ∈ s.2.1, KOk i.2) ∧ ∀ o ∈ s.2.2, KOk o.2
structure Inv (ins outs : List Io) (sg : List Sg) (n : Nat) (m : Ms) : Prop where
  inn : (ins.map (·.1)).Nodup
  outn : (outs.map (·.1)).Nodup
  ini : ∀ p ∈ ins, ∃ k, p.1 = innm k
  outi : ∀ p ∈ outs, ∃ k, p.1 = outnm k
  iok : ∀ p ∈ ins, KOk p.2
  ook : ∀ p ∈ outs, KOk p.2
  names : m.rows.map (·.1) = (List.range m.rows.length).map xnm
  rk : ∀ r ∈ m.rows, KOk r.2.1 ∧ r.2.2.length ≤ 3
  kn : ∀ r ∈ m.known, r ∈ inT ins ++ m.rows
  ka : ∀ r ∈ m.known, r.1 ∈ m.av ins
  kc : ∀ r ∈ m.known, ∀ p ∈ r.2.2, p.1 ∈ m.known.map (·.1)
  lines : LinesOk (m.ty ins outs) sg (ins.map (·.1) ++ m.later.map (·.1)) m.lines
  nd : (m.av ins).Nodup
  sub : ∀ x ∈ m.later.map (·.1) ++ givesL m.lines, x ∈ m.rows.map (·.1) ∨ x ∈ outs.map (·.1)
  og : ∀ p ∈ outs, p.1 ∈ givesL m.lines
  later : ∀ p ∈ m.later, ∃ k c, inK k p.2 ∧ (p.1, k, c) ∈ m.rows ∧ (p.1, k, c) ∈ m.known
  mems : ∀ q ∈ memsL m.lines, ∃ k c, (q.1, k, c) ∈ m.known ∧ inK k q.2.1 ∧ (q.2.2, k, c) ∈ m.known
  sz : m.rows.length ≤ n ∧ m.known.length ≤ n ∧ m.lines.length ≤ n ∧ m.later.length ≤ n
theorem xnm_in (m n : Nat) : xnm m ≠ innm n := by unfold xnm innm; simp
theorem xnm_out (m n : Nat) : xnm m ≠ outnm n := by unfold xnm outnm; simp
theorem innm_out (m n : Nat) : innm m ≠ outnm n := by unfold innm outnm; simp
section
variable {ins outs : List Io} {sg : List Sg} {n : Nat} {m : Ms}
theorem Inv.up (h : Inv ins outs sg n m) {n' : Nat} (l : n ≤ n') : Inv ins outs sg n' m := { h with sz := ⟨Nat.le_trans h.sz.1 l, Nat.le_trans h.sz.2.1 l, Nat.le_trans h.sz.2.2.1 l, Nat.le_trans h.sz.2.2.2 l⟩ }
theorem Inv.row_name (h : Inv ins outs sg n m) {r : Row} (hr : r ∈ m.rows) : ∃ k, k < m.rows.length ∧ r.1 = xnm k := by
  have : r.1 ∈ m.rows.map (·.1) := List.mem_map.mpr ⟨r, hr, rfl⟩
  rw [h.names] at this
  obtain ⟨k, hk, e⟩ := List.mem_map.mp this
  exact ⟨k, List.mem_range.mp hk, e.symm⟩
theorem nodup_xs (n : Nat) : ((List.range n).map xnm).Nodup := by
  rw [List.Nodup, List.pairwise_map]
  exact List.Pairwise.imp (fun {a b} (h : a ≠ b) e => h (xnm_inj e)) List.nodup_range
theorem Inv.rows_nd (h : Inv ins outs sg n m) : (m.rows.map (·.1)).Nodup := by rw [h.names]; exact nodup_xs _
theorem Inv.fresh (h : Inv ins outs sg n m) : xnm m.rows.length ∉ m.av ins := fun z => by
  unfold Ms.av at z
  rw [List.append_assoc] at z
  rcases List.mem_append.mp z with z | z
  · obtain ⟨p, hp, e⟩ := List.mem_map.mp z
    obtain ⟨k, hk⟩ := h.ini p hp
    exact xnm_in _ _ (e.symm.trans hk)
  · rcases h.sub _ z with z | z
    · obtain ⟨r, hr, e⟩ := List.mem_map.mp z
      obtain ⟨k, hk, e2⟩ := h.row_name hr
      have := xnm_inj (e.symm.trans e2)
      omega
    · obtain ⟨p, hp, e⟩ := List.mem_map.mp z
      obtain ⟨k, hk⟩ := h.outi p hp
      exact xnm_out _ _ (e.symm.trans hk)
theorem Inv.known_ok (h : Inv ins outs sg n m) {r : Row} (hr : r ∈ m.known) : KOk r.2.1 ∧ r.2.2.length ≤ 3 := by
  rcases List.mem_append.mp (h.kn r hr) with z | z
  · obtain ⟨p, hp, rfl⟩ := List.mem_map.mp z
    exact ⟨h.iok p hp, Nat.zero_le _⟩
  · exact h.rk r z
theorem Inv.known_ty (h : Inv ins outs sg n m) {r : Row} (hr : r ∈ m.known) : r ∈ m.ty ins outs := by
  rcases List.mem_append.mp (h.kn r hr) with z | z
  · exact List.mem_append_left _ (List.mem_append_left _ z)
  · exact List.mem_append_right _ z
/-- a name is made -/
def Ms.new (m : Ms) (k : Kd) (c : Ck) : Ms := { m with rows := m.rows ++ [(xnm m.rows.length, k, c)] }
theorem Inv.new (h : Inv ins outs sg n m) {k : Kd} {c : Ck} (hk : KOk k) (hc : c.length ≤ 3) : Inv ins outs sg (n + 1) (m.new k c) := by
  have hT : ∀ r ∈ m.ty ins outs, r ∈ (m.new k c).ty ins outs := fun r hr => by
    rcases List.mem_append.mp hr with z | z
    · exact List.mem_append_left _ z
    · exact List.mem_append_right _ (List.mem_append_left _ z)
  refine { h with names := ?_, rk := ?_, kn := ?_, lines := h.lines.mono hT fun x hx => hx, sub := ?_, later := ?_, sz := ?_ }
  · show (m.rows ++ [(xnm m.rows.length, k, c)]).map (·.1) = (List.range (m.rows ++ [(xnm m.rows.length, k, c)]).length).map xnm
    rw [List.map_append, h.names, List.length_append, List.length_singleton, List.range_succ, List.map_append]
    rfl
  · intro r hr
    rcases List.mem_append.mp hr with z | z
    · exact h.rk r z
    · have : r = (xnm m.rows.length, k, c) := by simpa using z
      subst this
      exact ⟨hk, hc⟩
  · intro r hr
    rcases List.mem_append.mp (h.kn r hr) with z | z
    · exact List.mem_append_left _ z
    · exact List.mem_append_right _ (List.mem_append_left _ z)
  · intro x hx
    rcases h.sub x hx with z | z
    · exact .inl (by show x ∈ (m.rows ++ [(xnm m.rows.length, k, c)]).map (·.1); rw [List.map_append]; exact List.mem_append_left _ z)
    · exact .inr z
  · intro p hp
    obtain ⟨k', c', a, b, d⟩ := h.later p hp
    exact ⟨k', c', a, List.mem_append_left _ b, d⟩
  · obtain ⟨a, b, c, d⟩ := h.sz
    refine ⟨?_, by show m.known.length ≤ _; omega, by show m.lines.length ≤ _; omega, by show m.later.length ≤ _; omega⟩
    show (m.rows ++ [_]).length ≤ _
    rw [List.length_append, List.length_singleton]; omega
/-- a name is given -/
def Ms.give (m : Ms) (x : Nm) (k : Kd) (c : Ck) (o : Op) : Ms := { m with lines := m.lines ++ [.is x o], known := m.known ++ [(x, k, c)] }
theorem av_give (x : Nm) (k : Kd) (c : Ck) (o : Op) : (m.give x k c o).av ins = m.av ins ++ [x] := by
  show ins.map (·.1) ++ m.later.map (·.1) ++ givesL (m.lines ++ [.is x o]) = _
  rw [givesL_app, ← List.append_assoc]
  rfl
theorem Inv.give (h : Inv ins outs sg n m) {x : Nm} {k : Kd} {c : Ck} {o : Op} (hx : (x, k, c) ∈ m.rows) (hn : x ∉ m.av ins) (hc : ∀ p ∈ c, p.1 ∈ m.known.map (·.1)) (ho : OpOk (m.ty ins outs) (m.av ins) k c o) : Inv ins outs sg (n + 1) (m.give x k c o) := by
  have hka : ∀ y ∈ m.known.map (·.1), y ∈ m.av ins := fun y hy => by
    obtain ⟨r, hr, e⟩ := List.mem_map.mp hy
    exact e ▸ h.ka r hr
  refine { h with kn := ?_, ka := ?_, kc := ?_, lines := ?_, nd := ?_, sub := ?_, og := ?_, later := ?_, mems := ?_, sz := ?_ }
  · intro r hr
    rcases List.mem_append.mp hr with z | z
    · exact h.kn r z
    · have : r = (x, k, c) := by simpa using z
      subst this
      exact List.mem_append_right _ hx
  · intro r hr
    rw [av_give]
    rcases List.mem_append.mp hr with z | z
    · exact List.mem_append_left _ (h.ka r z)
    · have : r = (x, k, c) := by simpa using z
      subst this
      simp
  · intro r hr p hp
    show p.1 ∈ (m.known ++ [(x, k, c)]).map (·.1)
    rw [List.map_append]
    rcases List.mem_append.mp hr with z | z
    · exact List.mem_append_left _ (h.kc r z p hp)
    · have : r = (x, k, c) := by simpa using z
      subst this
      exact List.mem_append_left _ (hc p hp)
  · exact h.lines.snoc ⟨k, c, List.mem_append_right _ hx, fun p hp => hka _ (hc p hp), ho⟩
  · rw [av_give, List.nodup_append]
    exact ⟨h.nd, by simp, fun a ha b hb e => by
      have : b = x := by simpa using hb
      subst this; subst e; exact hn ha⟩
  · intro y hy
    have hy : y ∈ m.later.map (·.1) ++ givesL (m.lines ++ [.is x o]) := hy
    rw [givesL_app, ← List.append_assoc] at hy
    rcases List.mem_append.mp hy with z | z
    · exact h.sub y z
    · have : y = x := by simpa [givesL, gives] using z
      subst this
      exact .inl (List.mem_map.mpr ⟨_, hx, rfl⟩)
  · intro p hp
    show p.1 ∈ givesL (m.lines ++ [.is x o])
    rw [givesL_app]; exact List.mem_append_left _ (h.og p hp)
  · intro p hp
    obtain ⟨k', c', a, b, d⟩ := h.later p hp
    exact ⟨k', c', a, b, List.mem_append_left _ d⟩
  · intro q hq
    have hq : q ∈ memsL (m.lines ++ [.is x o]) := hq
    rw [memsL_app] at hq
    rcases List.mem_append.mp hq with z | z
    · obtain ⟨k', c', a, b, d⟩ := h.mems q z
      exact ⟨k', c', List.mem_append_left _ a, b, List.mem_append_left _ d⟩
    · cases z
  · obtain ⟨a, b, c', d⟩ := h.sz
    refine ⟨by show m.rows.length ≤ _; omega, ?_, ?_, by show m.later.length ≤ _; omega⟩
    · show (m.known ++ [_]).length ≤ _
      rw [List.length_append, List.length_singleton]; omega
    · show (m.lines ++ [_]).length ≤ _
      rw [List.length_append, List.length_singleton]; omega
/-- a memory is wished for -/
def Ms.late (m : Ms) (x : Nm) (k : Kd) (c : Ck) (v : Int) : Ms := { m with known := m.known ++ [(x, k, c)], later := m.later ++ [(x, v)] }
theorem av_late {x y : Nm} {k : Kd} {c : Ck} {v : Int} : y ∈ (m.late x k c v).av ins ↔ y ∈ m.av ins ∨ y = x := by
  show y ∈ ins.map (·.1) ++ (m.later ++ [(x, v)]).map (·.1) ++ givesL m.lines ↔ y ∈ ins.map (·.1) ++ m.later.map (·.1) ++ givesL m.lines ∨ y = x
  rw [List.map_append]
  simp only [List.mem_append, List.map_cons, List.map_nil, List.mem_singleton]
  constructor
  · rintro ((h | h | h) | h)
    · exact .inl (.inl (.inl h))
    · exact .inl (.inl (.inr h))
    · exact .inr h
    · exact .inl (.inr h)
  · rintro (((h | h) | h) | h)
    · exact .inl (.inl h)
    · exact .inl (.inr (.inl h))
    · exact .inr h
    · exact .inl (.inr (.inr h))
theorem Inv.late (h : Inv ins outs sg n m) {x : Nm} {k : Kd} {c : Ck} {v : Int} (hx : (x, k, c) ∈ m.rows) (hn : x ∉ m.av ins) (hc : ∀ p ∈ c, p.1 ∈ m.known.map (·.1)) (hv : inK k v) : Inv ins outs sg (n + 1) (m.late x k c v) := by
  refine { h with kn := ?_, ka := ?_, kc := ?_, lines := ?_, nd := ?_, sub := ?_, later := ?_, mems := ?_, sz := ?_ }
  · intro r hr
    rcases List.mem_append.mp hr with z | z
    · exact h.kn r z
    · have : r = (x, k, c) := by simpa using z
      subst this
      exact List.mem_append_right _ hx
  · intro r hr
    rw [av_late]
    rcases List.mem_append.mp hr with z | z
    · exact .inl (h.ka r z)
    · have : r = (x, k, c) := by simpa using z
      subst this
      exact .inr rfl
  · intro r hr p hp
    show p.1 ∈ (m.known ++ [(x, k, c)]).map (·.1)
    rw [List.map_append]
    rcases List.mem_append.mp hr with z | z
    · exact List.mem_append_left _ (h.kc r z p hp)
    · have : r = (x, k, c) := by simpa using z
      subst this
      exact List.mem_append_left _ (hc p hp)
  · refine h.lines.mono (fun r hr => hr) fun y hy => ?_
    show y ∈ ins.map (·.1) ++ (m.later ++ [(x, v)]).map (·.1)
    rw [List.map_append, ← List.append_assoc]
    exact List.mem_append_left _ hy
  · show (ins.map (·.1) ++ (m.later ++ [(x, v)]).map (·.1) ++ givesL m.lines).Nodup
    rw [List.map_append, ← List.append_assoc]
    have e : (ins.map (·.1) ++ m.later.map (·.1) ++ [x] ++ givesL m.lines).Perm (x :: (ins.map (·.1) ++ m.later.map (·.1) ++ givesL m.lines)) := by
      rw [List.append_assoc (as := ins.map (·.1) ++ m.later.map (·.1)), List.singleton_append]
      exact List.perm_middle
    show (ins.map (·.1) ++ m.later.map (·.1) ++ [x] ++ givesL m.lines).Nodup
    rw [e.nodup_iff, List.nodup_cons]
    exact ⟨hn, h.nd⟩
  · intro y hy
    have hy : y ∈ (m.later ++ [(x, v)]).map (·.1) ++ givesL m.lines := hy
    rw [List.map_append] at hy
    simp only [List.mem_append, List.map_cons, List.map_nil, List.mem_singleton] at hy
    rcases hy with (z | z) | z
    · exact h.sub y (List.mem_append_left _ z)
    · subst z
      exact .inl (List.mem_map.mpr ⟨_, hx, rfl⟩)
    · exact h.sub y (List.mem_append_right _ z)
  · intro p hp
    rcases List.mem_append.mp (show p ∈ m.later ++ [(x, v)] from hp) with z | z
    · obtain ⟨k', c', a, b, d⟩ := h.later p z
      exact ⟨k', c', a, b, List.mem_append_left _ d⟩
    · have : p = (x, v) := by simpa using z
      subst this
      exact ⟨k, c, hv, hx, List.mem_append_right _ (by simp)⟩
  · intro q hq
    obtain ⟨k', c', a, b, d⟩ := h.mems q hq
    exact ⟨k', c', List.mem_append_left _ a, b, List.mem_append_left _ d⟩
  · obtain ⟨a, b, c', d⟩ := h.sz
    refine ⟨by show m.rows.length ≤ _; omega, ?_, by show m.lines.length ≤ _; omega, ?_⟩
    · show (m.known ++ [_]).length ≤ _
      rw [List.length_append, List.length_singleton]; omega
    · show (m.later ++ [_]).length ≤ _
      rw [List.length_append, List.length_singleton]; omega
end
end Nrm
/-! Nrm, part F: calls, outputs, memories; a whole node. -/
namespace Nrm
open Pv PySem L2
section
variable {ins outs : List Io} {sg : List Sg} {n : Nat} {m : Ms}
theorem nodesL_app (a b : List Eqn) : nodesL (a ++ b) = nodesL a ++ nodesL b := List.filterMap_append
/-- few calls, few memories -/
structure NodeB (N : Node) : Prop where
  calls : (nodesL N.eqs).length ≤ 3
  mems : (memsL N.eqs).length ≤ 1000
/-- a call is written -/
def Ms.call (m : Ms) (xs : List Nm) (f : Nm) (as : List Nm) (r : Nm) (kr : List Row) : Ms := { m with lines := m.lines ++ [.node xs f as r], known := m.known ++ kr }
theorem Inv.call (h : Inv ins outs sg n m) {xs as : List Nm} {f r : Nm} {kr : List Row} {c : Ck} (h1 : ∀ q ∈ kr, q ∈ m.rows) (h2 : kr.map (·.1) = xs) (h3 : xs.Nodup) (h4 : ∀ x ∈ xs, x ∉ m.av ins) (h5 : ∀ q ∈ kr, q.2.2 = c) (hc : ∀ p ∈ c, p.1 ∈ m.known.map (·.1)) (he : EqOk (m.ty ins outs) sg (m.av ins) (.node xs f as r)) {k : Nat} (hk : kr.length ≤ k) (hk1 : 1 ≤ k) :
    Inv ins outs sg (n + k) (m.call xs f as r kr) := by
  have hav : (m.call xs f as r kr).av ins = m.av ins ++ xs := by
    show ins.map (·.1) ++ m.later.map (·.1) ++ givesL (m.lines ++ [.node xs f as r]) = _
    rw [givesL_app, ← List.append_assoc]
    show _ ++ (xs ++ []) = _
    rw [List.append_nil]; rfl
  refine { h with kn := ?_, ka := ?_, kc := ?_, lines := ?_, nd := ?_, sub := ?_, og := ?_, later := ?_, mems := ?_, sz := ?_ }
  · intro q hq
    rcases List.mem_append.mp hq with z | z
    · exact h.kn q z
    · exact List.mem_append_right _ (h1 q z)
  · intro q hq
    rw [hav]
    rcases List.mem_append.mp hq with z | z
    · exact List.mem_append_left _ (h.ka q z)
    · exact List.mem_append_right _ (by rw [← h2]; exact List.mem_map.mpr ⟨q, z, rfl⟩)
  · intro q hq p hp
    show p.1 ∈ (m.known ++ kr).map (·.1)
    rw [List.map_append]
    rcases List.mem_append.mp hq with z | z
    · exact List.mem_append_left _ (h.kc q z p hp)
    · rw [h5 q z] at hp
      exact List.mem_append_left _ (hc p hp)
  · exact h.lines.snoc he
  · rw [hav, List.nodup_append]
    exact ⟨h.nd, h3, fun a ha b hb e => h4 b hb (e ▸ ha)⟩
  · intro y hy
    have hy : y ∈ m.later.map (·.1) ++ givesL (m.lines ++ [.node xs f as r]) := hy
    rw [givesL_app, ← List.append_assoc] at hy
    rcases List.mem_append.mp hy with z | z
    · exact h.sub y z
    · have z : y ∈ xs := by simpa [givesL, gives] using z
      rw [← h2] at z
      obtain ⟨q, hq, e⟩ := List.mem_map.mp z
      exact .inl (List.mem_map.mpr ⟨q, h1 q hq, e⟩)
  · intro p hp
    show p.1 ∈ givesL (m.lines ++ [.node xs f as r])
    rw [givesL_app]; exact List.mem_append_left _ (h.og p hp)
  · intro p hp
    obtain ⟨k', c', a, b, d⟩ := h.later p hp
    exact ⟨k', c', a, b, List.mem_append_left _ d⟩
  · intro q hq
    have hq : q ∈ memsL (m.lines ++ [.node xs f as r]) := hq
    rw [memsL_app] at hq
    rcases List.mem_append.mp hq with z | z
    · obtain ⟨k', c', a, b, d⟩ := h.mems q z
      exact ⟨k', c', List.mem_append_left _ a, b, List.mem_append_left _ d⟩
    · cases z
  · obtain ⟨a, b, c', d⟩ := h.sz
    refine ⟨by show m.rows.length ≤ _; omega, ?_, ?_, by show m.later.length ≤ _; omega⟩
    · show (m.known ++ kr).length ≤ _
      rw [List.length_append]; omega
    · show (m.lines ++ [_]).length ≤ _
      rw [List.length_append, List.length_singleton]; omega
/-- an output is written -/
def Ms.out (m : Ms) (x a : Nm) : Ms := { m with lines := m.lines ++ [.is x (.copy a)] }
theorem Inv.out (h : Inv ins outs sg n m) {j : Nat} {a : Nm} {k : Kd} (hj : outnm j ∉ outs.map (·.1)) (ha : (a, k, []) ∈ m.known) (hk : KOk k) : Inv ins (outs ++ [(outnm j, k)]) sg (n + 1) (m.out (outnm j) a) := by
  have hav : (m.out (outnm j) a).av ins = m.av ins ++ [outnm j] := by
    show ins.map (·.1) ++ m.later.map (·.1) ++ givesL (m.lines ++ [.is (outnm j) (.copy a)]) = _
    rw [givesL_app, ← List.append_assoc]; rfl
  have hno : outnm j ∉ m.av ins := fun z => by
    unfold Ms.av at z
    rw [List.append_assoc] at z
    rcases List.mem_append.mp z with z | z
    · obtain ⟨p, hp, e⟩ := List.mem_map.mp z
      obtain ⟨q, hq⟩ := h.ini p hp
      exact innm_out _ _ (hq.symm.trans e)
    · rcases h.sub _ z with z | z
      · obtain ⟨r, hr, e⟩ := List.mem_map.mp z
        obtain ⟨q, _, hq⟩ := h.row_name hr
        exact xnm_out _ _ (hq.symm.trans e)
      · exact hj z
  have hT : ∀ r ∈ m.ty ins outs, r ∈ (m.out (outnm j) a).ty ins (outs ++ [(outnm j, k)]) := fun r hr => by
    unfold Ms.ty at hr ⊢
    rw [inT_app]
    simp only [List.mem_append] at hr ⊢
    rcases hr with (z | z) | z
    · exact .inl (.inl z)
    · exact .inl (.inr (.inl z))
    · exact .inr z
  refine { h with outn := ?_, outi := ?_, ook := ?_, ka := ?_, lines := ?_, nd := ?_, sub := ?_, og := ?_, mems := ?_, sz := ?_ }
  · rw [List.map_append, List.nodup_append]
    exact ⟨h.outn, by simp, fun a ha b hb e => by
      have : b = outnm j := by simpa using hb
      subst this; subst e; exact hj ha⟩
  · intro p hp
    rcases List.mem_append.mp hp with z | z
    · exact h.outi p z
    · have : p = (outnm j, k) := by simpa using z
      subst this; exact ⟨j, rfl⟩
  · intro p hp
    rcases List.mem_append.mp hp with z | z
    · exact h.ook p z
    · have : p = (outnm j, k) := by simpa using z
      subst this; exact hk
  · intro r hr
    rw [hav]
    exact List.mem_append_left _ (h.ka r hr)
  · refine (h.lines.mono hT fun x hx => hx).snoc ⟨k, [], ?_, by simp, h.ka _ ha, hT _ (h.known_ty ha)⟩
    unfold Ms.ty
    rw [inT_app]
    simp [inT]
  · rw [hav, List.nodup_append]
    exact ⟨h.nd, by simp, fun a ha b hb e => by
      have : b = outnm j := by simpa using hb
      subst this; subst e; exact hno ha⟩
  · intro y hy
    have hy : y ∈ m.later.map (·.1) ++ givesL (m.lines ++ [.is (outnm j) (.copy a)]) := hy
    rw [givesL_app, ← List.append_assoc] at hy
    rcases List.mem_append.mp hy with z | z
    · refine (h.sub y z).imp (fun q => q) fun q => ?_
      rw [List.map_append]; exact List.mem_append_left _ q
    · have : y = outnm j := by simpa [givesL, gives] using z
      subst this
      exact .inr (by simp)
  · intro p hp
    show p.1 ∈ givesL (m.lines ++ [.is (outnm j) (.copy a)])
    rw [givesL_app]
    rcases List.mem_append.mp hp with z | z
    · exact List.mem_append_left _ (h.og p z)
    · have : p = (outnm j, k) := by simpa using z
      subst this
      exact List.mem_append_right _ (by simp [givesL, gives])
  · intro q hq
    have hq : q ∈ memsL (m.lines ++ [.is (outnm j) (.copy a)]) := hq
    rw [memsL_app] at hq
    rcases List.mem_append.mp hq with z | z
    · exact h.mems q z
    · cases z
  · obtain ⟨a, b, c', d⟩ := h.sz
    refine ⟨by show m.rows.length ≤ _; omega, by show m.known.length ≤ _; omega, ?_, by show m.later.length ≤ _; omega⟩
    show (m.lines ++ [_]).length ≤ _
    rw [List.length_append, List.length_singleton]; omega
/-- a memory is put in -/
theorem Inv.mem (h : Inv ins outs sg n m) {A B : List Eqn} (hl : m.lines = A ++ B) {x s : Nm} {v : Int} {k : Kd} {c : Ck} (hx : (x, k, c) ∈ m.known) (hv : inK k v) (hs : (s, k, c) ∈ m.known) : Inv ins outs sg (n + 1) { m with lines := A ++ .mem x v s :: B } := by
  have hg : givesL (A ++ .mem x v s :: B) = givesL m.lines := by
    rw [hl, givesL_app, givesL_app]; rfl
  refine { h with ka := ?_, lines := ?_, nd := ?_, sub := ?_, og := ?_, mems := ?_, sz := ?_ }
  · intro r hr
    show r.1 ∈ ins.map (·.1) ++ m.later.map (·.1) ++ givesL (A ++ .mem x v s :: B)
    rw [hg]; exact h.ka r hr
  · have := h.lines
    rw [hl] at this
    exact this.ins
  · show (ins.map (·.1) ++ m.later.map (·.1) ++ givesL (A ++ .mem x v s :: B)).Nodup
    rw [hg]; exact h.nd
  · intro y hy
    have hy : y ∈ m.later.map (·.1) ++ givesL (A ++ .mem x v s :: B) := hy
    rw [hg] at hy
    exact h.sub y hy
  · intro p hp
    show p.1 ∈ givesL (A ++ .mem x v s :: B)
    rw [hg]; exact h.og p hp
  · intro q hq
    have hq : q ∈ memsL (A ++ .mem x v s :: B) := hq
    rw [memsL_app] at hq
    rcases List.mem_append.mp hq with z | z
    · exact h.mems q (by rw [hl, memsL_app]; exact List.mem_append_left _ z)
    · rcases List.mem_cons.mp (show q ∈ (x, v, s) :: memsL B from z) with rfl | z
      · exact ⟨k, c, hx, hv, hs⟩
      · exact h.mems q (by rw [hl, memsL_app]; exact List.mem_append_right _ z)
  · obtain ⟨a, b, c', d⟩ := h.sz
    rw [hl, List.length_append] at c'
    refine ⟨by show m.rows.length ≤ _; omega, by show m.known.length ≤ _; omega, ?_, by show m.later.length ≤ _; omega⟩
    show (A ++ .mem x v s :: B).length ≤ _
    rw [List.length_append, List.length_cons]; omega
theorem nodup_len {α : Type} [DecidableEq α] : ∀ {l m : List α}, l.Nodup → (∀ x ∈ l, x ∈ m) → l.length ≤ m.length
  | [], _, _, _ => Nat.zero_le _
  | a :: l, m, nd, h => by
    rw [List.nodup_cons] at nd
    have h1 : a ∈ m := h a List.mem_cons_self
    have := nodup_len (l := l) (m := m.erase a) nd.2 fun x hx => by
      have hne : x ≠ a := fun e => nd.1 (e ▸ hx)
      exact (List.mem_erase_of_ne hne).mpr (h x (List.mem_cons_of_mem _ hx))
    rw [List.length_erase_of_mem h1] at this
    have h2 : 0 < m.length := List.length_pos_of_mem h1
    simp only [List.length_cons]
    omega
/-- a whole node -/
theorem Inv.wfn (h : Inv ins outs sg n m) (hn : n ≤ 7900) (hi : ins.length ≤ 1000) (ho : outs.length ≤ 1000) (ho1 : outs ≠ []) (hp : ((memsL m.lines).map (·.1)).Perm (m.later.map (·.1))) {rows' : List Row} (hr : rows'.Perm m.rows) (name : Nm) : WFN sg ⟨name, ins, outs, rows', m.lines⟩ := by
  have hty : tyOf ⟨name, ins, outs, rows', m.lines⟩ = inT ins ++ inT outs ++ rows' := rfl
  have hst : start ⟨name, ins, outs, rows', m.lines⟩ = ins.map (·.1) ++ (memsL m.lines).map (·.1) := rfl
  have hT : ∀ r, r ∈ tyOf ⟨name, ins, outs, rows', m.lines⟩ ↔ r ∈ m.ty ins outs := fun r => by
    rw [hty]
    unfold Ms.ty
    rw [List.mem_append, List.mem_append (t := m.rows), hr.mem_iff]
  have hpm : (start ⟨name, ins, outs, rows', m.lines⟩ ++ givesL m.lines).Perm (m.av ins) := by
    rw [hst]
    exact (hp.append_left _).append_right _
  have kav : ∀ {r : Row}, r ∈ m.known → r.1 ∈ start ⟨name, ins, outs, rows', m.lines⟩ ++ givesL m.lines := fun hr => hpm.mem_iff.mpr (h.ka _ hr)
  have kavn : ∀ {x : Nm}, x ∈ m.known.map (·.1) → x ∈ start ⟨name, ins, outs, rows', m.lines⟩ ++ givesL m.lines := fun hx => by
    obtain ⟨r, hr, e⟩ := List.mem_map.mp hx
    exact e ▸ kav hr
  have inn : (inT ins).map (·.1) = ins.map (·.1) := by unfold inT; rw [List.map_map]; rfl
  have outn : (inT outs).map (·.1) = outs.map (·.1) := by unfold inT; rw [List.map_map]; rfl
  have rowi : ∀ x ∈ rows'.map (·.1), ∃ k, x = xnm k := fun x hx => by
    obtain ⟨r, hr', rfl⟩ := List.mem_map.mp hx
    obtain ⟨k, _, e⟩ := h.row_name (hr.mem_iff.mp hr')
    exact ⟨k, e⟩
  have hi1 : ∀ x ∈ ins.map (·.1), ∃ k, x = innm k := fun x hx => by
    obtain ⟨p, hp, rfl⟩ := List.mem_map.mp hx
    exact h.ini p hp
  have ho2 : ∀ x ∈ outs.map (·.1), ∃ k, x = outnm k := fun x hx => by
    obtain ⟨p, hp, rfl⟩ := List.mem_map.mp hx
    exact h.outi p hp
  obtain ⟨s1, s2, s3, s4⟩ := h.sz
  have hrl := hr.length_eq
  refine ⟨?_, ?_, ?_, ?_, ?_, ?_, ho1, ?_, ?_, ?_, ?_, ?_⟩
  · rw [hty, List.map_append, List.map_append, inn, outn, List.nodup_append, List.nodup_append]
    refine ⟨⟨h.inn, h.outn, fun a ha b hb e => ?_⟩, ?_, fun a ha b hb e => ?_⟩
    · obtain ⟨j, hj⟩ := hi1 a ha
      obtain ⟨k, hk⟩ := ho2 b hb
      exact innm_out _ _ (hj.symm.trans (e.trans hk))
    · rw [(hr.map _).nodup_iff]; exact h.rows_nd
    · obtain ⟨k, hk⟩ := rowi b hb
      rcases List.mem_append.mp ha with ha | ha
      · obtain ⟨j, hj⟩ := hi1 a ha
        exact xnm_in _ _ (hk.symm.trans (e.symm.trans hj))
      · obtain ⟨j, hj⟩ := ho2 a ha
        exact xnm_out _ _ (hk.symm.trans (e.symm.trans hj))
  · intro r hr'
    rw [hT] at hr'
    unfold Ms.ty at hr'
    simp only [List.mem_append] at hr'
    rcases hr' with (z | z) | z
    · obtain ⟨p, hp, rfl⟩ := List.mem_map.mp z
      exact h.iok p hp
    · obtain ⟨p, hp, rfl⟩ := List.mem_map.mp z
      exact h.ook p hp
    · exact (h.rk r z).1
  · refine h.lines.mono (fun r hr => (hT r).mpr hr) fun x hx => ?_
    rw [hst]
    rcases List.mem_append.mp hx with z | z
    · exact List.mem_append_left _ z
    · exact List.mem_append_right _ (hp.mem_iff.mpr z)
  · rw [hpm.nodup_iff]; exact h.nd
  · intro q hq
    obtain ⟨k, c, a, b, d⟩ := h.mems q hq
    exact ⟨k, c, (hT _).mpr (h.known_ty a), b, (hT _).mpr (h.known_ty d), kav d, fun p hp => kavn (h.kc _ a p hp)⟩
  · intro p hp'
    exact List.mem_append_right _ (h.og p hp')
  · intro r hr'
    rw [hT] at hr'
    unfold Ms.ty at hr'
    simp only [List.mem_append] at hr'
    rcases hr' with (z | z) | z
    · obtain ⟨p, hp', rfl⟩ := List.mem_map.mp z
      obtain ⟨k, hk⟩ := h.ini p hp'
      show p.1 ≠ []
      rw [hk]; simp [innm]
    · obtain ⟨p, hp', rfl⟩ := List.mem_map.mp z
      obtain ⟨k, hk⟩ := h.outi p hp'
      show p.1 ≠ []
      rw [hk]; simp [outnm]
    · obtain ⟨k, _, hk⟩ := h.row_name z
      rw [hk]; simp [xnm]
  · rw [hty]
    simp only [List.length_append, inT, List.length_map]
    omega
  · show m.lines.length ≤ 10000
    omega
  · rw [hpm.length_eq]
    have := nodup_len h.nd (m := ins.map (·.1) ++ (m.rows.map (·.1) ++ outs.map (·.1))) fun x hx => by
      unfold Ms.av at hx
      rw [List.append_assoc] at hx
      rcases List.mem_append.mp hx with z | z
      · exact List.mem_append_left _ z
      · exact List.mem_append_right _ (List.mem_append.mpr (h.sub x z))
    simp only [List.length_append, List.length_map] at this
    omega
  · intro r hr'
    rw [hT] at hr'
    unfold Ms.ty at hr'
    simp only [List.mem_append] at hr'
    rcases hr' with (z | z) | z
    · obtain ⟨p, hp', rfl⟩ := List.mem_map.mp z
      exact Nat.zero_le _
    · obtain ⟨p, hp', rfl⟩ := List.mem_map.mp z
      exact Nat.zero_le _
    · have := (h.rk r z).2
      omega
end
end Nrm
/-! Pv, part W: more rules: sums, slices, tuple(), list(). -/
namespace Pv
open PySem L2
section
variable {st : Store}
@[simp] theorem addP_tup (xs ys : List PV) : addP (.tup xs) (.tup ys) st = if xs.length + ys.length ≤ sizeLine then some (.tup (xs ++ ys)) else none := rfl
@[simp] theorem addP_str (xs ys : List Nat) : addP (.str xs) (.str ys) st = if xs.length + ys.length ≤ sizeLine then some (.str (xs ++ ys)) else none := rfl
@[simp] theorem addP_lst (xs ys : List PV) : addP (.lst xs) (.lst ys) st = if xs.length + ys.length ≤ sizeLine then some (.lst (xs ++ ys)) else none := rfl
@[simp] theorem slcP_tup (xs : List PV) (lo hi : Option Int) : slcP (.tup xs) lo hi st = some (.tup (cutP xs lo hi)) := rfl
@[simp] theorem slcP_str (xs : List Nat) (lo hi : Option Int) : slcP (.str xs) lo hi st = some (.str (cutP xs lo hi)) := rfl
@[simp] theorem slcP_lst (xs : List PV) (lo hi : Option Int) : slcP (.lst xs) lo hi st = some (.lst (cutP xs lo hi)) := rfl
@[simp] theorem negP_int (i : Int) : negP (.int i) st = some (.int (-i)) := rfl
@[simp] theorem tupB_lst (xs : List PV) : tupB [.lst xs] st = some (.tup xs, st) := rfl
@[simp] theorem tupB_tup (xs : List PV) : tupB [.tup xs] st = some (.tup xs, st) := rfl
theorem tupB_ref {n : Nat} {xs : List PV} (h : st[n]? = some (.lst xs)) : tupB [.ref n] st = some (.tup xs, st) := by simp [tupB, asR_ref h]
@[simp] theorem lstB_tup (bx : Bool) (xs : List PV) : lstB bx [.tup xs] st = some (newL bx xs st) := rfl
@[simp] theorem lstB_lst (bx : Bool) (xs : List PV) : lstB bx [.lst xs] st = some (newL bx xs st) := rfl
end
theorem cut_mem {xs : List PV} {lo hi : Option Int} {x : PV} (h : x ∈ cutP xs lo hi) : x ∈ xs := List.mem_of_mem_drop (List.mem_of_mem_take h)
end Pv
set_option maxHeartbeats 8000000
namespace K67
open Pv PySem L2
def top (i : Nat) : Stmt := PySem.Challenge.pw_streamdown_k67_errors_of_the_lower_half.main.body.getD i (.Pass ⟨0, 0, 0, 0⟩)
def D : List DefI := [
  { name := "is_integer", qual := "is_integer", st := top 6, N := ["value"], ps := ["value"] },
  { name := "is_number", qual := "is_number", st := top 7, N := ["value", "low", "high"], ps := ["value", "low", "high"] },
  { name := "is_tuple", qual := "is_tuple", st := top 8, N := ["value", "size"], ps := ["value", "size"] },
  { name := "size_of", qual := "size_of", st := top 12, N := ["kind"], ps := ["kind"] },
  { name := "table_of", qual := "table_of", st := top 13, N := ["node", "found", "name", "kind", "clock"], ps := ["node"] },
  { name := "given_by", qual := "given_by", st := top 14, N := ["equation"], ps := ["equation"] },
  { name := "read_by_op", qual := "read_by_op", st := top 15, N := ["op", "mark", "piece"], ps := ["op"] },
  { name := "read_by", qual := "read_by", st := top 16, N := ["equation"], ps := ["equation"] },
  { name := "clock_of", qual := "clock_of", st := top 17, N := ["node_table", "equation"], ps := ["node_table", "equation"] },
  { name := "clock_names", qual := "clock_names", st := top 18, N := ["clock", "name", "_"], ps := ["clock"] },
  { name := "kept_by", qual := "kept_by", st := top 19, N := ["equation"], ps := ["equation"] },
  { name := "calls_of", qual := "calls_of", st := top 20, N := ["node", "equation"], ps := ["node"] },
  { name := "nodes_of", qual := "nodes_of", st := top 21, N := ["program", "node"], ps := ["program"] },
  { name := "calculated", qual := "calculated", st := top 23, N := ["op", "kind", "values"], ps := ["op", "kind", "values"] },
  { name := "reckoned", qual := "reckoned", st := top 24, N := ["word", "size", "a", "b"], ps := ["word", "size", "a", "b"] },
  { name := "is_there", qual := "is_there", st := top 25, N := ["clock", "values", "name", "side"], ps := ["clock", "values"] },
  { name := "first_of", qual := "first_of", st := top 26, N := ["nodes", "name", "node", "values", "inner", "equation"], ps := ["nodes", "name"] },
  { name := "first_memory", qual := "first_memory", st := top 27, N := ["program"], ps := ["program"] },
  { name := "op_value", qual := "op_value", st := top 28, N := ["table", "values", "x", "op", "name"], ps := ["table", "values", "x", "op"] },
  { name := "names_read", qual := "names_read", st := top 29, N := ["op"], ps := ["op"] },
  { name := "node_step", qual := "node_step", st := top 30, N := ["nodes", "name", "memory", "instant", "node", "table", "values", "held", "inner", "number", "equation", "behind", "value", "there", "x", "_"], ps := ["nodes", "name", "memory", "instant"] },
  { name := "instance_step", qual := "instance_step", st := top 31, N := ["nodes", "table", "values", "equation", "memory", "_", "xs", "name", "args", "reset", "outputs", "x", "a"], ps := ["nodes", "table", "values", "equation", "memory"] },
  { name := "stepped", qual := "stepped", st := top 32, N := ["program", "memory", "instant"], ps := ["program", "memory", "instant"] },
  { name := "flat_of", qual := "flat_of", st := top 33, N := ["memory", "found", "inner"], ps := ["memory"] },
  { name := "shaped", qual := "shaped", st := top 34, N := ["memory", "flat", "size", "inner", "one", "values", "own"], ps := ["memory", "flat"] },
  { name := "memory_from", qual := "memory_from", st := top 35, N := ["program", "flat"], ps := ["program", "flat"] },
  { name := "lines_in_order", qual := "lines_in_order", st := top 39, N := ["node", "table", "left", "found", "equation", "wanted"], ps := ["node"] },
  { name := "recalls_of", qual := "recalls_of", st := top 40, N := ["table", "left", "names", "found", "name"], ps := ["table", "left", "names"] },
  { name := "are_places", qual := "are_places", st := top 41, N := ["node", "value", "name", "_", "equation", "row", "place"], ps := ["node", "value"] },
  { name := "__init__", qual := "Place.__init__", st := inClass (top 42) 0, N := ["self", "lines"], ps := ["self", "lines"] },
  { name := "__init__", qual := "Spread.__init__", st := inClass (top 43) 0, N := ["self", "node", "places", "rows", "room", "line", "name", "equation", "number", "_"], ps := ["self", "node", "places", "rows", "room"] },
  { name := "readers", qual := "Spread.readers", st := inClass (top 43) 1, N := ["self", "found", "number", "place", "line", "name", "numbers"], ps := ["self"] },
  { name := "reads", qual := "Spread.reads", st := inClass (top 43) 2, N := ["self", "line", "equation", "names"], ps := ["self", "line"] },
  { name := "is_over", qual := "Spread.is_over", st := inClass (top 43) 3, N := ["self", "number"], ps := ["self", "number"] },
  { name := "value", qual := "Spread.value", st := inClass (top 43) 4, N := ["self", "number", "name", "place", "row", "at", "x", "_"], ps := ["self", "number", "name"] },
  { name := "clock_state", qual := "Spread.clock_state", st := inClass (top 43) 5, N := ["self", "number", "clock", "name", "side", "is_known", "value"], ps := ["self", "number", "clock"] },
  { name := "can_send", qual := "Spread.can_send", st := inClass (top 43) 6, N := ["self", "name", "number"], ps := ["self", "name"] },
  { name := "send", qual := "Spread.send", st := inClass (top 43) 7, N := ["self", "name", "value", "number", "row"], ps := ["self", "name", "value"] },
  { name := "turn", qual := "Spread.turn", st := inClass (top 43) 8, N := ["self", "number", "place", "line", "there"], ps := ["self", "number"] },
  { name := "carried_out", qual := "Spread.carried_out", st := inClass (top 43) 9, N := ["self", "number", "place", "line", "name", "equation", "value", "known", "is_known", "one", "x", "_"], ps := ["self", "number", "place", "line"] },
  { name := "needs", qual := "Spread.needs", st := inClass (top 43) 10, N := ["self", "number", "equation", "op", "is_known", "value"], ps := ["self", "number", "equation"] },
  { name := "told", qual := "Spread.told", st := inClass (top 43) 11, N := ["self", "row", "x", "_"], ps := ["self"] },
  { name := "run_spread", qual := "run_spread", st := top 44, N := ["program", "places", "rows", "turns", "room", "spread", "number", "equation"], ps := ["program", "places", "rows", "turns", "room"] },
  { name := "instants_of", qual := "instants_of", st := top 48, N := ["program", "found", "_", "kind", "row", "value"], ps := ["program"] },
  { name := "__init__", qual := "Exploring.__init__", st := inClass (top 49) 0, N := ["self", "program", "first"], ps := ["self", "program"] },
  { name := "explore", qual := "Exploring.explore", st := inClass (top 49) 1, N := ["self", "at", "memory", "row", "instant", "outputs", "behind"], ps := ["self"] },
  { name := "number", qual := "Exploring.number", st := inClass (top 49) 2, N := ["self", "flat", "at", "instant"], ps := ["self", "flat", "at", "instant"] },
  { name := "explored", qual := "explored", st := top 50, N := ["program", "found"], ps := ["program"] },
  { name := "apart_paper", qual := "apart_paper", st := top 51, N := ["one", "two", "found", "order", "at", "a", "b", "number", "instant", "row", "left", "right"], ps := ["one", "two"] },
  { name := "place_of", qual := "place_of", st := top 53, N := ["program", "name", "main", "at", "x", "kind"], ps := ["program", "name"] },
  { name := "first_row", qual := "first_row", st := top 54, N := ["program", "place", "value", "found", "best", "state", "row", "instant", "outputs", "_", "own"], ps := ["program", "place", "value"] },
  { name := "row_to", qual := "row_to", st := top 55, N := ["program", "name"], ps := ["program", "name"] },
  { name := "needed_of", qual := "needed_of", st := top 57, N := ["node", "outputs", "table", "by_name", "found", "waiting", "name", "equation"], ps := ["node", "outputs"] },
  { name := "slice_of", qual := "slice_of", st := top 58, N := ["program", "outputs", "nodes", "main", "needed", "equations", "kept", "given", "rows", "equation", "name", "one", "x", "kind", "row", "_"], ps := ["program", "outputs"] },
  { name := "reached_nodes", qual := "reached_nodes", st := top 59, N := ["nodes", "first", "found", "waiting", "name"], ps := ["nodes", "first"] },
  { name := "_law_cell", qual := "_law_cell", st := top 61, N := ["script", "k"], ps := ["script", "k"] },
  { name := "_law_numbers", qual := "_law_numbers", st := top 62, N := ["cell", "many", "rows", "left", "k", "mixed"], ps := ["cell", "many"] },
  { name := "_law_pool", qual := "_law_pool", st := top 63, N := ["script", "rows", "k"], ps := ["script"] },
  { name := "_law_draw", qual := "_law_draw", st := top 64, N := ["pool", "many", "at", "turn"], ps := ["pool", "many"] },
  { name := "_law_kinds_of", qual := "_law_kinds_of", st := top 65, N := ["e", "found"], ps := ["e"] },
  { name := "_law_do", qual := "_law_do", st := top 66, N := ["way", "number", "b", "node", "program", "e"], ps := ["way", "number"] },
  { name := "law", qual := "law", st := top 67, N := ["script", "pool", "number", "due", "way", "node", "rows", "told", "k"], ps := ["script"] }]
def S : Stc := { fns := [(("is_integer" : Str), 0), (("is_number" : Str), 1), (("is_tuple" : Str), 2), (("size_of" : Str), 3), (("table_of" : Str), 4), (("given_by" : Str), 5), (("read_by_op" : Str), 6), (("read_by" : Str), 7), (("clock_of" : Str), 8), (("clock_names" : Str), 9), (("kept_by" : Str), 10), (("calls_of" : Str), 11), (("nodes_of" : Str), 12), (("calculated" : Str), 13), (("reckoned" : Str), 14), (("is_there" : Str), 15), (("first_of" : Str), 16), (("first_memory" : Str), 17), (("op_value" : Str), 18), (("names_read" : Str), 19), (("node_step" : Str), 20), (("instance_step" : Str), 21), (("stepped" : Str), 22), (("flat_of" : Str), 23), (("shaped" : Str), 24), (("memory_from" : Str), 25), (("lines_in_order" : Str), 26), (("recalls_of" : Str), 27), (("are_places" : Str), 28), (("run_spread" : Str), 42), (("instants_of" : Str), 43), (("explored" : Str), 47), (("apart_paper" : Str), 48), (("place_of" : Str), 49), (("first_row" : Str), 50), (("row_to" : Str), 51), (("needed_of" : Str), 52), (("slice_of" : Str), 53), (("reached_nodes" : Str), 54), (("_law_cell" : Str), 55), (("_law_numbers" : Str), 56), (("_law_pool" : Str), 57), (("_law_draw" : Str), 58), (("_law_kinds_of" : Str), 59), (("_law_do" : Str), 60), (("law" : Str), 61)], mks := [("Place", 0, 29), ("Spread", 1, 30), ("Exploring", 2, 44)], mts := [("readers", [(1, 31)]), ("reads", [(1, 32)]), ("is_over", [(1, 33)]), ("value", [(1, 34)]), ("clock_state", [(1, 35)]), ("can_send", [(1, 36)]), ("send", [(1, 37)]), ("turn", [(1, 38)]), ("carried_out", [(1, 39)]), ("needs", [(1, 40)]), ("told", [(1, 41)]), ("explore", [(2, 45)]), ("number", [(2, 46)])], gcs := [("BOOL", .tup [.str [98, 111, 111, 108]]), ("MOST_PLACES", .int 4), ("MOST_ROOM", .int 9), ("MOST_STATES", .int 300), ("MOST_INSTANTS", .int 64)], flds := [("lines", [0]), ("at", [0, 1]), ("instant", [0, 1]), ("now", [0, 1]), ("held", [0]), ("node", [1]), ("table", [1]), ("by_name", [1]), ("home", [1]), ("rows", [1, 2]), ("room", [1]), ("letters", [1]), ("most", [1]), ("outputs", [1]), ("places", [1]), ("wanted", [1]), ("program", [2]), ("instants", [2]), ("numbers", [2]), ("order", [2]), ("ways", [2])], bx := [(23, 12), (85, 13), (88, 12), (97, 13), (122, 12), (134, 11), (135, 12), (144, 12), (163, 19), (164, 20), (170, 23), (174, 23), (176, 24), (177, 29), (189, 16), (189, 23), (195, 15), (252, 24), (319, 23), (322, 20), (328, 18), (350, 12), (351, 12), (388, 12), (389, 14), (414, 12), (415, 14), (428, 11), (444, 18), (451, 12)], kys := [], frz := [], frzv := [], exs := [("NotFitting", 3), ("LowError", 4), ("Blocked", 5), ("TooMany", 6)], exm := [("LowError", [(3, true), (5, true), (6, true)])], pl := [(473, 32), (496, 39)], nrm := [(294, 37)], sdt := [(141, 47), (195, 22), (184, 20), (195, 22)], ent := [(368, 35)], kit := [(189, 38), (195, 59), (180, 30), (189, 38), (195, 59)], zs := [(29, 47)], lkf := [(189, 0, some [98, 121, 95, 110, 97, 109, 101]), (195, 1, none), (180, 0, some [98, 121, 95, 110, 97, 109, 101]), (189, 0, some [98, 121, 95, 110, 97, 109, 101]), (195, 1, none)], lvf := [191, 191], rst := [483], kin := [("_law_kinds_of", [(3, [[78, 111, 116, 70, 105, 116, 116, 105, 110, 103]]), (5, [[66, 108, 111, 99, 107, 101, 100]]), (6, [[84, 111, 111, 77, 97, 110, 121]])])], wds := [("OPS", [([118, 97, 108, 117, 101], .str [118]), ([99, 111, 112, 121], .str [110]), ([109, 97, 116, 104], .str [119, 110, 110]), ([110, 111, 116], .str [110]), ([99, 104, 111, 111, 115, 101], .str [110, 110, 110]), ([119, 104, 101, 110], .str [110]), ([109, 101, 114, 103, 101], .str [110, 110, 110])])] }
end K67
namespace K67
open Pv PySem L2
def wd_OPS : List (List Nat × PV) := [([118, 97, 108, 117, 101], .str [118]), ([99, 111, 112, 121], .str [110]), ([109, 97, 116, 104], .str [119, 110, 110]), ([110, 111, 116], .str [110]), ([99, 104, 111, 111, 115, 101], .str [110, 110, 110]), ([119, 104, 101, 110], .str [110]), ([109, 101, 114, 103, 101], .str [110, 110, 110])]
/-- no place can go on -/
def cs0 : List Nat := [110, 111, 32, 112, 108, 97, 99, 101, 32, 99, 97, 110, 32, 103, 111, 32, 111, 110]
/-- these are no places, or no room -/
def cs1 : List Nat := [116, 104, 101, 115, 101, 32, 97, 114, 101, 32, 110, 111, 32, 112, 108, 97, 99, 101, 115, 44, 32, 111, 114, 32, 110, 111, 32, 114, 111, 111, 109]
/-- the program has instances -/
def cs2 : List Nat := [116, 104, 101, 32, 112, 114, 111, 103, 114, 97, 109, 32, 104, 97, 115, 32, 105, 110, 115, 116, 97, 110, 99, 101, 115]
/-- there are too many instants -/
def cs3 : List Nat := [116, 104, 101, 114, 101, 32, 97, 114, 101, 32, 116, 111, 111, 32, 109, 97, 110, 121, 32, 105, 110, 115, 116, 97, 110, 116, 115]
/-- there are too many memories -/
def cs4 : List Nat := [116, 104, 101, 114, 101, 32, 97, 114, 101, 32, 116, 111, 111, 32, 109, 97, 110, 121, 32, 109, 101, 109, 111, 114, 105, 101, 115]
/-- the machines have unlike instants -/
def cs5 : List Nat := [116, 104, 101, 32, 109, 97, 99, 104, 105, 110, 101, 115, 32, 104, 97, 118, 101, 32, 117, 110, 108, 105, 107, 101, 32, 105, 110, 115, 116, 97, 110, 116, 115]
/-- this is no bool output -/
def cs6 : List Nat := [116, 104, 105, 115, 32, 105, 115, 32, 110, 111, 32, 98, 111, 111, 108, 32, 111, 117, 116, 112, 117, 116]
/-- these are no outputs -/
def cs7 : List Nat := [116, 104, 101, 115, 101, 32, 97, 114, 101, 32, 110, 111, 32, 111, 117, 116, 112, 117, 116, 115]
/-- NotFitting -/
def cs8 : List Nat := [78, 111, 116, 70, 105, 116, 116, 105, 110, 103]
def mt (tf : Nat → FF) (m : Str) (c : Nat) : Option FF := (S.mt m c).map tf
def b0 (tf tfm : Nat → FF) : FS := (fsSeq (fsRet (fAnd (fIsi .int (fVar 0)) (fNot (fIsi .bool (fVar 0))))) fsNil)
theorem e0 (tf tfm : Nat → FF) : evb S D tf tfm 0 = fnF 1 1 (b0 tf tfm) := by kernel_rfl
def b1 (tf tfm : Nat → FF) : FS := (fsSeq (fsRet (fAnd (fCall (tf 0) (faCons (fVar 0) faNil)) (fChain leC leC (fVar 1) (fVar 0) (fVar 2)))) fsNil)
theorem e1 (tf tfm : Nat → FF) : evb S D tf tfm 1 = fnF 3 3 (b1 tf tfm) := by kernel_rfl
def b2 (tf tfm : Nat → FF) : FS := (fsSeq (fsRet (fAnd (fIsi .tuple (fVar 0)) (fBin eqC (fcB lenB (faCons (fVar 0) faNil)) (fVar 1)))) fsNil)
theorem e2 (tf tfm : Nat → FF) : evb S D tf tfm 2 = fnF 2 2 (b2 tf tfm) := by kernel_rfl
def b3 (tf tfm : Nat → FF) : FS := (fsSeq (fsRet (fIte (fBl (fBin eqC (fVar 0) (fC (.tup [(.str [98, 111, 111, 108])])))) (fC (.int 2)) (fBin idxP (fVar 0) (fC (.int 1))))) fsNil)
theorem e3 (tf tfm : Nat → FF) : evb S D tf tfm 3 = fnF 1 1 (b3 tf tfm) := by kernel_rfl
def b4 (tf tfm : Nat → FF) : FS := (fsSeq (fsAsg (fDComp true [2, 3] (fiVal (fBin addP (fBin idxP (fVar 0) (fC (.int 1))) (fBin idxP (fVar 0) (fC (.int 2))))) (gtTup 2 (gsCons (gtName 2) (gsCons (gtName 3) gsNil))) ftYes (fVar 2) (fTup (faCons (fVar 3) (faCons (fTup faNil) faNil)))) (gtName 1)) (fsSeq (fsDrop (fBM isDic updM (fVar 1) (faCons (fDComp false [2, 3, 4] (fiVal (fBin idxP (fVar 0) (fC (.int 3)))) (gtTup 3 (gsCons (gtName 2) (gsCons (gtName 3) (gsCons (gtName 4) gsNil)))) ftYes (fVar 2) (fTup (faCons (fVar 3) (faCons (fVar 4) faNil)))) faNil))) (fsSeq (fsRet (fVar 1)) fsNil)))
theorem e4 (tf tfm : Nat → FF) : evb S D tf tfm 4 = fnF 1 5 (b4 tf tfm) := by kernel_rfl
def b5 (tf tfm : Nat → FF) : FS := (fsSeq (fsRet (fIte (fBl (fBin eqC (fBin idxP (fVar 0) (fC (.int 0))) (fC (.str [110, 111, 100, 101])))) (fBin idxP (fVar 0) (fC (.int 1))) (fTup (faCons (fBin idxP (fVar 0) (fC (.int 1))) faNil)))) fsNil)
theorem e5 (tf tfm : Nat → FF) : evb S D tf tfm 5 = fnF 1 1 (b5 tf tfm) := by kernel_rfl
def b6 (tf tfm : Nat → FF) : FS := (fsSeq (fsRet (fcB tupB (faCons (fComp false [1, 2] (fiZipS (fWd wd_OPS (fBin idxP (fVar 0) (fC (.int 0)))) (fSlc (fVar 0) (foSome (fC (.int 1))) foNone)) (gtTup 2 (gsCons (gtName 1) (gsCons (gtName 2) gsNil))) (fBl (fBin eqC (fVar 1) (fC (.str [110])))) (fVar 2)) faNil))) fsNil)
theorem e6 (tf tfm : Nat → FF) : evb S D tf tfm 6 = fnF 1 3 (b6 tf tfm) := by kernel_rfl
def b7 (tf tfm : Nat → FF) : FS := (fsSeq (fsIf (fBl (fBin eqC (fBin idxP (fVar 0) (fC (.int 0))) (fC (.str [105, 115])))) (fsSeq (fsRet (fCall (tf 6) (faCons (fBin idxP (fVar 0) (fC (.int 2))) faNil))) fsNil) fsNil) (fsSeq (fsIf (fBl (fBin eqC (fBin idxP (fVar 0) (fC (.int 0))) (fC (.str [109, 101, 109, 111, 114, 121])))) (fsSeq (fsRet (fTup faNil)) fsNil) fsNil) (fsSeq (fsRet (fBin addP (fBin idxP (fVar 0) (fC (.int 3))) (fIte (fBl (fBin neC (fBin idxP (fVar 0) (fC (.int 4))) (fC (.str [])))) (fTup (faCons (fBin idxP (fVar 0) (fC (.int 4))) faNil)) (fTup faNil)))) fsNil)))
theorem e7 (tf tfm : Nat → FF) : evb S D tf tfm 7 = fnF 1 1 (b7 tf tfm) := by kernel_rfl
def b8 (tf tfm : Nat → FF) : FS := (fsSeq (fsRet (fBin idxP (fBin idxP (fVar 0) (fBin idxP (fCall (tf 5) (faCons (fVar 1) faNil)) (fC (.int 0)))) (fC (.int 1)))) fsNil)
theorem e8 (tf tfm : Nat → FF) : evb S D tf tfm 8 = fnF 2 2 (b8 tf tfm) := by kernel_rfl
def b9 (tf tfm : Nat → FF) : FS := (fsSeq (fsRet (fcB tupB (faCons (fComp false [1, 2] (fiVal (fVar 0)) (gtTup 2 (gsCons (gtName 1) (gsCons (gtName 2) gsNil))) ftYes (fVar 1)) faNil))) fsNil)
theorem e9 (tf tfm : Nat → FF) : evb S D tf tfm 9 = fnF 1 3 (b9 tf tfm) := by kernel_rfl
def b10 (tf tfm : Nat → FF) : FS := (fsSeq (fsRet (fIte (fBl (fBin eqC (fBin idxP (fVar 0) (fC (.int 0))) (fC (.str [109, 101, 109, 111, 114, 121])))) (fTup (faCons (fBin idxP (fVar 0) (fC (.int 3))) faNil)) (fTup faNil))) fsNil)
theorem e10 (tf tfm : Nat → FF) : evb S D tf tfm 10 = fnF 1 1 (b10 tf tfm) := by kernel_rfl
def b11 (tf tfm : Nat → FF) : FS := (fsSeq (fsRet (fComp false [1] (fiVal (fBin idxP (fVar 0) (fC (.int 4)))) (gtName 1) (fBl (fBin eqC (fBin idxP (fVar 1) (fC (.int 0))) (fC (.str [110, 111, 100, 101])))) (fBin idxP (fVar 1) (fC (.int 2))))) fsNil)
theorem e11 (tf tfm : Nat → FF) : evb S D tf tfm 11 = fnF 1 2 (b11 tf tfm) := by kernel_rfl
def b12 (tf tfm : Nat → FF) : FS := (fsSeq (fsRet (fDComp false [1] (fiVal (fBin idxP (fVar 0) (fC (.int 0)))) (gtName 1) ftYes (fBin idxP (fVar 1) (fC (.int 0))) (fVar 1))) fsNil)
theorem e12 (tf tfm : Nat → FF) : evb S D tf tfm 12 = fnF 1 2 (b12 tf tfm) := by kernel_rfl
def b13 (tf tfm : Nat → FF) : FS := (fsSeq (fsIf (fBl (fBin eqC (fBin idxP (fVar 0) (fC (.int 0))) (fC (.str [118, 97, 108, 117, 101])))) (fsSeq (fsRet (fBin idxP (fVar 0) (fC (.int 1)))) fsNil) fsNil) (fsSeq (fsIf (fBl (fBin eqC (fBin idxP (fVar 0) (fC (.int 0))) (fC (.str [110, 111, 116])))) (fsSeq (fsRet (fBin subP (fC (.int 1)) (fBin idxP (fVar 2) (fC (.int 0))))) fsNil) fsNil) (fsSeq (fsIf (fBl (fBin eqC (fBin idxP (fVar 0) (fC (.int 0))) (fC (.str [99, 104, 111, 111, 115, 101])))) (fsSeq (fsRet (fIte (fBl (fBin eqC (fBin idxP (fVar 2) (fC (.int 0))) (fC (.int 1)))) (fBin idxP (fVar 2) (fC (.int 1))) (fBin idxP (fVar 2) (fC (.int 2))))) fsNil) fsNil) (fsSeq (fsIf (fBl (fBin neC (fBin idxP (fVar 0) (fC (.int 0))) (fC (.str [109, 97, 116, 104])))) (fsSeq (fsRet (fBin idxP (fVar 2) (fC (.int 0)))) fsNil) fsNil) (fsSeq (fsRet (fCall (tf 14) (faCons (fBin idxP (fVar 0) (fC (.int 1))) (faCons (fCall (tf 3) (faCons (fVar 1) faNil)) (faCons (fBin idxP (fVar 2) (fC (.int 0))) (faCons (fBin idxP (fVar 2) (fC (.int 1))) faNil)))))) fsNil)))))
theorem e13 (tf tfm : Nat → FF) : evb S D tf tfm 13 = fnF 3 3 (b13 tf tfm) := by kernel_rfl
def b14 (tf tfm : Nat → FF) : FS := (fsSeq (fsIf (fBl (fBin eqC (fVar 0) (fC (.str [112, 108, 117, 115])))) (fsSeq (fsRet (fBin modP (fBin addP (fVar 2) (fVar 3)) (fVar 1))) fsNil) fsNil) (fsSeq (fsIf (fBl (fBin eqC (fVar 0) (fC (.str [109, 105, 110, 117, 115])))) (fsSeq (fsRet (fBin modP (fBin subP (fVar 2) (fVar 3)) (fVar 1))) fsNil) fsNil) (fsSeq (fsIf (fBl (fBin eqC (fVar 0) (fC (.str [116, 105, 109, 101, 115])))) (fsSeq (fsRet (fBin modP (fBin mulP (fVar 2) (fVar 3)) (fVar 1))) fsNil) fsNil) (fsSeq (fsRet (fIte (fBl (fBin eqC (fVar 0) (fC (.str [108, 101, 115, 115])))) (fcB intB (faCons (fBin ltC (fVar 2) (fVar 3)) faNil)) (fcB intB (faCons (fBin eqC (fVar 2) (fVar 3)) faNil)))) fsNil))))
theorem e14 (tf tfm : Nat → FF) : evb S D tf tfm 14 = fnF 4 4 (b14 tf tfm) := by kernel_rfl
def b15 (tf tfm : Nat → FF) : FS := (fsSeq (fsRet (fcB allB (faCons (fComp false [2, 3] (fiVal (fVar 0)) (gtTup 2 (gsCons (gtName 2) (gsCons (gtName 3) gsNil))) ftYes (fBin eqC (fBin idxP (fVar 1) (fVar 2)) (fVar 3))) faNil))) fsNil)
theorem e15 (tf tfm : Nat → FF) : evb S D tf tfm 15 = fnF 2 4 (b15 tf tfm) := by kernel_rfl
def b16 (tf tfm : Nat → FF) : FS := (fsSeq (fsAsg (fBin idxP (fVar 0) (fVar 1)) (gtName 2)) (fsSeq (fsAsg (fcB tupB (faCons (fComp false [5] (fiVal (fBin idxP (fVar 2) (fC (.int 4)))) (gtName 5) (fBl (fBin eqC (fBin idxP (fVar 5) (fC (.int 0))) (fC (.str [109, 101, 109, 111, 114, 121])))) (fBin idxP (fVar 5) (fC (.int 2)))) faNil)) (gtName 3)) (fsSeq (fsAsg (fcB tupB (faCons (fComp false [5] (fiVal (fBin idxP (fVar 2) (fC (.int 4)))) (gtName 5) (fBl (fBin eqC (fBin idxP (fVar 5) (fC (.int 0))) (fC (.str [110, 111, 100, 101])))) (fCall (tf 16) (faCons (fVar 0) (faCons (fBin idxP (fVar 5) (fC (.int 2))) faNil)))) faNil)) (gtName 4)) (fsSeq (fsRet (fTup (faCons (fVar 3) (faCons (fVar 4) faNil)))) fsNil))))
theorem e16 (tf tfm : Nat → FF) : evb S D tf tfm 16 = fnF 2 6 (b16 tf tfm) := by kernel_rfl
def b17 (tf tfm : Nat → FF) : FS := (fsSeq (fsRet (fCall (tf 16) (faCons (fCall (tf 12) (faCons (fVar 0) faNil)) (faCons (fBin idxP (fVar 0) (fC (.int 1))) faNil)))) fsNil)
theorem e17 (tf tfm : Nat → FF) : evb S D tf tfm 17 = fnF 1 1 (b17 tf tfm) := by kernel_rfl
def b18 (tf tfm : Nat → FF) : FS := (fsSeq (fsIf (fBl (fBin eqC (fBin idxP (fVar 3) (fC (.int 0))) (fC (.str [109, 101, 114, 103, 101])))) (fsSeq (fsRet (fIte (fBl (fBin eqC (fBin idxP (fVar 1) (fBin idxP (fVar 3) (fC (.int 1)))) (fC (.int 1)))) (fBin idxP (fVar 1) (fBin idxP (fVar 3) (fC (.int 2)))) (fBin idxP (fVar 1) (fBin idxP (fVar 3) (fC (.int 3)))))) fsNil) fsNil) (fsSeq (fsRet (fCall (tf 13) (faCons (fVar 3) (faCons (fBin idxP (fBin idxP (fVar 0) (fVar 2)) (fC (.int 0))) (faCons (fComp false [4] (fiVal (fCall (tf 19) (faCons (fVar 3) faNil))) (gtName 4) ftYes (fBin idxP (fVar 1) (fVar 4))) faNil))))) fsNil))
theorem e18 (tf tfm : Nat → FF) : evb S D tf tfm 18 = fnF 4 5 (b18 tf tfm) := by kernel_rfl
def b19 (tf tfm : Nat → FF) : FS := (fsSeq (fsIf (fBl (fBin eqC (fBin idxP (fVar 0) (fC (.int 0))) (fC (.str [118, 97, 108, 117, 101])))) (fsSeq (fsRet (fLst false faNil)) fsNil) fsNil) (fsSeq (fsRet (fIte (fBl (fBin eqC (fBin idxP (fVar 0) (fC (.int 0))) (fC (.str [109, 97, 116, 104])))) (fcB (lstB false) (faCons (fSlc (fVar 0) (foSome (fC (.int 2))) foNone) faNil)) (fcB (lstB false) (faCons (fSlc (fVar 0) (foSome (fC (.int 1))) foNone) faNil)))) fsNil))
theorem e19 (tf tfm : Nat → FF) : evb S D tf tfm 19 = fnF 1 1 (b19 tf tfm) := by kernel_rfl
def b20 (tf tfm : Nat → FF) : FS := (fsSeq (fsAsg (fBin idxP (fVar 0) (fVar 1)) (gtName 4)) (fsSeq (fsAsg (fCall (tf 4) (faCons (fVar 4) faNil)) (gtName 5)) (fsSeq (fsAsg (fDictZip true (fComp false [14, 15] (fiVal (fBin idxP (fVar 4) (fC (.int 1)))) (gtTup 2 (gsCons (gtName 14) (gsCons (gtName 15) gsNil))) ftYes (fVar 14)) (fVar 3)) (gtName 6)) (fsSeq (fsAsg (fComp false [10] (fiVal (fBin idxP (fVar 4) (fC (.int 4)))) (gtName 10) (fBl (fBin eqC (fBin idxP (fVar 10) (fC (.int 0))) (fC (.str [109, 101, 109, 111, 114, 121])))) (fVar 10)) (gtName 7)) (fsSeq (fsDrop (fBM isDic updM (fVar 6) (faCons (fDComp false [10, 12] (fiZip (fVar 7) (fBin idxP (fVar 2) (fC (.int 0)))) (gtTup 2 (gsCons (gtName 10) (gsCons (gtName 12) gsNil))) ftYes (fBin idxP (fVar 10) (fC (.int 1))) (fVar 12)) faNil))) (fsSeq (fsAsg (fcB (lstB true) (faCons (fBin idxP (fVar 2) (fC (.int 1))) faNil)) (gtName 8)) (fsSeq (fsAsg (fC (.int 0)) (gtName 9)) (fsSeq (fsFor (fiVal (fBin idxP (fVar 4) (fC (.int 4)))) (gtName 10) (fsSeq (fsIf (fBl (fBin eqC (fBin idxP (fVar 10) (fC (.int 0))) (fC (.str [110, 111, 100, 101])))) (fsSeq (fsAsg (fCall (tf 21) (faCons (fVar 0) (faCons (fVar 5) (faCons (fVar 6) (faCons (fVar 10) (faCons (fBin idxP (fVar 8) (fVar 9)) faNil)))))) (gtSub (fVar 8) (fVar 9))) (fsSeq (fsAug 9 .Add (fC (.int 1))) fsNil)) (fsSeq (fsIf (fBl (fBin eqC (fBin idxP (fVar 10) (fC (.int 0))) (fC (.str [105, 115])))) (fsSeq (fsAsg (fCall (tf 15) (faCons (fBin idxP (fBin idxP (fVar 5) (fBin idxP (fVar 10) (fC (.int 1)))) (fC (.int 1))) (faCons (fVar 6) faNil))) (gtName 13)) (fsSeq (fsAsg (fIte (fTru (fVar 13)) (fCall (tf 18) (faCons (fVar 5) (faCons (fVar 6) (faCons (fBin idxP (fVar 10) (fC (.int 1))) (faCons (fBin idxP (fVar 10) (fC (.int 2))) faNil))))) (fC .non)) (gtSub (fVar 6) (fBin idxP (fVar 10) (fC (.int 1))))) fsNil)) fsNil) fsNil)) fsNil)) (fsSeq (fsAsg (fLst true faNil) (gtName 11)) (fsSeq (fsFor (fiZip (fVar 7) (fBin idxP (fVar 2) (fC (.int 0)))) (gtTup 2 (gsCons (gtName 10) (gsCons (gtName 12) gsNil))) (fsSeq (fsAsg (fCall (tf 15) (faCons (fBin idxP (fBin idxP (fVar 5) (fBin idxP (fVar 10) (fC (.int 1)))) (fC (.int 1))) (faCons (fVar 6) faNil))) (gtName 13)) (fsSeq (fsDrop (fBM isLst appM (fVar 11) (faCons (fIte (fTru (fVar 13)) (fBin idxP (fVar 6) (fBin idxP (fVar 10) (fC (.int 3)))) (fVar 12)) faNil))) fsNil))) (fsSeq (fsRet (fTup (faCons (fcB tupB (faCons (fComp false [14, 15] (fiVal (fBin idxP (fVar 4) (fC (.int 2)))) (gtTup 2 (gsCons (gtName 14) (gsCons (gtName 15) gsNil))) ftYes (fBin idxP (fVar 6) (fVar 14))) faNil)) (faCons (fTup (faCons (fcB tupB (faCons (fVar 11) faNil)) (faCons (fcB tupB (faCons (fVar 8) faNil)) faNil))) faNil)))) fsNil)))))))))))
theorem e20 (tf tfm : Nat → FF) : evb S D tf tfm 20 = fnF 4 16 (b20 tf tfm) := by kernel_rfl
def b21 (tf tfm : Nat → FF) : FS := (fsSeq (fsAsg (fVar 3) (gtTup 5 (gsCons (gtName 5) (gsCons (gtName 6) (gsCons (gtName 7) (gsCons (gtName 8) (gsCons (gtName 9) gsNil))))))) (fsSeq (fsIf (tfNot (fTru (fCall (tf 15) (faCons (fCall (tf 8) (faCons (fVar 1) (faCons (fVar 3) faNil))) (faCons (fVar 2) faNil))))) (fsSeq (fsDrop (fBM isDic updM (fVar 2) (faCons (fDComp false [11] (fiVal (fVar 6)) (gtName 11) ftYes (fVar 11) (fC .non)) faNil))) (fsSeq (fsRet (fVar 4)) fsNil)) fsNil) (fsSeq (fsIf (tfAnd (fBl (fBin neC (fVar 9) (fC (.str [])))) (fBl (fBin eqC (fBin idxP (fVar 2) (fVar 9)) (fC (.int 1))))) (fsSeq (fsAsg (fCall (tf 16) (faCons (fVar 0) (faCons (fVar 7) faNil))) (gtName 4)) fsNil) fsNil) (fsSeq (fsAsg (fCall (tf 20) (faCons (fVar 0) (faCons (fVar 7) (faCons (fVar 4) (faCons (fcB tupB (faCons (fComp false [12] (fiVal (fVar 8)) (gtName 12) ftYes (fBin idxP (fVar 2) (fVar 12))) faNil)) faNil))))) (gtTup 2 (gsCons (gtName 10) (gsCons (gtName 4) gsNil)))) (fsSeq (fsDrop (fBM isDic updM (fVar 2) (faCons (fDictZip false (fVar 6) (fVar 10)) faNil))) (fsSeq (fsRet (fVar 4)) fsNil))))))
theorem e21 (tf tfm : Nat → FF) : evb S D tf tfm 21 = fnF 5 13 (b21 tf tfm) := by kernel_rfl
def b22 (tf tfm : Nat → FF) : FS := (fsSeq (fsRet (fCall (tf 20) (faCons (fCall (tf 12) (faCons (fVar 0) faNil)) (faCons (fBin idxP (fVar 0) (fC (.int 1))) (faCons (fVar 1) (faCons (fVar 2) faNil)))))) fsNil)
theorem e22 (tf tfm : Nat → FF) : evb S D tf tfm 22 = fnF 3 3 (b22 tf tfm) := by kernel_rfl
def b23 (tf tfm : Nat → FF) : FS := (fsSeq (fsAsg (fBin idxP (fVar 0) (fC (.int 0))) (gtName 1)) (fsSeq (fsFor (fiVal (fBin idxP (fVar 0) (fC (.int 1)))) (gtName 2) (fsSeq (fsAsg (fBin addP (fVar 1) (fCall (tf 23) (faCons (fVar 2) faNil))) (gtName 1)) fsNil)) (fsSeq (fsRet (fVar 1)) fsNil)))
theorem e23 (tf tfm : Nat → FF) : evb S D tf tfm 23 = fnF 1 3 (b23 tf tfm) := by kernel_rfl
def b24 (tf tfm : Nat → FF) : FS := (fsSeq (fsAsg (fcB lenB (faCons (fBin idxP (fVar 0) (fC (.int 0))) faNil)) (gtName 2)) (fsSeq (fsPar [5, 1] (faCons (fSlc (fVar 1) foNone (foSome (fVar 2))) (faCons (fSlc (fVar 1) (foSome (fVar 2)) foNone) faNil))) (fsSeq (fsAsg (fLst true faNil) (gtName 3)) (fsSeq (fsFor (fiVal (fBin idxP (fVar 0) (fC (.int 1)))) (gtName 4) (fsSeq (fsAsg (fCall (tf 24) (faCons (fVar 4) (faCons (fVar 1) faNil))) (gtTup 2 (gsCons (gtName 6) (gsCons (gtName 1) gsNil)))) (fsSeq (fsDrop (fBM isLst appM (fVar 3) (faCons (fVar 6) faNil))) fsNil))) (fsSeq (fsRet (fTup (faCons (fTup (faCons (fVar 5) (faCons (fcB tupB (faCons (fVar 3) faNil)) faNil))) (faCons (fVar 1) faNil)))) fsNil)))))
theorem e24 (tf tfm : Nat → FF) : evb S D tf tfm 24 = fnF 2 7 (b24 tf tfm) := by kernel_rfl
def b25 (tf tfm : Nat → FF) : FS := (fsSeq (fsRet (fBin idxP (fCall (tf 24) (faCons (fCall (tf 17) (faCons (fVar 0) faNil)) (faCons (fVar 1) faNil))) (fC (.int 0)))) fsNil)
theorem e25 (tf tfm : Nat → FF) : evb S D tf tfm 25 = fnF 2 2 (b25 tf tfm) := by kernel_rfl
def b26 (tf tfm : Nat → FF) : FS := (fsSeq (fsAsg (fCall (tf 4) (faCons (fVar 0) faNil)) (gtName 1)) (fsSeq (fsAsg (fDComp true [4] (fiVal (fBin idxP (fVar 0) (fC (.int 4)))) (gtName 4) (fBl (fBin eqC (fBin idxP (fVar 4) (fC (.int 0))) (fC (.str [109, 101, 109, 111, 114, 121])))) (fBin idxP (fVar 4) (fC (.int 1))) (fVar 4)) (gtName 2)) (fsSeq (fsAsg (fLst true faNil) (gtName 3)) (fsSeq (fsFor (fiVal (fBin idxP (fVar 0) (fC (.int 4)))) (gtName 4) (fsSeq (fsIf (fBl (fBin eqC (fBin idxP (fVar 4) (fC (.int 0))) (fC (.str [105, 115])))) (fsSeq (fsAsg (fBin addP (fCall (tf 9) (faCons (fCall (tf 8) (faCons (fVar 1) (faCons (fVar 4) faNil))) faNil)) (fCall (tf 7) (faCons (fVar 4) faNil))) (gtName 5)) (fsSeq (fsDrop (fBM isLst extM (fVar 3) (faCons (fCall (tf 27) (faCons (fVar 1) (faCons (fVar 2) (faCons (fVar 5) faNil)))) faNil))) (fsSeq (fsDrop (fBM isLst appM (fVar 3) (faCons (fTup (faCons (fC (.str [115, 101, 116])) (faCons (fBin idxP (fVar 4) (fC (.int 1))) faNil))) faNil))) fsNil))) fsNil) fsNil)) (fsSeq (fsDrop (fBM isLst extM (fVar 3) (faCons (fCall (tf 27) (faCons (fVar 1) (faCons (fVar 2) (faCons (fcB tupB (faCons (fcB (srtH false) (faCons (fVar 2) faNil)) faNil)) faNil)))) faNil))) (fsSeq (fsRet (fBin addP (fVar 3) (fComp false [4] (fiVal (fBin idxP (fVar 0) (fC (.int 4)))) (gtName 4) (fBl (fBin eqC (fBin idxP (fVar 4) (fC (.int 0))) (fC (.str [109, 101, 109, 111, 114, 121])))) (fTup (faCons (fC (.str [107, 101, 101, 112])) (faCons (fBin idxP (fVar 4) (fC (.int 1))) faNil)))))) fsNil))))))
theorem e26 (tf tfm : Nat → FF) : evb S D tf tfm 26 = fnF 1 6 (b26 tf tfm) := by kernel_rfl
def b27 (tf tfm : Nat → FF) : FS := (fsSeq (fsAsg (fLst true faNil) (gtName 3)) (fsSeq (fsFor (fiVal (fVar 2)) (gtName 4) (fsSeq (fsIf (fBl (fBin inC (fVar 4) (fVar 1))) (fsSeq (fsDrop (fBM isLst popM (fVar 1) (faCons (fVar 4) faNil))) (fsSeq (fsDrop (fBM isLst extM (fVar 3) (faCons (fCall (tf 27) (faCons (fVar 0) (faCons (fVar 1) (faCons (fCall (tf 9) (faCons (fBin idxP (fBin idxP (fVar 0) (fVar 4)) (fC (.int 1))) faNil)) faNil)))) faNil))) (fsSeq (fsDrop (fBM isLst appM (fVar 3) (faCons (fTup (faCons (fC (.str [114, 101, 99, 97, 108, 108])) (faCons (fVar 4) faNil))) faNil))) fsNil))) fsNil) fsNil)) (fsSeq (fsRet (fVar 3)) fsNil)))
theorem e27 (tf tfm : Nat → FF) : evb S D tf tfm 27 = fnF 3 5 (b27 tf tfm) := by kernel_rfl
def b28 (tf tfm : Nat → FF) : FS := (fsSeq (fsIf (tfOr (tfNot (fTru (fIsi .tuple (fVar 1)))) (tfNot (fTru (fcB allB (faCons (fComp false [5] (fiVal (fVar 1)) (gtName 5) ftYes (fCall (tf 2) (faCons (fVar 5) (faCons (fC (.int 2)) faNil)))) faNil))))) (fsSeq (fsRet (fC (.bl false))) fsNil) fsNil) (fsSeq (fsIf (tfNot (fTru (fcB allB (faCons (fComp false [2, 6] (fiVal (fVar 1)) (gtTup 2 (gsCons (gtName 2) (gsCons (gtName 6) gsNil))) ftYes (fAnd (fIsi .str (fVar 2)) (fCall (tf 1) (faCons (fVar 6) (faCons (fC (.int 0)) (faCons (fBin subP (fC (.int 4)) (fC (.int 1))) faNil)))))) faNil)))) (fsSeq (fsRet (fC (.bl false))) fsNil) fsNil) (fsSeq (fsRet (fBin eqC (fComp false [2, 3] (fiVal (fVar 1)) (gtTup 2 (gsCons (gtName 2) (gsCons (gtName 3) gsNil))) ftYes (fVar 2)) (fcB (srtG false) (faCons (fComp false [4] (fiVal (fBin idxP (fVar 0) (fC (.int 4)))) (gtName 4) ftYes (fBin idxP (fVar 4) (fC (.int 1)))) faNil)))) fsNil)))
theorem e28 (tf tfm : Nat → FF) : evb S D tf tfm 28 = fnF 2 7 (b28 tf tfm) := by kernel_rfl
def b29 (tf tfm : Nat → FF) : FS := (fsSeq (fsFld (S.fldOk "lines") [108, 105, 110, 101, 115] (fVar 1) (fVar 0)) (fsSeq (fsFld (S.fldOk "at") [97, 116] (fC (.int 0)) (fVar 0)) (fsSeq (fsFld (S.fldOk "instant") [105, 110, 115, 116, 97, 110, 116] (fC (.int 0)) (fVar 0)) (fsSeq (fsFld (S.fldOk "now") [110, 111, 119] (fDNew true) (fVar 0)) (fsSeq (fsFld (S.fldOk "held") [104, 101, 108, 100] (fDNew true) (fVar 0)) fsNil)))))
theorem e29 (tf tfm : Nat → FF) : evb S D tf tfm 29 = fnF 2 2 (b29 tf tfm) := by kernel_rfl
def b30 (tf tfm : Nat → FF) : FS := (fsSeq (fsFld (S.fldOk "node") [110, 111, 100, 101] (fVar 1) (fVar 0)) (fsSeq (fsFld (S.fldOk "table") [116, 97, 98, 108, 101] (fCall (tf 4) (faCons (fVar 1) faNil)) (fVar 0)) (fsSeq (fsFld (S.fldOk "by_name") [98, 121, 95, 110, 97, 109, 101] (fDComp true [7] (fiVal (fBin idxP (fVar 1) (fC (.int 4)))) (gtName 7) ftYes (fBin idxP (fVar 7) (fC (.int 1))) (fVar 7)) (fVar 0)) (fsSeq (fsFld (S.fldOk "home") [104, 111, 109, 101] (fcB (dctB false) (faCons (fVar 2) faNil)) (fVar 0)) (fsSeq (fsFld (S.fldOk "rows") [114, 111, 119, 115] (fVar 3) (fVar 0)) (fsSeq (fsFld (S.fldOk "room") [114, 111, 111, 109] (fVar 4) (fVar 0)) (fsSeq (fsFld (S.fldOk "letters") [108, 101, 116, 116, 101, 114, 115] (fDNew true) (fVar 0)) (fsSeq (fsFld (S.fldOk "most") [109, 111, 115, 116] (fC (.int 0)) (fVar 0)) (fsSeq (fsFld (S.fldOk "outputs") [111, 117, 116, 112, 117, 116, 115] (fComp false [9] (fiVal (fVar 3)) (gtName 9) ftYes (fDNew true)) (fVar 0)) (fsSeq (fsFld (S.fldOk "places") [112, 108, 97, 99, 101, 115] (fComp false [9] (fiRng1 (fC (.int 4))) (gtName 9) ftYes (fMake 0 (tfm 29) (faCons (fLst true faNil) faNil))) (fVar 0)) (fsSeq (fsFor (fiVal (fCall (tf 26) (faCons (fVar 1) faNil))) (gtName 5) (fsSeq (fsDrop (fBM isLst appM (fFld [108, 105, 110, 101, 115] (fBin idxP (fFld [112, 108, 97, 99, 101, 115] (fVar 0)) (fBin idxP (fFld [104, 111, 109, 101] (fVar 0)) (fBin idxP (fVar 5) (fC (.int 1)))))) (faCons (fVar 5) faNil))) fsNil)) (fsSeq (fsLockP 0 (some [98, 121, 95, 110, 97, 109, 101]) (fsFor (fiItems (fFld [98, 121, 95, 110, 97, 109, 101] (fVar 0))) (gtTup 2 (gsCons (gtName 6) (gsCons (gtName 7) gsNil))) (fsSeq (fsIf (fBl (fBin eqC (fBin idxP (fVar 7) (fC (.int 0))) (fC (.str [109, 101, 109, 111, 114, 121])))) (fsSeq (fsAsg (fBin idxP (fVar 7) (fC (.int 2))) (gtSub (fFld [104, 101, 108, 100] (fBin idxP (fFld [112, 108, 97, 99, 101, 115] (fVar 0)) (fBin idxP (fFld [104, 111, 109, 101] (fVar 0)) (fVar 6)))) (fVar 6))) fsNil) fsNil) fsNil))) (fsSeq (fsFld (S.fldOk "wanted") [119, 97, 110, 116, 101, 100] (fMeth (mt tf "readers") [114, 101, 97, 100, 101, 114, 115] (fVar 0) faNil) (fVar 0)) (fsSeq (fsFor (fiVal (fcB (srtH false) (faCons (fFld [119, 97, 110, 116, 101, 100] (fVar 0)) faNil))) (gtName 6) (fsSeq (fsFor (fiVal (fBin idxP (fFld [119, 97, 110, 116, 101, 100] (fVar 0)) (fVar 6))) (gtName 8) (fsSeq (fsDrop (fBM isLst appM (fFld [108, 105, 110, 101, 115] (fBin idxP (fFld [112, 108, 97, 99, 101, 115] (fVar 0)) (fVar 8))) (faCons (fTup (faCons (fC (.str [100, 114, 111, 112])) (faCons (fVar 6) faNil))) faNil))) fsNil)) fsNil)) fsNil))))))))))))))
theorem e30 (tf tfm : Nat → FF) : evb S D tf tfm 30 = fnF 5 10 (b30 tf tfm) := by kernel_rfl
def b31 (tf tfm : Nat → FF) : FS := (fsSeq (fsLockP 0 (some [98, 121, 95, 110, 97, 109, 101]) (fsAsg (fDComp true [5] (fiKeys (fFld [98, 121, 95, 110, 97, 109, 101] (fVar 0))) (gtName 5) ftYes (fVar 5) (fDNew true)) (gtName 1))) (fsSeq (fsFor (fiEnum (fFld [112, 108, 97, 99, 101, 115] (fVar 0))) (gtTup 2 (gsCons (gtName 2) (gsCons (gtName 3) gsNil))) (fsSeq (fsForV (fFld [108, 105, 110, 101, 115] (fVar 3)) (gtName 4) (fsSeq (fsFor (fiVal (fMeth (mt tf "reads") [114, 101, 97, 100, 115] (fVar 0) (faCons (fVar 4) faNil))) (gtName 5) (fsSeq (fsIf (tfAnd (fBl (fBin inC (fVar 5) (fVar 1))) (fBl (fBin neC (fBin idxP (fFld [104, 111, 109, 101] (fVar 0)) (fVar 5)) (fVar 2)))) (fsSeq (fsAsg (fC (.bl true)) (gtSub (fBin idxP (fVar 1) (fVar 5)) (fVar 2))) fsNil) fsNil) fsNil)) fsNil)) fsNil)) (fsSeq (fsLockP 1 none (fsRet (fDComp true [5, 6] (fiItems (fVar 1)) (gtTup 2 (gsCons (gtName 5) (gsCons (gtName 6) gsNil))) ftYes (fVar 5) (fcB (srtH false) (faCons (fVar 6) faNil))))) fsNil)))
theorem e31 (tf tfm : Nat → FF) : evb S D tf tfm 31 = fnF 1 7 (b31 tf tfm) := by kernel_rfl
def b32 (tf tfm : Nat → FF) : FS := (fsSeq (fsAsg (fBin idxP (fFld [98, 121, 95, 110, 97, 109, 101] (fVar 0)) (fBin idxP (fVar 1) (fC (.int 1)))) (gtName 2)) (fsSeq (fsAsg (fCall (tf 9) (faCons (fBin idxP (fBin idxP (fFld [116, 97, 98, 108, 101] (fVar 0)) (fBin idxP (fVar 1) (fC (.int 1)))) (fC (.int 1))) faNil)) (gtName 3)) (fsSeq (fsIf (fBl (fBin eqC (fBin idxP (fVar 1) (fC (.int 0))) (fC (.str [115, 101, 116])))) (fsSeq (fsRet (fBin addP (fVar 3) (fCall (tf 7) (faCons (fVar 2) faNil)))) fsNil) fsNil) (fsSeq (fsRet (fBin addP (fVar 3) (fIte (fBl (fBin eqC (fBin idxP (fVar 1) (fC (.int 0))) (fC (.str [107, 101, 101, 112])))) (fTup (faCons (fBin idxP (fVar 2) (fC (.int 3))) faNil)) (fTup faNil)))) fsNil))))
theorem e32 (tf tfm : Nat → FF) : evb S D tf tfm 32 = fnF 2 4 (b32 tf tfm) := by kernel_rfl
def b33 (tf tfm : Nat → FF) : FS := (fsSeq (fsRet (fOr (fBin eqC (fFld [105, 110, 115, 116, 97, 110, 116] (fBin idxP (fFld [112, 108, 97, 99, 101, 115] (fVar 0)) (fVar 1))) (fcB lenB (faCons (fFld [114, 111, 119, 115] (fVar 0)) faNil))) (fBin eqC (fcB lenB (faCons (fFld [108, 105, 110, 101, 115] (fBin idxP (fFld [112, 108, 97, 99, 101, 115] (fVar 0)) (fVar 1))) faNil)) (fC (.int 0))))) fsNil)
theorem e33 (tf tfm : Nat → FF) : evb S D tf tfm 33 = fnF 2 2 (b33 tf tfm) := by kernel_rfl
def b34 (tf tfm : Nat → FF) : FS := (fsSeq (fsAsg (fBin idxP (fFld [112, 108, 97, 99, 101, 115] (fVar 0)) (fVar 1)) (gtName 3)) (fsSeq (fsIf (fBl (fBin inC (fVar 2) (fFld [110, 111, 119] (fVar 3)))) (fsSeq (fsRet (fTup (faCons (fC (.bl true)) (faCons (fBin idxP (fFld [110, 111, 119] (fVar 3)) (fVar 2)) faNil)))) fsNil) fsNil) (fsSeq (fsIf (fBl (fBin ninC (fVar 2) (fFld [98, 121, 95, 110, 97, 109, 101] (fVar 0)))) (fsSeq (fsAsg (fBM isLst idxM (fComp false [6, 7] (fiVal (fBin idxP (fFld [110, 111, 100, 101] (fVar 0)) (fC (.int 1)))) (gtTup 2 (gsCons (gtName 6) (gsCons (gtName 7) gsNil))) ftYes (fVar 6)) (faCons (fVar 2) faNil)) (gtName 5)) (fsSeq (fsRet (fTup (faCons (fC (.bl true)) (faCons (fBin idxP (fBin idxP (fFld [114, 111, 119, 115] (fVar 0)) (fFld [105, 110, 115, 116, 97, 110, 116] (fVar 3))) (fVar 5)) faNil)))) fsNil)) fsNil) (fsSeq (fsIf (fBl (fBin eqC (fBin idxP (fFld [104, 111, 109, 101] (fVar 0)) (fVar 2)) (fVar 1))) (fsSeq (fsRet (fTup (faCons (fC (.bl false)) (faCons (fC .non) faNil)))) fsNil) fsNil) (fsSeq (fsAsg (fMeth (mt tf "setdefault") [115, 101, 116, 100, 101, 102, 97, 117, 108, 116] (fFld [108, 101, 116, 116, 101, 114, 115] (fVar 0)) (faCons (fTup (faCons (fVar 2) (faCons (fVar 1) faNil))) (faCons (fLst false faNil) faNil))) (gtName 4)) (fsSeq (fsIf (fBl (fBin eqC (fcB lenB (faCons (fVar 4) faNil)) (fC (.int 0)))) (fsSeq (fsRet (fTup (faCons (fC (.bl false)) (faCons (fC .non) faNil)))) fsNil) fsNil) (fsSeq (fsAsg (fBM isLst popM (fVar 4) (faCons (fC (.int 0)) faNil)) (gtSub (fFld [110, 111, 119] (fVar 3)) (fVar 2))) (fsSeq (fsRet (fTup (faCons (fC (.bl true)) (faCons (fBin idxP (fFld [110, 111, 119] (fVar 3)) (fVar 2)) faNil)))) fsNil))))))))
theorem e34 (tf tfm : Nat → FF) : evb S D tf tfm 34 = fnF 3 8 (b34 tf tfm) := by kernel_rfl
def b35 (tf tfm : Nat → FF) : FS := (fsSeq (fsFor (fiVal (fVar 2)) (gtTup 2 (gsCons (gtName 3) (gsCons (gtName 4) gsNil))) (fsSeq (fsAsg (fMeth (mt tf "value") [118, 97, 108, 117, 101] (fVar 0) (faCons (fVar 1) (faCons (fVar 3) faNil))) (gtTup 2 (gsCons (gtName 5) (gsCons (gtName 6) gsNil)))) (fsSeq (fsIf (tfNot (fTru (fVar 5))) (fsSeq (fsRet (fC .non)) fsNil) fsNil) (fsSeq (fsIf (fBl (fBin neC (fVar 6) (fVar 4))) (fsSeq (fsRet (fC (.bl false))) fsNil) fsNil) fsNil)))) (fsSeq (fsRet (fC (.bl true))) fsNil))
theorem e35 (tf tfm : Nat → FF) : evb S D tf tfm 35 = fnF 3 7 (b35 tf tfm) := by kernel_rfl
def b36 (tf tfm : Nat → FF) : FS := (fsSeq (fsRet (fcB allB (faCons (fComp false [2] (fiVal (fBin idxP (fFld [119, 97, 110, 116, 101, 100] (fVar 0)) (fVar 1))) (gtName 2) ftYes (fBin ltC (fcB lenB (faCons (fMeth (mt tf "setdefault") [115, 101, 116, 100, 101, 102, 97, 117, 108, 116] (fFld [108, 101, 116, 116, 101, 114, 115] (fVar 0)) (faCons (fTup (faCons (fVar 1) (faCons (fVar 2) faNil))) (faCons (fLst false faNil) faNil))) faNil)) (fFld [114, 111, 111, 109] (fVar 0)))) faNil))) fsNil)
theorem e36 (tf tfm : Nat → FF) : evb S D tf tfm 36 = fnF 2 3 (b36 tf tfm) := by kernel_rfl
def b37 (tf tfm : Nat → FF) : FS := (fsSeq (fsFor (fiVal (fBin idxP (fFld [119, 97, 110, 116, 101, 100] (fVar 0)) (fVar 1))) (gtName 3) (fsSeq (fsAsg (fMeth (mt tf "setdefault") [115, 101, 116, 100, 101, 102, 97, 117, 108, 116] (fFld [108, 101, 116, 116, 101, 114, 115] (fVar 0)) (faCons (fTup (faCons (fVar 1) (faCons (fVar 3) faNil))) (faCons (fLst false faNil) faNil))) (gtName 4)) (fsSeq (fsDrop (fBM isLst appM (fVar 4) (faCons (fVar 2) faNil))) (fsSeq (fsFld (S.fldOk "most") [109, 111, 115, 116] (fcB maxB (faCons (fFld [109, 111, 115, 116] (fVar 0)) (faCons (fcB lenB (faCons (fVar 4) faNil)) faNil))) (fVar 0)) fsNil)))) fsNil)
theorem e37 (tf tfm : Nat → FF) : evb S D tf tfm 37 = fnF 3 5 (b37 tf tfm) := by kernel_rfl
def b38 (tf tfm : Nat → FF) : FS := (fsSeq (fsAsg (fBin idxP (fFld [112, 108, 97, 99, 101, 115] (fVar 0)) (fVar 1)) (gtName 2)) (fsSeq (fsIf (fTru (fMeth (mt tf "is_over") [105, 115, 95, 111, 118, 101, 114] (fVar 0) (faCons (fVar 1) faNil))) (fsSeq (fsRet (fC (.bl false))) fsNil) fsNil) (fsSeq (fsAsg (fBin idxP (fFld [108, 105, 110, 101, 115] (fVar 2)) (fFld [97, 116] (fVar 2))) (gtName 3)) (fsSeq (fsAsg (fMeth (mt tf "clock_state") [99, 108, 111, 99, 107, 95, 115, 116, 97, 116, 101] (fVar 0) (faCons (fVar 1) (faCons (fBin idxP (fBin idxP (fFld [116, 97, 98, 108, 101] (fVar 0)) (fBin idxP (fVar 3) (fC (.int 1)))) (fC (.int 1))) faNil))) (gtName 4)) (fsSeq (fsIf (tfOr (fBl (fBin isC (fVar 4) (fC .non))) (tfAnd (fTru (fVar 4)) (tfNot (fTru (fMeth (mt tf "carried_out") [99, 97, 114, 114, 105, 101, 100, 95, 111, 117, 116] (fVar 0) (faCons (fVar 1) (faCons (fVar 2) (faCons (fVar 3) faNil)))))))) (fsSeq (fsRet (fC (.bl false))) fsNil) fsNil) (fsSeq (fsFldAug (S.fldOk "at") [97, 116] .Add (fC (.int 1)) (fVar 2)) (fsSeq (fsIf (fBl (fBin eqC (fFld [97, 116] (fVar 2)) (fcB lenB (faCons (fFld [108, 105, 110, 101, 115] (fVar 2)) faNil)))) (fsSeq (fsFld (S.fldOk "at") [97, 116] (fC (.int 0)) (fVar 2)) (fsSeq (fsFldAug (S.fldOk "instant") [105, 110, 115, 116, 97, 110, 116] .Add (fC (.int 1)) (fVar 2)) (fsSeq (fsFld (S.fldOk "now") [110, 111, 119] (fDNew true) (fVar 2)) fsNil))) fsNil) (fsSeq (fsRet (fC (.bl true))) fsNil))))))))
theorem e38 (tf tfm : Nat → FF) : evb S D tf tfm 38 = fnF 2 5 (b38 tf tfm) := by kernel_rfl
def b39 (tf tfm : Nat → FF) : FS := (fsSeq (fsAsg (fBin idxP (fVar 3) (fC (.int 1))) (gtName 4)) (fsSeq (fsAsg (fBin idxP (fFld [98, 121, 95, 110, 97, 109, 101] (fVar 0)) (fVar 4)) (gtName 5)) (fsSeq (fsIf (fBl (fBin eqC (fBin idxP (fVar 3) (fC (.int 0))) (fC (.str [100, 114, 111, 112])))) (fsSeq (fsRet (fBin idxP (fMeth (mt tf "value") [118, 97, 108, 117, 101] (fVar 0) (faCons (fVar 1) (faCons (fVar 4) faNil))) (fC (.int 0)))) fsNil) fsNil) (fsSeq (fsIf (fBl (fBin eqC (fBin idxP (fVar 3) (fC (.int 0))) (fC (.str [107, 101, 101, 112])))) (fsSeq (fsAsg (fMeth (mt tf "value") [118, 97, 108, 117, 101] (fVar 0) (faCons (fVar 1) (faCons (fBin idxP (fVar 5) (fC (.int 3))) faNil))) (gtTup 2 (gsCons (gtName 8) (gsCons (gtName 6) gsNil)))) (fsSeq (fsIf (fTru (fVar 8)) (fsSeq (fsAsg (fVar 6) (gtSub (fFld [104, 101, 108, 100] (fVar 2)) (fVar 4))) fsNil) fsNil) (fsSeq (fsRet (fVar 8)) fsNil))) fsNil) (fsSeq (fsIf (tfAnd (fBl (fBin eqC (fBin idxP (fVar 3) (fC (.int 0))) (fC (.str [115, 101, 116])))) (tfNot (fTru (fcB allB (faCons (fComp false [9] (fiVal (fMeth (mt tf "needs") [110, 101, 101, 100, 115] (fVar 0) (faCons (fVar 1) (faCons (fVar 5) faNil)))) (gtName 9) ftYes (fBin idxP (fMeth (mt tf "value") [118, 97, 108, 117, 101] (fVar 0) (faCons (fVar 1) (faCons (fVar 9) faNil))) (fC (.int 0)))) faNil))))) (fsSeq (fsRet (fC (.bl false))) fsNil) fsNil) (fsSeq (fsIf (tfNot (fTru (fMeth (mt tf "can_send") [99, 97, 110, 95, 115, 101, 110, 100] (fVar 0) (faCons (fVar 4) faNil)))) (fsSeq (fsRet (fC (.bl false))) fsNil) fsNil) (fsSeq (fsIf (fBl (fBin eqC (fBin idxP (fVar 3) (fC (.int 0))) (fC (.str [114, 101, 99, 97, 108, 108])))) (fsSeq (fsAsg (fBin idxP (fFld [104, 101, 108, 100] (fVar 2)) (fVar 4)) (gtName 6)) fsNil) (fsSeq (fsAsg (fDComp false [9] (fiVal (fMeth (mt tf "needs") [110, 101, 101, 100, 115] (fVar 0) (faCons (fVar 1) (faCons (fVar 5) faNil)))) (gtName 9) ftYes (fVar 9) (fBin idxP (fMeth (mt tf "value") [118, 97, 108, 117, 101] (fVar 0) (faCons (fVar 1) (faCons (fVar 9) faNil))) (fC (.int 1)))) (gtName 7)) (fsSeq (fsAsg (fCall (tf 18) (faCons (fFld [116, 97, 98, 108, 101] (fVar 0)) (faCons (fVar 7) (faCons (fVar 4) (faCons (fBin idxP (fVar 5) (fC (.int 2))) faNil))))) (gtName 6)) fsNil))) (fsSeq (fsAsg (fVar 6) (gtSub (fFld [110, 111, 119] (fVar 2)) (fVar 4))) (fsSeq (fsDrop (fMeth (mt tf "send") [115, 101, 110, 100] (fVar 0) (faCons (fVar 4) (faCons (fVar 6) faNil)))) (fsSeq (fsIf (fTru (fcB anyB (faCons (fComp false [10, 11] (fiVal (fBin idxP (fFld [110, 111, 100, 101] (fVar 0)) (fC (.int 2)))) (gtTup 2 (gsCons (gtName 10) (gsCons (gtName 11) gsNil))) ftYes (fBin eqC (fVar 10) (fVar 4))) faNil))) (fsSeq (fsAsg (fVar 6) (gtSub (fBin idxP (fFld [111, 117, 116, 112, 117, 116, 115] (fVar 0)) (fFld [105, 110, 115, 116, 97, 110, 116] (fVar 2))) (fVar 4))) fsNil) fsNil) (fsSeq (fsRet (fC (.bl true))) fsNil)))))))))))
theorem e39 (tf tfm : Nat → FF) : evb S D tf tfm 39 = fnF 4 12 (b39 tf tfm) := by kernel_rfl
def b40 (tf tfm : Nat → FF) : FS := (fsSeq (fsAsg (fBin idxP (fVar 2) (fC (.int 2))) (gtName 3)) (fsSeq (fsIf (fBl (fBin neC (fBin idxP (fVar 3) (fC (.int 0))) (fC (.str [109, 101, 114, 103, 101])))) (fsSeq (fsRet (fcB (lstB false) (faCons (fCall (tf 7) (faCons (fVar 2) faNil)) faNil))) fsNil) fsNil) (fsSeq (fsAsg (fMeth (mt tf "value") [118, 97, 108, 117, 101] (fVar 0) (faCons (fVar 1) (faCons (fBin idxP (fVar 3) (fC (.int 1))) faNil))) (gtTup 2 (gsCons (gtName 4) (gsCons (gtName 5) gsNil)))) (fsSeq (fsIf (tfNot (fTru (fVar 4))) (fsSeq (fsRet (fLst false (faCons (fBin idxP (fVar 3) (fC (.int 1))) faNil))) fsNil) fsNil) (fsSeq (fsRet (fLst false (faCons (fBin idxP (fVar 3) (fC (.int 1))) (faCons (fIte (fBl (fBin eqC (fVar 5) (fC (.int 1)))) (fBin idxP (fVar 3) (fC (.int 2))) (fBin idxP (fVar 3) (fC (.int 3)))) faNil)))) fsNil)))))
theorem e40 (tf tfm : Nat → FF) : evb S D tf tfm 40 = fnF 3 6 (b40 tf tfm) := by kernel_rfl
def b41 (tf tfm : Nat → FF) : FS := (fsSeq (fsRet (fcB tupB (faCons (fComp false [1] (fiVal (fFld [111, 117, 116, 112, 117, 116, 115] (fVar 0))) (gtName 1) ftYes (fcB tupB (faCons (fComp false [2, 3] (fiVal (fBin idxP (fFld [110, 111, 100, 101] (fVar 0)) (fC (.int 2)))) (gtTup 2 (gsCons (gtName 2) (gsCons (gtName 3) gsNil))) ftYes (fBin idxP (fVar 1) (fVar 2))) faNil))) faNil))) fsNil)
theorem e41 (tf tfm : Nat → FF) : evb S D tf tfm 41 = fnF 1 4 (b41 tf tfm) := by kernel_rfl
def b42 (tf tfm : Nat → FF) : FS := (fsSeq (fsIf (tfOr (fBl (fBin neC (fcB lenB (faCons (fBin idxP (fVar 0) (fC (.int 0))) faNil)) (fC (.int 1)))) (fTru (fcB anyB (faCons (fComp false [7] (fiVal (fBin idxP (fBin idxP (fBin idxP (fVar 0) (fC (.int 0))) (fC (.int 0))) (fC (.int 4)))) (gtName 7) ftYes (fBin eqC (fBin idxP (fVar 7) (fC (.int 0))) (fC (.str [110, 111, 100, 101])))) faNil)))) (fsSeq (fsRaise 3 (fC (.str cs2))) fsNil) fsNil) (fsSeq (fsIf (tfOr (tfNot (fTru (fCall (tf 28) (faCons (fBin idxP (fBin idxP (fVar 0) (fC (.int 0))) (fC (.int 0))) (faCons (fNrm (fVar 1)) faNil))))) (tfNot (fTru (fCall (tf 1) (faCons (fVar 4) (faCons (fC (.int 1)) (faCons (fC (.int 9)) faNil))))))) (fsSeq (fsRaise 3 (fC (.str cs1))) fsNil) fsNil) (fsSeq (fsAsg (fMake 1 (tfm 30) (faCons (fBin idxP (fBin idxP (fVar 0) (fC (.int 0))) (fC (.int 0))) (faCons (fVar 1) (faCons (fVar 2) (faCons (fVar 4) faNil))))) (gtName 5)) (fsSeq (fsFor (fiVal (fVar 3)) (gtName 6) (fsSeq (fsDrop (fMeth (mt tf "turn") [116, 117, 114, 110] (fVar 5) (faCons (fVar 6) faNil))) fsNil)) (fsSeq (fsWhile (tfNot (fTru (fcB allB (faCons (fComp false [6] (fiRng1 (fC (.int 4))) (gtName 6) ftYes (fMeth (mt tf "is_over") [105, 115, 95, 111, 118, 101, 114] (fVar 5) (faCons (fVar 6) faNil))) faNil)))) (fsSeq (fsIf (tfNot (fTru (fcB anyB (faCons (fComp false [6] (fiRng1 (fC (.int 4))) (gtName 6) ftYes (fMeth (mt tf "turn") [116, 117, 114, 110] (fVar 5) (faCons (fVar 6) faNil))) faNil)))) (fsSeq (fsRaise 5 (fC (.str cs0))) fsNil) fsNil) fsNil)) (fsSeq (fsRet (fTup (faCons (fMeth (mt tf "told") [116, 111, 108, 100] (fVar 5) faNil) (faCons (fFld [109, 111, 115, 116] (fVar 5)) faNil)))) fsNil))))))
theorem e42 (tf tfm : Nat → FF) : evb S D tf tfm 42 = fnF 5 8 (b42 tf tfm) := by kernel_rfl
def b43 (tf tfm : Nat → FF) : FS := (fsSeq (fsAsg (fLst false (faCons (fTup faNil) faNil)) (gtName 1)) (fsSeq (fsFor (fiVal (fBin idxP (fBin idxP (fCall (tf 12) (faCons (fVar 0) faNil)) (fBin idxP (fVar 0) (fC (.int 1)))) (fC (.int 1)))) (gtTup 2 (gsCons (gtName 2) (gsCons (gtName 3) gsNil))) (fsSeq (fsAsg (fComp2 false [4, 5] [5] (fiVal (fVar 1)) (gtName 4) ftYes (fiRng1 (fCall (tf 3) (faCons (fVar 3) faNil))) (gtName 5) ftYes (fBin addP (fVar 4) (fTup (faCons (fVar 5) faNil)))) (gtName 1)) (fsSeq (fsIf (fBl (fBin gtC (fcB lenB (faCons (fVar 1) faNil)) (fC (.int 64)))) (fsSeq (fsRaise 6 (fC (.str cs3))) fsNil) fsNil) fsNil))) (fsSeq (fsRet (fcB tupB (faCons (fVar 1) faNil))) fsNil)))
theorem e43 (tf tfm : Nat → FF) : evb S D tf tfm 43 = fnF 1 6 (b43 tf tfm) := by kernel_rfl
def b44 (tf tfm : Nat → FF) : FS := (fsSeq (fsFld (S.fldOk "program") [112, 114, 111, 103, 114, 97, 109] (fVar 1) (fVar 0)) (fsSeq (fsFld (S.fldOk "instants") [105, 110, 115, 116, 97, 110, 116, 115] (fCall (tf 43) (faCons (fVar 1) faNil)) (fVar 0)) (fsSeq (fsAsg (fCall (tf 23) (faCons (fCall (tf 17) (faCons (fVar 1) faNil)) faNil)) (gtName 2)) (fsSeq (fsFld (S.fldOk "numbers") [110, 117, 109, 98, 101, 114, 115] (fDisp true [((fVar 2), (fC (.int 0)))]) (fVar 0)) (fsSeq (fsFld (S.fldOk "order") [111, 114, 100, 101, 114] (fLst false (faCons (fVar 2) faNil)) (fVar 0)) (fsSeq (fsFld (S.fldOk "rows") [114, 111, 119, 115] (fLst false faNil) (fVar 0)) (fsSeq (fsFld (S.fldOk "ways") [119, 97, 121, 115] (fDisp true [((fC (.int 0)), (fTup faNil))]) (fVar 0)) fsNil)))))))
theorem e44 (tf tfm : Nat → FF) : evb S D tf tfm 44 = fnF 2 3 (b44 tf tfm) := by kernel_rfl
def b45 (tf tfm : Nat → FF) : FS := (fsSeq (fsAsg (fC (.int 0)) (gtName 1)) (fsSeq (fsWhile (fBl (fBin ltC (fVar 1) (fcB lenB (faCons (fFld [111, 114, 100, 101, 114] (fVar 0)) faNil)))) (fsSeq (fsAsg (fCall (tf 25) (faCons (fFld [112, 114, 111, 103, 114, 97, 109] (fVar 0)) (faCons (fBin idxP (fFld [111, 114, 100, 101, 114] (fVar 0)) (fVar 1)) faNil))) (gtName 2)) (fsSeq (fsAsg (fLst true faNil) (gtName 3)) (fsSeq (fsFor (fiVal (fFld [105, 110, 115, 116, 97, 110, 116, 115] (fVar 0))) (gtName 4) (fsSeq (fsAsg (fCall (tf 22) (faCons (fFld [112, 114, 111, 103, 114, 97, 109] (fVar 0)) (faCons (fVar 2) (faCons (fVar 4) faNil)))) (gtTup 2 (gsCons (gtName 5) (gsCons (gtName 6) gsNil)))) (fsSeq (fsDrop (fBM isLst appM (fVar 3) (faCons (fTup (faCons (fVar 5) (faCons (fMeth (mt tf "number") [110, 117, 109, 98, 101, 114] (fVar 0) (faCons (fCall (tf 23) (faCons (fVar 6) faNil)) (faCons (fVar 1) (faCons (fVar 4) faNil)))) faNil))) faNil))) fsNil))) (fsSeq (fsDrop (fBM isLst appM (fFld [114, 111, 119, 115] (fVar 0)) (faCons (fcB tupB (faCons (fVar 3) faNil)) faNil))) (fsSeq (fsAug 1 .Add (fC (.int 1))) fsNil)))))) fsNil))
theorem e45 (tf tfm : Nat → FF) : evb S D tf tfm 45 = fnF 1 7 (b45 tf tfm) := by kernel_rfl
def b46 (tf tfm : Nat → FF) : FS := (fsSeq (fsIf (fBl (fBin ninC (fVar 1) (fFld [110, 117, 109, 98, 101, 114, 115] (fVar 0)))) (fsSeq (fsIf (fBl (fBin eqC (fcB lenB (faCons (fFld [111, 114, 100, 101, 114] (fVar 0)) faNil)) (fC (.int 300)))) (fsSeq (fsRaise 6 (fC (.str cs4))) fsNil) fsNil) (fsSeq (fsAsg (fcB lenB (faCons (fFld [111, 114, 100, 101, 114] (fVar 0)) faNil)) (gtSub (fFld [110, 117, 109, 98, 101, 114, 115] (fVar 0)) (fVar 1))) (fsSeq (fsAsg (fBin addP (fBin idxP (fFld [119, 97, 121, 115] (fVar 0)) (fVar 2)) (fTup (faCons (fVar 3) faNil))) (gtSub (fFld [119, 97, 121, 115] (fVar 0)) (fcB lenB (faCons (fFld [111, 114, 100, 101, 114] (fVar 0)) faNil)))) (fsSeq (fsDrop (fBM isLst appM (fFld [111, 114, 100, 101, 114] (fVar 0)) (faCons (fVar 1) faNil))) fsNil)))) fsNil) (fsSeq (fsRet (fBin idxP (fFld [110, 117, 109, 98, 101, 114, 115] (fVar 0)) (fVar 1))) fsNil))
theorem e46 (tf tfm : Nat → FF) : evb S D tf tfm 46 = fnF 4 4 (b46 tf tfm) := by kernel_rfl
def b47 (tf tfm : Nat → FF) : FS := (fsSeq (fsAsg (fMake 2 (tfm 44) (faCons (fVar 0) faNil)) (gtName 1)) (fsSeq (fsDrop (fMeth (mt tf "explore") [101, 120, 112, 108, 111, 114, 101] (fVar 1) faNil)) (fsSeq (fsRet (fVar 1)) fsNil)))
theorem e47 (tf tfm : Nat → FF) : evb S D tf tfm 47 = fnF 1 2 (b47 tf tfm) := by kernel_rfl
def b48 (tf tfm : Nat → FF) : FS := (fsSeq (fsIf (fBl (fBin neC (fBin idxP (fVar 0) (fC (.int 0))) (fBin idxP (fVar 1) (fC (.int 0))))) (fsSeq (fsRaise 3 (fC (.str cs5))) fsNil) fsNil) (fsSeq (fsAsg (fDisp true [((fTup (faCons (fC (.int 0)) (faCons (fC (.int 0)) faNil))), (fTup faNil))]) (gtName 2)) (fsSeq (fsAsg (fLst true (faCons (fTup (faCons (fC (.int 0)) (faCons (fC (.int 0)) faNil))) faNil)) (gtName 3)) (fsSeq (fsAsg (fC (.int 0)) (gtName 4)) (fsSeq (fsWhile (fBl (fBin ltC (fVar 4) (fcB lenB (faCons (fVar 3) faNil)))) (fsSeq (fsAsg (fBin idxP (fVar 3) (fVar 4)) (gtTup 2 (gsCons (gtName 5) (gsCons (gtName 6) gsNil)))) (fsSeq (fsFor (fiEnum (fBin idxP (fVar 0) (fC (.int 0)))) (gtTup 2 (gsCons (gtName 7) (gsCons (gtName 8) gsNil))) (fsSeq (fsPar [10, 11] (faCons (fBin idxP (fBin idxP (fBin idxP (fVar 0) (fC (.int 1))) (fVar 5)) (fVar 7)) (faCons (fBin idxP (fBin idxP (fBin idxP (fVar 1) (fC (.int 1))) (fVar 6)) (fVar 7)) faNil))) (fsSeq (fsAsg (fBin addP (fBin idxP (fVar 2) (fBin idxP (fVar 3) (fVar 4))) (fTup (faCons (fVar 8) faNil))) (gtName 9)) (fsSeq (fsIf (fBl (fBin neC (fBin idxP (fVar 10) (fC (.int 0))) (fBin idxP (fVar 11) (fC (.int 0))))) (fsSeq (fsRet (fTup (faCons (fC (.str [114, 111, 119])) (faCons (fVar 9) faNil)))) fsNil) fsNil) (fsSeq (fsIf (fBl (fBin ninC (fTup (faCons (fBin idxP (fVar 10) (fC (.int 1))) (faCons (fBin idxP (fVar 11) (fC (.int 1))) faNil))) (fVar 2))) (fsSeq (fsAsg (fVar 9) (gtSub (fVar 2) (fTup (faCons (fBin idxP (fVar 10) (fC (.int 1))) (faCons (fBin idxP (fVar 11) (fC (.int 1))) faNil))))) (fsSeq (fsDrop (fBM isLst appM (fVar 3) (faCons (fTup (faCons (fBin idxP (fVar 10) (fC (.int 1))) (faCons (fBin idxP (fVar 11) (fC (.int 1))) faNil))) faNil))) fsNil)) fsNil) fsNil))))) (fsSeq (fsAug 4 .Add (fC (.int 1))) fsNil)))) (fsSeq (fsRet (fTup (faCons (fC (.str [115, 97, 109, 101])) (faCons (fcB tupB (faCons (fcB (srtG false) (faCons (fVar 2) faNil)) faNil)) faNil)))) fsNil))))))
theorem e48 (tf tfm : Nat → FF) : evb S D tf tfm 48 = fnF 2 12 (b48 tf tfm) := by kernel_rfl
def b49 (tf tfm : Nat → FF) : FS := (fsSeq (fsAsg (fBin idxP (fCall (tf 12) (faCons (fVar 0) faNil)) (fBin idxP (fVar 0) (fC (.int 1)))) (gtName 2)) (fsSeq (fsFor (fiEnumT (fBin idxP (fVar 2) (fC (.int 2)))) (gtTup 2 (gsCons (gtName 3) (gsCons (gtTup 2 (gsCons (gtName 4) (gsCons (gtName 5) gsNil))) gsNil))) (fsSeq (fsIf (tfAnd (fBl (fBin eqC (fVar 4) (fVar 1))) (fBl (fBin eqC (fVar 5) (fC (.tup [(.str [98, 111, 111, 108])]))))) (fsSeq (fsRet (fVar 3)) fsNil) fsNil) fsNil)) (fsSeq (fsRaise 3 (fC (.str cs6))) fsNil)))
theorem e49 (tf tfm : Nat → FF) : evb S D tf tfm 49 = fnF 2 6 (b49 tf tfm) := by kernel_rfl
def b50 (tf tfm : Nat → FF) : FS := (fsSeq (fsAsg (fCall (tf 47) (faCons (fVar 0) faNil)) (gtName 3)) (fsSeq (fsAsg (fC .non) (gtName 4)) (fsSeq (fsFor (fiEnum (fFld [114, 111, 119, 115] (fVar 3))) (gtTup 2 (gsCons (gtName 5) (gsCons (gtName 6) gsNil))) (fsSeq (fsFor (fiZip (fFld [105, 110, 115, 116, 97, 110, 116, 115] (fVar 3)) (fVar 6)) (gtTup 2 (gsCons (gtName 7) (gsCons (gtTup 2 (gsCons (gtName 8) (gsCons (gtName 9) gsNil))) gsNil))) (fsSeq (fsIf (fBl (fBin eqC (fBin idxP (fVar 8) (fVar 1)) (fVar 2))) (fsSeq (fsAsg (fBin addP (fBin idxP (fFld [119, 97, 121, 115] (fVar 3)) (fVar 5)) (fTup (faCons (fVar 7) faNil))) (gtName 10)) (fsSeq (fsIf (tfOr (fBl (fBin isC (fVar 4) (fC .non))) (fBl (fBin ltC (fTup (faCons (fcB lenB (faCons (fVar 10) faNil)) (faCons (fVar 10) faNil))) (fTup (faCons (fcB lenB (faCons (fVar 4) faNil)) (faCons (fVar 4) faNil)))))) (fsSeq (fsAsg (fVar 10) (gtName 4)) fsNil) fsNil) fsNil)) fsNil) fsNil)) fsNil)) (fsSeq (fsRet (fVar 4)) fsNil))))
theorem e50 (tf tfm : Nat → FF) : evb S D tf tfm 50 = fnF 3 11 (b50 tf tfm) := by kernel_rfl
def b51 (tf tfm : Nat → FF) : FS := (fsSeq (fsRet (fCall (tf 50) (faCons (fVar 0) (faCons (fCall (tf 49) (faCons (fVar 0) (faCons (fVar 1) faNil))) (faCons (fC (.int 1)) faNil))))) fsNil)
theorem e51 (tf tfm : Nat → FF) : evb S D tf tfm 51 = fnF 2 2 (b51 tf tfm) := by kernel_rfl
def b52 (tf tfm : Nat → FF) : FS := (fsSeq (fsAsg (fCall (tf 4) (faCons (fVar 0) faNil)) (gtName 2)) (fsSeq (fsAsg fStk (gtName 3)) (fsSeq (fsAsg (fDNew true) (gtName 4)) (fsSeq (fsAsg (fcB (lstB true) (faCons (fVar 1) faNil)) (gtName 5)) (fsSeq (fsWhile (fBl (fBin gtC (fcB lenB (faCons (fVar 5) faNil)) (fC (.int 0)))) (fsSeq (fsAsg (fBM isLst popM (fVar 5) faNil) (gtName 6)) (fsSeq (fsIf (fBl (fBin ninC (fVar 6) (fVar 4))) (fsSeq (fsAsg (fC (.bl true)) (gtSub (fVar 4) (fVar 6))) (fsSeq (fsDrop (fBM isLst extM (fVar 5) (faCons (fCall (tf 9) (faCons (fBin idxP (fBin idxP (fVar 2) (fVar 6)) (fC (.int 1))) faNil)) faNil))) (fsSeq (fsIf (fBl (fBin inC (fVar 6) (fVar 3))) (fsSeq (fsAsg (fBin idxP (fVar 3) (fVar 6)) (gtName 7)) (fsSeq (fsDrop (fBM isLst extM (fVar 5) (faCons (fBin addP (fBin addP (fCall (tf 7) (faCons (fVar 7) faNil)) (fCall (tf 10) (faCons (fVar 7) faNil))) (fCall (tf 5) (faCons (fVar 7) faNil))) faNil))) (fsSeq (fsDrop (fBM isLst extM (fVar 5) (faCons (fCall (tf 9) (faCons (fCall (tf 8) (faCons (fVar 2) (faCons (fVar 7) faNil))) faNil)) faNil))) fsNil))) fsNil) fsNil))) fsNil) fsNil))) (fsSeq (fsRet (fVar 4)) fsNil))))))
theorem e52 (tf tfm : Nat → FF) : evb S D tf tfm 52 = fnF 2 8 (b52 tf tfm) := by kernel_rfl
def b53 (tf tfm : Nat → FF) : FS := (fsSeq (fsAsg (fCall (tf 12) (faCons (fVar 0) faNil)) (gtName 2)) (fsSeq (fsAsg (fBin idxP (fVar 2) (fBin idxP (fVar 0) (fC (.int 1)))) (gtName 3)) (fsSeq (fsIf (tfOr (fBl (fBin eqC (fcB lenB (faCons (fVar 1) faNil)) (fC (.int 0)))) (tfNot (fTru (fcB allB (faCons (fComp false [10] (fiVal (fVar 1)) (gtName 10) ftYes (fcB anyB (faCons (fComp false [12, 15] (fiVal (fBin idxP (fVar 3) (fC (.int 2)))) (gtTup 2 (gsCons (gtName 12) (gsCons (gtName 15) gsNil))) ftYes (fBin eqC (fVar 12) (fVar 10))) faNil))) faNil))))) (fsSeq (fsRaise 3 (fC (.str cs7))) fsNil) fsNil) (fsSeq (fsAsg (fCall (tf 52) (faCons (fVar 3) (faCons (fVar 1) faNil))) (gtName 4)) (fsSeq (fsAsg (fcB tupB (faCons (fComp false [11] (fiVal (fBin idxP (fVar 3) (fC (.int 4)))) (gtName 11) (fBl (fBin inC (fBin idxP (fCall (tf 5) (faCons (fVar 11) faNil)) (fC (.int 0))) (fVar 4))) (fVar 11)) faNil)) (gtName 5)) (fsSeq (fsAsg (fcB tupB (faCons (fComp false [12, 13] (fiVal (fBin idxP (fVar 3) (fC (.int 2)))) (gtTup 2 (gsCons (gtName 12) (gsCons (gtName 13) gsNil))) (fBl (fBin inC (fVar 12) (fVar 1))) (fTup (faCons (fVar 12) (faCons (fVar 13) faNil)))) faNil)) (gtName 6)) (fsSeq (fsAsg fStk (gtName 7)) (fsSeq (fsAsg (fComp false [12, 13] (fiVal (fBin idxP (fVar 3) (fC (.int 2)))) (gtTup 2 (gsCons (gtName 12) (gsCons (gtName 13) gsNil))) (tfAnd (fBl (fBin inC (fVar 12) (fVar 7))) (fBl (fBin ninC (fVar 12) (fVar 1)))) (fTup (faCons (fVar 12) (faCons (fVar 13) (faCons (fTup faNil) faNil))))) (gtName 8)) (fsSeq (fsDrop (fBM isLst extM (fVar 8) (faCons (fComp false [14] (fiVal (fBin idxP (fVar 3) (fC (.int 3)))) (gtName 14) (fBl (fBin inC (fBin idxP (fVar 14) (fC (.int 0))) (fVar 7))) (fVar 14)) faNil))) (fsSeq (fsAsg (fTup (faCons (fBin idxP (fVar 3) (fC (.int 0))) (faCons (fBin idxP (fVar 3) (fC (.int 1))) (faCons (fVar 6) (faCons (fcB tupB (faCons (fcB (srtG false) (faCons (fVar 8) faNil)) faNil)) (faCons (fVar 5) faNil)))))) (gtSub (fVar 2) (fBin idxP (fVar 0) (fC (.int 1))))) (fsSeq (fsRet (fTup (faCons (fcB tupB (faCons (fComp false [10] (fiVal (fCall (tf 54) (faCons (fVar 2) (faCons (fBin idxP (fVar 0) (fC (.int 1))) faNil)))) (gtName 10) ftYes (fBin idxP (fVar 2) (fVar 10))) faNil)) (faCons (fBin idxP (fVar 0) (fC (.int 1))) faNil)))) fsNil)))))))))))
theorem e53 (tf tfm : Nat → FF) : evb S D tf tfm 53 = fnF 2 16 (b53 tf tfm) := by kernel_rfl
def b54 (tf tfm : Nat → FF) : FS := (fsSeq (fsAsg (fDisp true [((fVar 1), (fC (.bl true)))]) (gtName 2)) (fsSeq (fsAsg (fLst true (faCons (fVar 1) faNil)) (gtName 3)) (fsSeq (fsWhile (fBl (fBin gtC (fcB lenB (faCons (fVar 3) faNil)) (fC (.int 0)))) (fsSeq (fsFor (fiVal (fCall (tf 11) (faCons (fBin idxP (fVar 0) (fBM isLst popM (fVar 3) faNil)) faNil))) (gtName 4) (fsSeq (fsIf (fBl (fBin ninC (fVar 4) (fVar 2))) (fsSeq (fsAsg (fC (.bl true)) (gtSub (fVar 2) (fVar 4))) (fsSeq (fsDrop (fBM isLst appM (fVar 3) (faCons (fVar 4) faNil))) fsNil)) fsNil) fsNil)) fsNil)) (fsSeq (fsRet (fcB (srtG false) (faCons (fVar 2) faNil))) fsNil))))
theorem e54 (tf tfm : Nat → FF) : evb S D tf tfm 54 = fnF 2 5 (b54 tf tfm) := by kernel_rfl
def b55 (tf tfm : Nat → FF) : FS := (fsSeq (fsIf (fBl (fBin ltC (fVar 1) (fcB lenB (faCons (fVar 0) faNil)))) (fsSeq (fsRet (fBin idxP (fVar 0) (fVar 1))) fsNil) fsNil) (fsSeq (fsRet (fC (.int 0))) fsNil))
theorem e55 (tf tfm : Nat → FF) : evb S D tf tfm 55 = fnF 2 2 (b55 tf tfm) := by kernel_rfl
def b56 (tf tfm : Nat → FF) : FS := (fsSeq (fsAsg (fLst true faNil) (gtName 2)) (fsSeq (fsAsg (fVar 0) (gtName 3)) (fsSeq (fsFor (fiRng1 (fVar 1)) (gtName 4) (fsSeq (fsIf (tfAnd (fBl (fBin geC (fVar 0) (fBin powP (fC (.int 10)) (fC (.int 18))))) (fBl (fBin gtC (fVar 3) (fC (.int 0))))) (fsSeq (fsDrop (fBM isLst appM (fVar 2) (faCons (fBin modP (fcB intB (faCons (fVar 3) faNil)) (fC (.int 4099))) faNil))) (fsSeq (fsAsg (fBin divP (fVar 3) (fC (.int 4099))) (gtName 3)) fsNil)) (fsSeq (fsAsg (fBin modP (fcB intB (faCons (fBin addP (fBin mulP (fVar 0) (fC (.int 69621))) (fBin mulP (fBin addP (fVar 4) (fC (.int 1))) (fC (.int 48271)))) faNil)) (fC (.int 2147483647))) (gtName 5)) (fsSeq (fsAsg (fBin modP (fcB intB (faCons (fBin addP (fBin addP (fBin mulP (fVar 5) (fVar 5)) (fBin mulP (fVar 5) (fC (.int 16807)))) (fBin mulP (fVar 4) (fC (.int 7919)))) faNil)) (fC (.int 2147483629))) (gtName 5)) (fsSeq (fsAsg (fBin modP (fcB intB (faCons (fBin addP (fBin addP (fBin mulP (fVar 5) (fVar 5)) (fVar 0)) (fBin mulP (fC (.int 17)) (fVar 4))) faNil)) (fC (.int 2147483587))) (gtName 5)) (fsSeq (fsDrop (fBM isLst appM (fVar 2) (faCons (fBin modP (fBin divP (fVar 5) (fC (.int 5))) (fC (.int 4099))) faNil))) fsNil))))) fsNil)) (fsSeq (fsRet (fVar 2)) fsNil))))
theorem e56 (tf tfm : Nat → FF) : evb S D tf tfm 56 = fnF 2 6 (b56 tf tfm) := by kernel_rfl
def b57 (tf tfm : Nat → FF) : FS := (fsSeq (fsAsg (fLst false faNil) (gtName 1)) (fsSeq (fsFor (fiRng1 (fcB minB (faCons (fC (.int 6)) (faCons (fcB maxB (faCons (fC (.int 1)) (faCons (fcB lenB (faCons (fVar 0) faNil)) faNil))) faNil)))) (gtName 2) (fsSeq (fsAsg (fBin addP (fVar 1) (fCall (tf 56) (faCons (fBin addP (fCall (tf 55) (faCons (fVar 0) (faCons (fVar 2) faNil))) (fBin mulP (fC (.int 11)) (fVar 2))) (faCons (fC (.int 24)) faNil)))) (gtName 1)) fsNil)) (fsSeq (fsRet (fLst false (faCons (fVar 1) (faCons (fLst true (faCons (fC (.int 0)) faNil)) faNil)))) fsNil)))
theorem e57 (tf tfm : Nat → FF) : evb S D tf tfm 57 = fnF 1 3 (b57 tf tfm) := by kernel_rfl
def b58 (tf tfm : Nat → FF) : FS := (fsSeq (fsAsg (fBin idxP (fBin idxP (fVar 0) (fC (.int 1))) (fC (.int 0))) (gtName 2)) (fsSeq (fsAsg (fBin addP (fVar 2) (fC (.int 1))) (gtSub (fBin idxP (fVar 0) (fC (.int 1))) (fC (.int 0)))) (fsSeq (fsAsg (fBin divP (fVar 2) (fcB lenB (faCons (fBin idxP (fVar 0) (fC (.int 0))) faNil))) (gtName 3)) (fsSeq (fsRet (fBin modP (fcB intB (faCons (fBin addP (fBin addP (fBin idxP (fBin idxP (fVar 0) (fC (.int 0))) (fBin modP (fVar 2) (fcB lenB (faCons (fBin idxP (fVar 0) (fC (.int 0))) faNil)))) (fBin mulP (fVar 3) (fC (.int 1013)))) (fBin mulP (fBin mulP (fVar 3) (fVar 2)) (fC (.int 7)))) faNil)) (fVar 1))) fsNil))))
theorem e58 (tf tfm : Nat → FF) : evb S D tf tfm 58 = fnF 2 4 (b58 tf tfm) := by kernel_rfl
def b59 (tf tfm : Nat → FF) : FS := (fsSeq (fsAsg (fLst true faNil) (gtName 1)) (fsSeq (fsIf (fTru fStk) (fsSeq (fsDrop (fBM isLst appM (fVar 1) (faCons (fC (.str [66, 108, 111, 99, 107, 101, 100])) faNil))) fsNil) fsNil) (fsSeq (fsIf (fTru fStk) (fsSeq (fsDrop (fBM isLst appM (fVar 1) (faCons (fC (.str cs8)) faNil))) fsNil) fsNil) (fsSeq (fsIf (fTru fStk) (fsSeq (fsDrop (fBM isLst appM (fVar 1) (faCons (fC (.str [84, 111, 111, 77, 97, 110, 121])) faNil))) fsNil) fsNil) (fsSeq (fsIf (tfNot (fTru fStk)) (fsSeq (fsDrop (fBM isLst appM (fVar 1) (faCons (fC (.str [110, 111, 110, 101])) faNil))) fsNil) fsNil) (fsSeq (fsRet (fVar 1)) fsNil))))))
theorem e59 (tf tfm : Nat → FF) : evb S D tf tfm 59 = fnF 1 2 (b59 tf tfm) := by kernel_rfl
def b60 (tf tfm : Nat → FF) : FS := (fsSeq (fsAsg (fTup (faCons (fC (.str [98, 111, 111, 108])) faNil)) (gtName 2)) (fsSeq (fsAsg (fTup (faCons (fC (.str [110, 97])) (faCons (fTup (faCons (fTup (faCons (fC (.str [105, 110, 48])) (faCons (fTup (faCons (fC (.str [110, 117, 109])) (faCons (fC (.int 9)) faNil))) faNil))) (faCons (fTup (faCons (fC (.str [105, 110, 49])) (faCons (fTup (faCons (fC (.str [110, 117, 109])) (faCons (fC (.int 8)) faNil))) faNil))) faNil))) (faCons (fTup (faCons (fTup (faCons (fC (.str [111, 117, 116, 48])) (faCons (fTup (faCons (fC (.str [110, 117, 109])) (faCons (fC (.int 9)) faNil))) faNil))) faNil)) (faCons (fTup faNil) (faCons (fTup (faCons (fTup (faCons (fC (.str [105, 115])) (faCons (fC (.str [111, 117, 116, 48])) (faCons (fTup (faCons (fC (.str [99, 111, 112, 121])) (faCons (fC (.str [105, 110, 48])) faNil))) faNil)))) faNil)) faNil)))))) (gtName 3)) (fsSeq (fsAsg (fTup (faCons (fTup (faCons (fVar 3) faNil)) (faCons (fC (.str [110, 97])) faNil))) (gtName 4)) (fsSeq (fsTryK 5 [(3, true), (5, true), (6, true)] (fun c => ([(3, [[78, 111, 116, 70, 105, 116, 116, 105, 110, 103]]), (5, [[66, 108, 111, 99, 107, 101, 100]]), (6, [[84, 111, 111, 77, 97, 110, 121]])] : List (Nat × List (List Nat))).lookup c) (fsSeq (fsIf (fBl (fBin eqC (fVar 0) (fC (.int 0)))) (fsSeq (fsDrop (fCall (tf 43) (faCons (fVar 4) faNil))) fsNil) fsNil) (fsSeq (fsIf (fBl (fBin eqC (fVar 0) (fC (.int 1)))) (fsSeq (fsDrop (fCall (tf 53) (faCons (fVar 4) (faCons (fTup faNil) faNil)))) fsNil) fsNil) (fsSeq (fsIf (fBl (fBin eqC (fVar 0) (fC (.int 2)))) (fsSeq (fsDrop (fCall (tf 42) (faCons (fVar 4) (faCons (fTup faNil) (faCons (fTup faNil) (faCons (fTup faNil) (faCons (fC (.int 1)) faNil))))))) fsNil) fsNil) (fsSeq (fsIf (fBl (fBin eqC (fVar 0) (fC (.int 3)))) (fsSeq (fsDrop (fCall (tf 42) (faCons (fVar 4) (faCons (fTupP (faCons (fTup (faCons (fC (.str [111, 117, 116, 48])) (faCons (fC (.int 0)) faNil))) faNil)) (faCons (fTup faNil) (faCons (fTup faNil) (faCons (fBin addP (fC (.int 10)) (fVar 1)) faNil))))))) fsNil) fsNil) (fsSeq (fsIf (fBl (fBin eqC (fVar 0) (fC (.int 4)))) (fsSeq (fsDrop (fCall (tf 48) (faCons (fTup (faCons (fTup (faCons (fTup (faCons (fC (.int 0)) faNil)) faNil)) (faCons (fTup (faCons (fTup (faCons (fTup (faCons (fTup (faCons (fC (.int 0)) faNil)) (faCons (fC (.int 0)) faNil))) faNil)) faNil)) faNil))) (faCons (fTup (faCons (fTup (faCons (fTup (faCons (fC (.int 1)) faNil)) faNil)) (faCons (fTup (faCons (fTup (faCons (fTup (faCons (fTup (faCons (fC (.int 0)) faNil)) (faCons (fC (.int 0)) faNil))) faNil)) faNil)) faNil))) faNil)))) fsNil) fsNil) (fsSeq (fsIf (fBl (fBin eqC (fVar 0) (fC (.int 5)))) (fsSeq (fsDrop (fCall (tf 51) (faCons (fVar 4) (faCons (fC (.str [111, 117, 116, 48])) faNil)))) fsNil) fsNil) (fsSeq (fsIf (fBl (fBin eqC (fVar 0) (fC (.int 6)))) (fsSeq (fsRaise 5 (fC (.str [120]))) fsNil) fsNil) (fsSeq (fsIf (fBl (fBin eqC (fVar 0) (fC (.int 7)))) (fsSeq (fsRaise 6 (fC (.str [120]))) fsNil) fsNil) (fsSeq (fsIf (fBl (fBin eqC (fVar 0) (fC (.int 8)))) (fsSeq (fsRaiseS 3 (fVar 2)) fsNil) fsNil) fsNil)))))))))) (fsSeq (fsRet (fLst false (faCons (fC (.str [110, 111, 116, 104, 105, 110, 103])) faNil))) fsNil)))))
theorem e60 (tf tfm : Nat → FF) : evb S D tf tfm 60 = fnF 2 6 (b60 tf tfm) := by kernel_rfl
def b61 (tf tfm : Nat → FF) : FS := (fsSeq (fsAsg (fCall (tf 57) (faCons (fVar 0) faNil)) (gtName 1)) (fsSeq (fsAsg (fCall (tf 58) (faCons (fVar 1) (faCons (fC (.int 9)) faNil))) (gtName 2)) (fsSeq (fsAsg (fLst false (faCons (fC (.str [84, 111, 111, 77, 97, 110, 121])) (faCons (fC (.str cs8)) (faCons (fC (.str cs8)) (faCons (fC (.str cs8)) (faCons (fC (.str cs8)) (faCons (fC (.str cs8)) (faCons (fC (.str [66, 108, 111, 99, 107, 101, 100])) (faCons (fC (.str [84, 111, 111, 77, 97, 110, 121])) (faCons (fC (.str cs8)) faNil)))))))))) (gtName 3)) (fsSeq (fsFor (fiRng1 (fcB lenB (faCons (fVar 3) faNil))) (gtName 4) (fsSeq (fsIf (fBl (fBin neC (fCall (tf 60) (faCons (fVar 4) (faCons (fVar 2) faNil))) (fLst false (faCons (fBin idxP (fVar 3) (fVar 4)) faNil)))) (fsSeq (fsRet (fC (.bl false))) fsNil) fsNil) fsNil)) (fsSeq (fsAsg (fTup (faCons (fC (.str [110, 97])) (faCons (fTup (faCons (fTup (faCons (fC (.str [105, 110, 48])) (faCons (fTup (faCons (fC (.str [110, 117, 109])) (faCons (fBin addP (fC (.int 2)) (fVar 2)) faNil))) faNil))) faNil)) (faCons (fTup (faCons (fTup (faCons (fC (.str [111, 117, 116, 48])) (faCons (fTup (faCons (fC (.str [110, 117, 109])) (faCons (fBin addP (fC (.int 2)) (fVar 2)) faNil))) faNil))) faNil)) (faCons (fTup faNil) (faCons (fTup (faCons (fTup (faCons (fC (.str [105, 115])) (faCons (fC (.str [111, 117, 116, 48])) (faCons (fTup (faCons (fC (.str [99, 111, 112, 121])) (faCons (fC (.str [105, 110, 48])) faNil))) faNil)))) faNil)) faNil)))))) (gtName 5)) (fsSeq (fsAsg (fcB tupB (faCons (fComp false [8] (fiRng1 (fVar 2)) (gtName 8) ftYes (fTup (faCons (fBin modP (fcB intB (faCons (fVar 8) faNil)) (fcB intB (faCons (fBin addP (fC (.int 2)) (fVar 2)) faNil))) faNil))) faNil)) (gtName 6)) (fsSeq (fsAsg (fCall (tf 42) (faCons (fTup (faCons (fTup (faCons (fVar 5) faNil)) (faCons (fC (.str [110, 97])) faNil))) (faCons (fTupP (faCons (fTup (faCons (fC (.str [111, 117, 116, 48])) (faCons (fBin modP (fcB intB (faCons (fVar 2) faNil)) (fC (.int 4))) faNil))) faNil)) (faCons (fVar 6) (faCons (fTup faNil) (faCons (fC (.int 1)) faNil)))))) (gtName 7)) (fsSeq (fsRet (fAnd (fBin eqC (fVar 7) (fTup (faCons (fVar 6) (faCons (fC (.int 0)) faNil)))) (fBin eqC (fCall (tf 43) (faCons (fTup (faCons (fTup (faCons (fVar 5) faNil)) (faCons (fC (.str [110, 97])) faNil))) faNil)) (fcB tupB (faCons (fComp false [8] (fiRng1 (fBin addP (fC (.int 2)) (fVar 2))) (gtName 8) ftYes (fTup (faCons (fVar 8) faNil))) faNil))))) fsNil))))))))
theorem e61 (tf tfm : Nat → FF) : evb S D tf tfm 61 = fnF 1 9 (b61 tf tfm) := by kernel_rfl
end K67
/-! k67: the tables by bodies; the law behind its draw. Printed by mkC.py. -/
namespace K67
open Pv PySem L2
def bs (tf tfm : Nat → FF) : Nat → FF := fun j => match j with
  | 0 => fnF 1 1 (b0 tf tfm)
  | 1 => fnF 3 3 (b1 tf tfm)
  | 2 => fnF 2 2 (b2 tf tfm)
  | 3 => fnF 1 1 (b3 tf tfm)
  | 4 => fnF 1 5 (b4 tf tfm)
  | 5 => fnF 1 1 (b5 tf tfm)
  | 6 => fnF 1 3 (b6 tf tfm)
  | 7 => fnF 1 1 (b7 tf tfm)
  | 8 => fnF 2 2 (b8 tf tfm)
  | 9 => fnF 1 3 (b9 tf tfm)
  | 10 => fnF 1 1 (b10 tf tfm)
  | 11 => fnF 1 2 (b11 tf tfm)
  | 12 => fnF 1 2 (b12 tf tfm)
  | 13 => fnF 3 3 (b13 tf tfm)
  | 14 => fnF 4 4 (b14 tf tfm)
  | 15 => fnF 2 4 (b15 tf tfm)
  | 16 => fnF 2 6 (b16 tf tfm)
  | 17 => fnF 1 1 (b17 tf tfm)
  | 18 => fnF 4 5 (b18 tf tfm)
  | 19 => fnF 1 1 (b19 tf tfm)
  | 20 => fnF 4 16 (b20 tf tfm)
  | 21 => fnF 5 13 (b21 tf tfm)
  | 22 => fnF 3 3 (b22 tf tfm)
  | 23 => fnF 1 3 (b23 tf tfm)
  | 24 => fnF 2 7 (b24 tf tfm)
  | 25 => fnF 2 2 (b25 tf tfm)
  | 26 => fnF 1 6 (b26 tf tfm)
  | 27 => fnF 3 5 (b27 tf tfm)
  | 28 => fnF 2 7 (b28 tf tfm)
  | 29 => fnF 2 2 (b29 tf tfm)
  | 30 => fnF 5 10 (b30 tf tfm)
  | 31 => fnF 1 7 (b31 tf tfm)
  | 32 => fnF 2 4 (b32 tf tfm)
  | 33 => fnF 2 2 (b33 tf tfm)
  | 34 => fnF 3 8 (b34 tf tfm)
  | 35 => fnF 3 7 (b35 tf tfm)
  | 36 => fnF 2 3 (b36 tf tfm)
  | 37 => fnF 3 5 (b37 tf tfm)
  | 38 => fnF 2 5 (b38 tf tfm)
  | 39 => fnF 4 12 (b39 tf tfm)
  | 40 => fnF 3 6 (b40 tf tfm)
  | 41 => fnF 1 4 (b41 tf tfm)
  | 42 => fnF 5 8 (b42 tf tfm)
  | 43 => fnF 1 6 (b43 tf tfm)
  | 44 => fnF 2 3 (b44 tf tfm)
  | 45 => fnF 1 7 (b45 tf tfm)
  | 46 => fnF 4 4 (b46 tf tfm)
  | 47 => fnF 1 2 (b47 tf tfm)
  | 48 => fnF 2 12 (b48 tf tfm)
  | 49 => fnF 2 6 (b49 tf tfm)
  | 50 => fnF 3 11 (b50 tf tfm)
  | 51 => fnF 2 2 (b51 tf tfm)
  | 52 => fnF 2 8 (b52 tf tfm)
  | 53 => fnF 2 16 (b53 tf tfm)
  | 54 => fnF 2 5 (b54 tf tfm)
  | 55 => fnF 2 2 (b55 tf tfm)
  | 56 => fnF 2 6 (b56 tf tfm)
  | 57 => fnF 1 3 (b57 tf tfm)
  | 58 => fnF 2 4 (b58 tf tfm)
  | 59 => fnF 1 2 (b59 tf tfm)
  | 60 => fnF 2 6 (b60 tf tfm)
  | 61 => fnF 1 9 (b61 tf tfm)
  | _ => ffStuck
theorem bs_eq (tf tfm : Nat → FF) : evb S D tf tfm = bs tf tfm := funext fun j => by
  match j with
  | 0 => exact e0 tf tfm
  | 1 => exact e1 tf tfm
  | 2 => exact e2 tf tfm
  | 3 => exact e3 tf tfm
  | 4 => exact e4 tf tfm
  | 5 => exact e5 tf tfm
  | 6 => exact e6 tf tfm
  | 7 => exact e7 tf tfm
  | 8 => exact e8 tf tfm
  | 9 => exact e9 tf tfm
  | 10 => exact e10 tf tfm
  | 11 => exact e11 tf tfm
  | 12 => exact e12 tf tfm
  | 13 => exact e13 tf tfm
  | 14 => exact e14 tf tfm
  | 15 => exact e15 tf tfm
  | 16 => exact e16 tf tfm
  | 17 => exact e17 tf tfm
  | 18 => exact e18 tf tfm
  | 19 => exact e19 tf tfm
  | 20 => exact e20 tf tfm
  | 21 => exact e21 tf tfm
  | 22 => exact e22 tf tfm
  | 23 => exact e23 tf tfm
  | 24 => exact e24 tf tfm
  | 25 => exact e25 tf tfm
  | 26 => exact e26 tf tfm
  | 27 => exact e27 tf tfm
  | 28 => exact e28 tf tfm
  | 29 => exact e29 tf tfm
  | 30 => exact e30 tf tfm
  | 31 => exact e31 tf tfm
  | 32 => exact e32 tf tfm
  | 33 => exact e33 tf tfm
  | 34 => exact e34 tf tfm
  | 35 => exact e35 tf tfm
  | 36 => exact e36 tf tfm
  | 37 => exact e37 tf tfm
  | 38 => exact e38 tf tfm
  | 39 => exact e39 tf tfm
  | 40 => exact e40 tf tfm
  | 41 => exact e41 tf tfm
  | 42 => exact e42 tf tfm
  | 43 => exact e43 tf tfm
  | 44 => exact e44 tf tfm
  | 45 => exact e45 tf tfm
  | 46 => exact e46 tf tfm
  | 47 => exact e47 tf tfm
  | 48 => exact e48 tf tfm
  | 49 => exact e49 tf tfm
  | 50 => exact e50 tf tfm
  | 51 => exact e51 tf tfm
  | 52 => exact e52 tf tfm
  | 53 => exact e53 tf tfm
  | 54 => exact e54 tf tfm
  | 55 => exact e55 tf tfm
  | 56 => exact e56 tf tfm
  | 57 => exact e57 tf tfm
  | 58 => exact e58 tf tfm
  | 59 => exact e59 tf tfm
  | 60 => exact e60 tf tfm
  | 61 => exact e61 tf tfm
  | n + 62 =>
    have h : D[n + 62]? = none := List.getElem?_eq_none (Nat.le_add_left 62 n)
    unfold evb
    rw [h]
    rfl
def EV : Nat → (Nat → FF) × (Nat → FF)
  | 0 => (fun _ => ffStuck, fun _ => ffStuck)
  | i + 1 => (bs (EV i).1 (EV i).2, (EV i).1)
theorem EV_eq : ∀ i, ev2 S D i = EV i
  | 0 => rfl
  | i + 1 => by
    show (evb S D (ev2 S D i).1 (ev2 S D i).2, (ev2 S D i).1) = (bs (EV i).1 (EV i).2, (EV i).1)
    rw [EV_eq i, bs_eq]
def brest (tf tfm : Nat → FF) : FS := (fsSeq (fsAsg (fLst false (faCons (fC (.str [84, 111, 111, 77, 97, 110, 121])) (faCons (fC (.str cs8)) (faCons (fC (.str cs8)) (faCons (fC (.str cs8)) (faCons (fC (.str cs8)) (faCons (fC (.str cs8)) (faCons (fC (.str [66, 108, 111, 99, 107, 101, 100])) (faCons (fC (.str [84, 111, 111, 77, 97, 110, 121])) (faCons (fC (.str cs8)) faNil)))))))))) (gtName 3)) (fsSeq (fsFor (fiRng1 (fcB lenB (faCons (fVar 3) faNil))) (gtName 4) (fsSeq (fsIf (fBl (fBin neC (fCall (tf 60) (faCons (fVar 4) (faCons (fVar 2) faNil))) (fLst false (faCons (fBin idxP (fVar 3) (fVar 4)) faNil)))) (fsSeq (fsRet (fC (.bl false))) fsNil) fsNil) fsNil)) (fsSeq (fsAsg (fTup (faCons (fC (.str [110, 97])) (faCons (fTup (faCons (fTup (faCons (fC (.str [105, 110, 48])) (faCons (fTup (faCons (fC (.str [110, 117, 109])) (faCons (fBin addP (fC (.int 2)) (fVar 2)) faNil))) faNil))) faNil)) (faCons (fTup (faCons (fTup (faCons (fC (.str [111, 117, 116, 48])) (faCons (fTup (faCons (fC (.str [110, 117, 109])) (faCons (fBin addP (fC (.int 2)) (fVar 2)) faNil))) faNil))) faNil)) (faCons (fTup faNil) (faCons (fTup (faCons (fTup (faCons (fC (.str [105, 115])) (faCons (fC (.str [111, 117, 116, 48])) (faCons (fTup (faCons (fC (.str [99, 111, 112, 121])) (faCons (fC (.str [105, 110, 48])) faNil))) faNil)))) faNil)) faNil)))))) (gtName 5)) (fsSeq (fsAsg (fcB tupB (faCons (fComp false [8] (fiRng1 (fVar 2)) (gtName 8) ftYes (fTup (faCons (fBin modP (fcB intB (faCons (fVar 8) faNil)) (fcB intB (faCons (fBin addP (fC (.int 2)) (fVar 2)) faNil))) faNil))) faNil)) (gtName 6)) (fsSeq (fsAsg (fCall (tf 42) (faCons (fTup (faCons (fTup (faCons (fVar 5) faNil)) (faCons (fC (.str [110, 97])) faNil))) (faCons (fTupP (faCons (fTup (faCons (fC (.str [111, 117, 116, 48])) (faCons (fBin modP (fcB intB (faCons (fVar 2) faNil)) (fC (.int 4))) faNil))) faNil)) (faCons (fVar 6) (faCons (fTup faNil) (faCons (fC (.int 1)) faNil)))))) (gtName 7)) (fsSeq (fsRet (fAnd (fBin eqC (fVar 7) (fTup (faCons (fVar 6) (faCons (fC (.int 0)) faNil)))) (fBin eqC (fCall (tf 43) (faCons (fTup (faCons (fTup (faCons (fVar 5) faNil)) (faCons (fC (.str [110, 97])) faNil))) faNil)) (fcB tupB (faCons (fComp false [8] (fiRng1 (fBin addP (fC (.int 2)) (fVar 2))) (gtName 8) ftYes (fTup (faCons (fVar 8) faNil))) faNil))))) fsNil))))))
theorem b61_eq (tf tfm : Nat → FF) : b61 tf tfm = fsSeq (fsAsg (fCall (tf 57) (faCons (fVar 0) faNil)) (gtName 1)) (fsSeq (fsAsg (fCall (tf 58) (faCons (fVar 1) (faCons (fC (.int 9)) faNil))) (gtName 2)) (brest tf tfm)) := rfl
def isT : SR → Bool
  | .rt (.bl true) _ => true
  | _ => false
end K67
set_option maxHeartbeats 4000000
/-! k67, part D: the pool, the draw. -/
namespace K67
open Pv PySem L2 Nrm
abbrev E (i : Nat) : Nat → FF := (ev2 S D i).1
theorem E_succ (i j : Nat) : E (i + 1) j = evb S D (E i) (ev2 S D i).2 j := rfl
theorem SatS_forM {α : Type} {Z : Exc → Store → Prop} {g : FG} {body : FS} {nx : Sig → Store → Prop} {rt : PV → Store → Prop} (enc : α → PV) (I : List α → Sig → Store → Prop)
    (h0 : ∀ sg st, I [] sg st → nx sg st) (h1 : ∀ a l sg st, I (a :: l) sg st → SatX Z (g (enc a) sg st) fun sg st => SatSX Z (body sg st) (I l) rt) :
    ∀ (l : List α) (sg : Sig) (st : Store), I l sg st → SatSX Z (forL g body (l.map enc) sg st) nx rt := fun l sg st h => by
  refine SatS_for (fun ps sg st => ∃ l, ps = l.map enc ∧ I l sg st) (fun sg st ⟨l, e, h⟩ => ?_) (fun p ps sg st ⟨l, e, h⟩ => ?_) _ sg st ⟨l, rfl, h⟩
  rotate_left
  · cases l with
    | nil => exact h0 sg st h
    | cons a l => cases e
  · cases l with
    | nil => cases e
    | cons a l =>
      rw [List.map_cons] at e
      cases e
      exact (h1 a l sg st h).mono fun sg st k => k.mono (fun sg st z => ⟨l, rfl, z⟩) fun _ _ z => z
theorem atI_nat {α : Type} {l : List α} {k : Nat} (h : k < l.length) : L2.atI l (k : Int) = some l[k] := by simp [L2.atI, h]
theorem SatS_rng {Z : Exc → Store → Prop} {g : FG} {body : FS} {nx : Sig → Store → Prop} {rt : PV → Store → Prop} (n : Nat) (I : Nat → Sig → Store → Prop)
    (h0 : ∀ sg st, I n sg st → nx sg st) (h1 : ∀ k sg st, k < n → I k sg st → SatX Z (g (.int k) sg st) fun sg st => SatSX Z (body sg st) (I (k + 1)) rt)
    {sg : Sig} {st : Store} (hi : I 0 sg st) : SatSX Z (forL g body (rngL 0 n) sg st) nx rt := by
  have e : rngL 0 n = (List.range' 0 n).map fun k : Nat => PV.int k := by
    unfold rngL
    rw [List.range_eq_range']
    exact List.map_congr_left fun k _ => by simp
  rw [e]
  refine SatS_forM (fun k : Nat => PV.int k) (fun l sg st => ∃ k, k ≤ n ∧ l = List.range' k (n - k) ∧ I k sg st) ?_ ?_ _ _ _ ⟨0, Nat.zero_le _, rfl, hi⟩
  · rintro sg st ⟨k, hk, e, h⟩
    have e := congrArg List.length e
    rw [List.length_range', List.length_nil] at e
    have : k = n := by omega
    subst this
    exact h0 sg st h
  · rintro a l sg st ⟨k, hk, e, h⟩
    have hl := congrArg List.length e
    rw [List.length_range', List.length_cons] at hl
    obtain ⟨j, hj⟩ : ∃ j, n - k = j + 1 := ⟨n - k - 1, by omega⟩
    rw [hj, List.range'_succ] at e
    obtain ⟨rfl, rfl⟩ := List.cons.inj e
    refine (h1 a sg st (by omega) h).mono fun sg st q => q.mono (fun sg st z => ⟨a + 1, by omega, by rw [show n - (a + 1) = j by omega], z⟩) fun _ _ z => z
def FrF (F : List Nat) (st st' : Store) : Prop := st.length ≤ st'.length ∧ ∀ k, k ∉ F → k < st.length → st'[k]? = st[k]?
theorem FrF.refl (F : List Nat) (st : Store) : FrF F st st := ⟨Nat.le_refl _, fun _ _ _ => rfl⟩
theorem FrF.trans {F F' : List Nat} {a b c : Store} (h : FrF F a b) (k : FrF F' b c) (hf : ∀ j ∈ F', j ∈ F ∨ a.length ≤ j) : FrF F a c := ⟨Nat.le_trans h.1 k.1, fun j h0 h1 => (k.2 j (fun z => (hf j z).elim h0 fun z => by omega) (Nat.lt_of_lt_of_le h1 h.1)).trans (h.2 j h0 h1)⟩
theorem FrF.set (n : Nat) (st : Store) (c : Cell) : FrF [n] st (st.set n c) := ⟨by simp, fun k h0 _ => by rw [List.getElem?_set_ne (fun e => h0 (by simp [e]))]⟩
theorem FrF.sub {F F' : List Nat} {a b : Store} (h : FrF F a b) (hf : ∀ j ∈ F, j ∈ F' ∨ a.length ≤ j) : FrF F' a b := ⟨h.1, fun j h0 h1 => h.2 j (fun z => (hf j z).elim h0 fun z => by omega) h1⟩
theorem FrF.get {F : List Nat} {st st' : Store} (h : FrF F st st') {k : Nat} {c : Cell} (h0 : k ∉ F) (e : st[k]? = some c) : st'[k]? = some c := (h.2 k h0 (List.getElem?_eq_some_iff.mp e).1).trans e
variable {i : Nat} {st : Store}
theorem g_cell (ns : List Int) (k : Nat) : ∃ z : Int, ∀ st, E (i + 1) 55 [.scr (ns.map .int), .int k] st = .ok (.int z) st := by
  by_cases h : k < ns.length
  · refine ⟨ns[k], fun st => ok_of ?_⟩
    rw [E_succ, e55]
    refine Sat_fnF rfl ?_
    unfold b55
    have a1 : idxP (.scr (ns.map PV.int)) (.int k) st = some (.int ns[k]) := by
      show L2.atI (ns.map PV.int) (k : Int) = _
      rw [atI_nat (by simpa using h)]; simp
    simp -dsimp -implicitDefEqProofs [lenB, h, a1]
  · refine ⟨0, fun st => ok_of ?_⟩
    rw [E_succ, e55]
    refine Sat_fnF rfl ?_
    unfold b55
    simp -dsimp -implicitDefEqProofs [lenB, h]
def poolpv (xs : List Int) (pc : Nat) : PV := .lst [.lst (xs.map .int), .ref pc]
/-- the pool -/
structure PL (xs : List Int) (pc n : Nat) (st : Store) : Prop where
  ne : xs ≠ []
  len : xs.length ≤ 1000
  at_ : ∃ a : Int, st[pc]? = some (.lst [.int a]) ∧ 0 ≤ a ∧ a ≤ n
def NumI (st : Store) (k : Nat) (st' : Store) : Prop := ∃ ys : List Int, ys.length = k ∧ st' = st ++ [.lst (ys.map .int)]
theorem NumI.push {k : Nat} {st' : Store} (h : NumI st k st') (hk : k < 1000) : isLst (.ref st.length) st' = true ∧ ∃ f : Int → Store, (∀ z, appM (.ref st.length) [.int z] st' = some (.non, f z)) ∧ ∀ z, NumI st (k + 1) (f z) := by
  obtain ⟨ys, hl, rfl⟩ := h
  have hc : (st ++ [Cell.lst (ys.map PV.int)])[st.length]? = some (.lst (ys.map .int)) := app_new _ _
  have sz : (ys.map PV.int).length < sizeLine := by rw [List.length_map, sizeLine_eq]; omega
  refine ⟨isLst_ref hc, fun z => (st ++ [Cell.lst (ys.map PV.int)]).set st.length (.lst (ys.map PV.int ++ [.int z])), fun z => appM_ref hc sz _, fun z => ⟨ys ++ [z], by simp [hl], ?_⟩⟩
  simp
theorem g_numbers (c : Int) {Q : PV → Store → Prop} (q : ∀ ys : List Int, ys.length = 24 → Q (.ref st.length) (st ++ [.lst (ys.map .int)])) : Sat (E (i + 1) 56 [.int c, .int 24] st) Q := by
  rw [E_succ, e56]
  refine Sat_fnF rfl ?_
  unfold b56
  have s0 : (0 : Nat) ≤ sizeLine := Nat.zero_le _
  simp -dsimp -implicitDefEqProofs
  refine SatS_rng 24 (fun k sg st' => ∃ l e4 e5, sg = [some (.int c), some (.int 24), some (.ref st.length), some (.int l), e4, e5] ∧ NumI st k st') ?_ ?_ ⟨_, _, _, rfl, [], rfl, by simp⟩
  · rintro sg st' ⟨l, e4, e5, rfl, ys, hl, rfl⟩
    simp -dsimp -implicitDefEqProofs
    exact q ys hl
  · rintro k sg st' hk ⟨l, e4, e5, rfl, h⟩
    have md : ∀ X m : Int, 0 < m → m < 2 ^ 32 → -(2 ^ 64) < X % m ∧ X % m < 2 ^ 64 := fun X m h0 h1 => by
      have := Int.emod_nonneg X (show m ≠ 0 by omega)
      have := Int.emod_lt_of_pos X h0
      omega
    have hk64 : -(2 ^ 64) < (k : Int) ∧ (k : Int) < 2 ^ 64 := by omega
    obtain ⟨h1, f, h2, h3⟩ := h.push (by omega)
    by_cases hb1 : (1000000000000000000 : Int) ≤ c
    · by_cases hb2 : 0 < l
      · simp -dsimp -implicitDefEqProofs [powP, hb1, hb2, h1, h2, h3]
      · simp -dsimp -implicitDefEqProofs [powP, hb1, hb2, h1, h2, h3]
        exact ⟨md _ _ (by decide) (by decide), md _ _ (by decide) (by decide)⟩
    · simp -dsimp -implicitDefEqProofs [powP, hb1, h1, h2, h3]
      exact ⟨md _ _ (by decide) (by decide), md _ _ (by decide) (by decide)⟩
def PoolI (k : Nat) (acc : PV) (st' : Store) : Prop := ∃ ys : List Int, acc = .lst (ys.map .int) ∧ ys.length = 24 * k ∧ st'.length = k
theorem g_pool (ns : List Int) {Q : PV → Store → Prop} (q : ∀ xs pc st', PL xs pc 0 st' → 2 ≤ st'.length → st'.length ≤ 7 → Q (poolpv xs pc) st') : Sat (E (i + 2) 57 [.scr (ns.map .int)] []) Q := by
  rw [E_succ, e57]
  refine Sat_fnF rfl ?_
  unfold b57
  have s0 : (0 : Nat) ≤ sizeLine := Nat.zero_le _
  have s1 : 1 ≤ sizeLine := by rw [sizeLine_eq]; decide
  have s2 : 2 ≤ sizeLine := by rw [sizeLine_eq]; decide
  have hlen : ∀ st, lenB [.scr (ns.map PV.int)] st = some (.int ns.length, st) := fun st => by simp [lenB]
  obtain ⟨cnt, hc1, hc2, hc3⟩ : ∃ cnt : Nat, 1 ≤ cnt ∧ cnt ≤ 6 ∧ (if (if (1 : Int) < ns.length then (ns.length : Int) else 1) < 6 then (if (1 : Int) < ns.length then (ns.length : Int) else 1) else 6) = (cnt : Int) := by
    refine ⟨(if (if (1 : Int) < ns.length then (ns.length : Int) else 1) < 6 then (if (1 : Int) < ns.length then (ns.length : Int) else 1) else 6).toNat, ?_, ?_, ?_⟩ <;> split <;> (try split) <;> omega
  have hmm : ∀ st, ∃ z, maxB [.int 1, .int ns.length] st = some (.int z, st) ∧ minB [.int 6, .int z] st = some (.int cnt, st) := fun st => by
    refine ⟨_, rfl, ?_⟩
    rw [← hc3]; rfl
  obtain ⟨z, hz1, hz2⟩ := hmm []
  simp -dsimp -implicitDefEqProofs [hlen, hz1, hz2]
  refine ⟨by omega, ?_⟩
  refine SatS_rng cnt (fun k sg st' => ∃ acc e2, sg = [some (.scr (ns.map .int)), some acc, e2] ∧ PoolI k acc st') ?_ ?_ ⟨_, _, rfl, [], rfl, rfl, rfl⟩
  · rintro sg st' ⟨acc, e2, rfl, ys, rfl, hl, hz⟩
    simp -dsimp -implicitDefEqProofs [s1, s2]
    refine q ys st'.length _ ⟨fun e => ?_, by omega, 0, app_new _ _, Int.le_refl _, Int.le_refl _⟩ (by simp; omega) (by simp; omega)
    rw [e] at hl
    simp at hl
    omega
  · rintro k sg st' hk ⟨acc, e2, rfl, ys, rfl, hl, hz⟩
    obtain ⟨w, hw⟩ := g_cell (i := i) ns k
    have h11 : (-(2 ^ 64) < (11 : Int) ∧ (11 : Int) < 2 ^ 64) := by decide
    simp -dsimp -implicitDefEqProofs [hw]
    refine g_numbers (i := i) _ fun zs hzl => ?_
    have ha : addP (.lst (ys.map PV.int)) (.ref st'.length) (st' ++ [.lst (zs.map .int)]) = some (.lst ((ys ++ zs).map .int)) := by
      have : (ys.map PV.int).length + (zs.map PV.int).length ≤ sizeLine := by rw [List.length_map, List.length_map, sizeLine_eq]; omega
      have e2 : asL (.ref st'.length) (st' ++ [.lst (zs.map .int)]) = some (zs.map .int) := by simp [asL]
      show (match asL (.lst (ys.map PV.int)) (st' ++ [.lst (zs.map .int)]), asL (.ref st'.length) (st' ++ [.lst (zs.map .int)]) with
        | some xs, some ys => if xs.length + ys.length ≤ sizeLine then some (PV.lst (xs ++ ys)) else none
        | _, _ => none) = _
      rw [e2]
      show (if (ys.map PV.int).length + (zs.map PV.int).length ≤ sizeLine then some (PV.lst (ys.map PV.int ++ zs.map PV.int)) else none) = _
      rw [if_pos this, List.map_append]
    obtain ⟨W, hW⟩ : ∃ W, W = ys ++ zs := ⟨_, rfl⟩
    rw [← hW] at ha
    simp -dsimp -implicitDefEqProofs [ha]
    exact ⟨W, rfl, by rw [hW, List.length_append, hl, hzl]; omega, by simp; exact hz⟩
theorem g_draw {xs : List Int} {pc n : Nat} (h : PL xs pc n st) (hn : n ≤ 1000000) {k : Int} (hk : 0 < k) {Z : Exc → Store → Prop} {Q : PV → Store → Prop} (q : ∀ r st', 0 ≤ r → r < k → PL xs pc (n + 1) st' → FrF [pc] st st' → st'.length = st.length → Q (.int r) st') : SatX Z (E (i + 1) 58 [poolpv xs pc, .int k] st) Q := by
  obtain ⟨a, h1, h2, h3⟩ := h.at_
  have hl : 0 < xs.length := List.length_pos_iff.mpr h.ne
  have hlen := h.len
  rw [E_succ, e58]
  refine Sat_fnF rfl ?_
  unfold b58
  have hs := (List.getElem?_eq_some_iff.mp h1).1
  have hm0 : 0 ≤ a % xs.length := Int.emod_nonneg _ (by omega)
  have hm1 : a % xs.length < xs.length := Int.emod_lt_of_pos _ (by omega)
  have hix : (a % xs.length).toNat < xs.length := by omega
  obtain ⟨x, hx⟩ : ∃ x, L2.atI (xs.map PV.int) (a % xs.length) = some (.int x) := by
    refine ⟨xs[(a % xs.length).toNat], ?_⟩
    simp [L2.atI, hm0, hm1, hix]
  have hb : (-(2 ^ 64) < a ∧ a < 2 ^ 64) := by omega
  have hz : (0 : Int) < xs.length ∧ (xs.length : Int) < 1073741824 := by omega
  simp -dsimp -implicitDefEqProofs [poolpv, idxP_ref h1, setP_ref h1, idxP_set hs, hz, hx, hb, hk]
  exact ⟨by omega, .inr (by omega), q _ _ (Int.emod_nonneg _ (by omega)) (Int.emod_lt_of_pos _ hk) ⟨h.ne, h.len, a + 1, set_get h1, by omega, by omega⟩ (FrF.set _ _ _) (by simp)⟩
end K67
set_option maxRecDepth 1000000
set_option maxHeartbeats 8000000
/-! k67, part E: the law behind its draw, case by case (the kernel reckons). -/
namespace K67
open Pv PySem L2

/-- the slots behind the draw -/
def sg0 (scr pool : PV) (n : Int) : Sig := [some scr, some pool, some (.int n), none, none, none, none, none, none]
theorem r_2_0 (scr pool : PV) (c0 c1 : Cell) : isT (brest (EV 62).1 (EV 62).2 (sg0 scr pool 0) [c0, c1]) = true := by kernel_rfl
theorem r_2_1 (scr pool : PV) (c0 c1 : Cell) : isT (brest (EV 62).1 (EV 62).2 (sg0 scr pool 1) [c0, c1]) = true := by kernel_rfl
theorem r_2_2 (scr pool : PV) (c0 c1 : Cell) : isT (brest (EV 62).1 (EV 62).2 (sg0 scr pool 2) [c0, c1]) = true := by kernel_rfl
theorem r_2_3 (scr pool : PV) (c0 c1 : Cell) : isT (brest (EV 62).1 (EV 62).2 (sg0 scr pool 3) [c0, c1]) = true := by kernel_rfl
theorem r_2_4 (scr pool : PV) (c0 c1 : Cell) : isT (brest (EV 62).1 (EV 62).2 (sg0 scr pool 4) [c0, c1]) = true := by kernel_rfl
theorem r_2_5 (scr pool : PV) (c0 c1 : Cell) : isT (brest (EV 62).1 (EV 62).2 (sg0 scr pool 5) [c0, c1]) = true := by kernel_rfl
theorem r_2_6 (scr pool : PV) (c0 c1 : Cell) : isT (brest (EV 62).1 (EV 62).2 (sg0 scr pool 6) [c0, c1]) = true := by kernel_rfl
theorem r_2_7 (scr pool : PV) (c0 c1 : Cell) : isT (brest (EV 62).1 (EV 62).2 (sg0 scr pool 7) [c0, c1]) = true := by kernel_rfl
theorem r_2_8 (scr pool : PV) (c0 c1 : Cell) : isT (brest (EV 62).1 (EV 62).2 (sg0 scr pool 8) [c0, c1]) = true := by kernel_rfl
theorem r_2 (scr pool : PV) (c0 c1 : Cell) {n : Int} (h0 : 0 ≤ n) (h1 : n < 9) : isT (brest (EV 62).1 (EV 62).2 (sg0 scr pool n) [c0, c1]) = true := by
  obtain rfl | rfl | rfl | rfl | rfl | rfl | rfl | rfl | rfl : n = 0 ∨ n = 1 ∨ n = 2 ∨ n = 3 ∨ n = 4 ∨ n = 5 ∨ n = 6 ∨ n = 7 ∨ n = 8 := by omega
  · exact r_2_0 scr pool c0 c1
  · exact r_2_1 scr pool c0 c1
  · exact r_2_2 scr pool c0 c1
  · exact r_2_3 scr pool c0 c1
  · exact r_2_4 scr pool c0 c1
  · exact r_2_5 scr pool c0 c1
  · exact r_2_6 scr pool c0 c1
  · exact r_2_7 scr pool c0 c1
  · exact r_2_8 scr pool c0 c1
theorem r_3_0 (scr pool : PV) (c0 c1 c2 : Cell) : isT (brest (EV 62).1 (EV 62).2 (sg0 scr pool 0) [c0, c1, c2]) = true := by kernel_rfl
theorem r_3_1 (scr pool : PV) (c0 c1 c2 : Cell) : isT (brest (EV 62).1 (EV 62).2 (sg0 scr pool 1) [c0, c1, c2]) = true := by kernel_rfl
theorem r_3_2 (scr pool : PV) (c0 c1 c2 : Cell) : isT (brest (EV 62).1 (EV 62).2 (sg0 scr pool 2) [c0, c1, c2]) = true := by kernel_rfl
theorem r_3_3 (scr pool : PV) (c0 c1 c2 : Cell) : isT (brest (EV 62).1 (EV 62).2 (sg0 scr pool 3) [c0, c1, c2]) = true := by kernel_rfl
theorem r_3_4 (scr pool : PV) (c0 c1 c2 : Cell) : isT (brest (EV 62).1 (EV 62).2 (sg0 scr pool 4) [c0, c1, c2]) = true := by kernel_rfl
theorem r_3_5 (scr pool : PV) (c0 c1 c2 : Cell) : isT (brest (EV 62).1 (EV 62).2 (sg0 scr pool 5) [c0, c1, c2]) = true := by kernel_rfl
theorem r_3_6 (scr pool : PV) (c0 c1 c2 : Cell) : isT (brest (EV 62).1 (EV 62).2 (sg0 scr pool 6) [c0, c1, c2]) = true := by kernel_rfl
theorem r_3_7 (scr pool : PV) (c0 c1 c2 : Cell) : isT (brest (EV 62).1 (EV 62).2 (sg0 scr pool 7) [c0, c1, c2]) = true := by kernel_rfl
theorem r_3_8 (scr pool : PV) (c0 c1 c2 : Cell) : isT (brest (EV 62).1 (EV 62).2 (sg0 scr pool 8) [c0, c1, c2]) = true := by kernel_rfl
theorem r_3 (scr pool : PV) (c0 c1 c2 : Cell) {n : Int} (h0 : 0 ≤ n) (h1 : n < 9) : isT (brest (EV 62).1 (EV 62).2 (sg0 scr pool n) [c0, c1, c2]) = true := by
  obtain rfl | rfl | rfl | rfl | rfl | rfl | rfl | rfl | rfl : n = 0 ∨ n = 1 ∨ n = 2 ∨ n = 3 ∨ n = 4 ∨ n = 5 ∨ n = 6 ∨ n = 7 ∨ n = 8 := by omega
  · exact r_3_0 scr pool c0 c1 c2
  · exact r_3_1 scr pool c0 c1 c2
  · exact r_3_2 scr pool c0 c1 c2
  · exact r_3_3 scr pool c0 c1 c2
  · exact r_3_4 scr pool c0 c1 c2
  · exact r_3_5 scr pool c0 c1 c2
  · exact r_3_6 scr pool c0 c1 c2
  · exact r_3_7 scr pool c0 c1 c2
  · exact r_3_8 scr pool c0 c1 c2
theorem r_4_0 (scr pool : PV) (c0 c1 c2 c3 : Cell) : isT (brest (EV 62).1 (EV 62).2 (sg0 scr pool 0) [c0, c1, c2, c3]) = true := by kernel_rfl
theorem r_4_1 (scr pool : PV) (c0 c1 c2 c3 : Cell) : isT (brest (EV 62).1 (EV 62).2 (sg0 scr pool 1) [c0, c1, c2, c3]) = true := by kernel_rfl
theorem r_4_2 (scr pool : PV) (c0 c1 c2 c3 : Cell) : isT (brest (EV 62).1 (EV 62).2 (sg0 scr pool 2) [c0, c1, c2, c3]) = true := by kernel_rfl
theorem r_4_3 (scr pool : PV) (c0 c1 c2 c3 : Cell) : isT (brest (EV 62).1 (EV 62).2 (sg0 scr pool 3) [c0, c1, c2, c3]) = true := by kernel_rfl
theorem r_4_4 (scr pool : PV) (c0 c1 c2 c3 : Cell) : isT (brest (EV 62).1 (EV 62).2 (sg0 scr pool 4) [c0, c1, c2, c3]) = true := by kernel_rfl
theorem r_4_5 (scr pool : PV) (c0 c1 c2 c3 : Cell) : isT (brest (EV 62).1 (EV 62).2 (sg0 scr pool 5) [c0, c1, c2, c3]) = true := by kernel_rfl
theorem r_4_6 (scr pool : PV) (c0 c1 c2 c3 : Cell) : isT (brest (EV 62).1 (EV 62).2 (sg0 scr pool 6) [c0, c1, c2, c3]) = true := by kernel_rfl
theorem r_4_7 (scr pool : PV) (c0 c1 c2 c3 : Cell) : isT (brest (EV 62).1 (EV 62).2 (sg0 scr pool 7) [c0, c1, c2, c3]) = true := by kernel_rfl
theorem r_4_8 (scr pool : PV) (c0 c1 c2 c3 : Cell) : isT (brest (EV 62).1 (EV 62).2 (sg0 scr pool 8) [c0, c1, c2, c3]) = true := by kernel_rfl
theorem r_4 (scr pool : PV) (c0 c1 c2 c3 : Cell) {n : Int} (h0 : 0 ≤ n) (h1 : n < 9) : isT (brest (EV 62).1 (EV 62).2 (sg0 scr pool n) [c0, c1, c2, c3]) = true := by
  obtain rfl | rfl | rfl | rfl | rfl | rfl | rfl | rfl | rfl : n = 0 ∨ n = 1 ∨ n = 2 ∨ n = 3 ∨ n = 4 ∨ n = 5 ∨ n = 6 ∨ n = 7 ∨ n = 8 := by omega
  · exact r_4_0 scr pool c0 c1 c2 c3
  · exact r_4_1 scr pool c0 c1 c2 c3
  · exact r_4_2 scr pool c0 c1 c2 c3
  · exact r_4_3 scr pool c0 c1 c2 c3
  · exact r_4_4 scr pool c0 c1 c2 c3
  · exact r_4_5 scr pool c0 c1 c2 c3
  · exact r_4_6 scr pool c0 c1 c2 c3
  · exact r_4_7 scr pool c0 c1 c2 c3
  · exact r_4_8 scr pool c0 c1 c2 c3
theorem r_5_0 (scr pool : PV) (c0 c1 c2 c3 c4 : Cell) : isT (brest (EV 62).1 (EV 62).2 (sg0 scr pool 0) [c0, c1, c2, c3, c4]) = true := by kernel_rfl
theorem r_5_1 (scr pool : PV) (c0 c1 c2 c3 c4 : Cell) : isT (brest (EV 62).1 (EV 62).2 (sg0 scr pool 1) [c0, c1, c2, c3, c4]) = true := by kernel_rfl
theorem r_5_2 (scr pool : PV) (c0 c1 c2 c3 c4 : Cell) : isT (brest (EV 62).1 (EV 62).2 (sg0 scr pool 2) [c0, c1, c2, c3, c4]) = true := by kernel_rfl
theorem r_5_3 (scr pool : PV) (c0 c1 c2 c3 c4 : Cell) : isT (brest (EV 62).1 (EV 62).2 (sg0 scr pool 3) [c0, c1, c2, c3, c4]) = true := by kernel_rfl
theorem r_5_4 (scr pool : PV) (c0 c1 c2 c3 c4 : Cell) : isT (brest (EV 62).1 (EV 62).2 (sg0 scr pool 4) [c0, c1, c2, c3, c4]) = true := by kernel_rfl
theorem r_5_5 (scr pool : PV) (c0 c1 c2 c3 c4 : Cell) : isT (brest (EV 62).1 (EV 62).2 (sg0 scr pool 5) [c0, c1, c2, c3, c4]) = true := by kernel_rfl
theorem r_5_6 (scr pool : PV) (c0 c1 c2 c3 c4 : Cell) : isT (brest (EV 62).1 (EV 62).2 (sg0 scr pool 6) [c0, c1, c2, c3, c4]) = true := by kernel_rfl
theorem r_5_7 (scr pool : PV) (c0 c1 c2 c3 c4 : Cell) : isT (brest (EV 62).1 (EV 62).2 (sg0 scr pool 7) [c0, c1, c2, c3, c4]) = true := by kernel_rfl
theorem r_5_8 (scr pool : PV) (c0 c1 c2 c3 c4 : Cell) : isT (brest (EV 62).1 (EV 62).2 (sg0 scr pool 8) [c0, c1, c2, c3, c4]) = true := by kernel_rfl
theorem r_5 (scr pool : PV) (c0 c1 c2 c3 c4 : Cell) {n : Int} (h0 : 0 ≤ n) (h1 : n < 9) : isT (brest (EV 62).1 (EV 62).2 (sg0 scr pool n) [c0, c1, c2, c3, c4]) = true := by
  obtain rfl | rfl | rfl | rfl | rfl | rfl | rfl | rfl | rfl : n = 0 ∨ n = 1 ∨ n = 2 ∨ n = 3 ∨ n = 4 ∨ n = 5 ∨ n = 6 ∨ n = 7 ∨ n = 8 := by omega
  · exact r_5_0 scr pool c0 c1 c2 c3 c4
  · exact r_5_1 scr pool c0 c1 c2 c3 c4
  · exact r_5_2 scr pool c0 c1 c2 c3 c4
  · exact r_5_3 scr pool c0 c1 c2 c3 c4
  · exact r_5_4 scr pool c0 c1 c2 c3 c4
  · exact r_5_5 scr pool c0 c1 c2 c3 c4
  · exact r_5_6 scr pool c0 c1 c2 c3 c4
  · exact r_5_7 scr pool c0 c1 c2 c3 c4
  · exact r_5_8 scr pool c0 c1 c2 c3 c4
theorem r_6_0 (scr pool : PV) (c0 c1 c2 c3 c4 c5 : Cell) : isT (brest (EV 62).1 (EV 62).2 (sg0 scr pool 0) [c0, c1, c2, c3, c4, c5]) = true := by kernel_rfl
theorem r_6_1 (scr pool : PV) (c0 c1 c2 c3 c4 c5 : Cell) : isT (brest (EV 62).1 (EV 62).2 (sg0 scr pool 1) [c0, c1, c2, c3, c4, c5]) = true := by kernel_rfl
theorem r_6_2 (scr pool : PV) (c0 c1 c2 c3 c4 c5 : Cell) : isT (brest (EV 62).1 (EV 62).2 (sg0 scr pool 2) [c0, c1, c2, c3, c4, c5]) = true := by kernel_rfl
theorem r_6_3 (scr pool : PV) (c0 c1 c2 c3 c4 c5 : Cell) : isT (brest (EV 62).1 (EV 62).2 (sg0 scr pool 3) [c0, c1, c2, c3, c4, c5]) = true := by kernel_rfl
theorem r_6_4 (scr pool : PV) (c0 c1 c2 c3 c4 c5 : Cell) : isT (brest (EV 62).1 (EV 62).2 (sg0 scr pool 4) [c0, c1, c2, c3, c4, c5]) = true := by kernel_rfl
theorem r_6_5 (scr pool : PV) (c0 c1 c2 c3 c4 c5 : Cell) : isT (brest (EV 62).1 (EV 62).2 (sg0 scr pool 5) [c0, c1, c2, c3, c4, c5]) = true := by kernel_rfl
theorem r_6_6 (scr pool : PV) (c0 c1 c2 c3 c4 c5 : Cell) : isT (brest (EV 62).1 (EV 62).2 (sg0 scr pool 6) [c0, c1, c2, c3, c4, c5]) = true := by kernel_rfl
theorem r_6_7 (scr pool : PV) (c0 c1 c2 c3 c4 c5 : Cell) : isT (brest (EV 62).1 (EV 62).2 (sg0 scr pool 7) [c0, c1, c2, c3, c4, c5]) = true := by kernel_rfl
theorem r_6_8 (scr pool : PV) (c0 c1 c2 c3 c4 c5 : Cell) : isT (brest (EV 62).1 (EV 62).2 (sg0 scr pool 8) [c0, c1, c2, c3, c4, c5]) = true := by kernel_rfl
theorem r_6 (scr pool : PV) (c0 c1 c2 c3 c4 c5 : Cell) {n : Int} (h0 : 0 ≤ n) (h1 : n < 9) : isT (brest (EV 62).1 (EV 62).2 (sg0 scr pool n) [c0, c1, c2, c3, c4, c5]) = true := by
  obtain rfl | rfl | rfl | rfl | rfl | rfl | rfl | rfl | rfl : n = 0 ∨ n = 1 ∨ n = 2 ∨ n = 3 ∨ n = 4 ∨ n = 5 ∨ n = 6 ∨ n = 7 ∨ n = 8 := by omega
  · exact r_6_0 scr pool c0 c1 c2 c3 c4 c5
  · exact r_6_1 scr pool c0 c1 c2 c3 c4 c5
  · exact r_6_2 scr pool c0 c1 c2 c3 c4 c5
  · exact r_6_3 scr pool c0 c1 c2 c3 c4 c5
  · exact r_6_4 scr pool c0 c1 c2 c3 c4 c5
  · exact r_6_5 scr pool c0 c1 c2 c3 c4 c5
  · exact r_6_6 scr pool c0 c1 c2 c3 c4 c5
  · exact r_6_7 scr pool c0 c1 c2 c3 c4 c5
  · exact r_6_8 scr pool c0 c1 c2 c3 c4 c5
theorem r_7_0 (scr pool : PV) (c0 c1 c2 c3 c4 c5 c6 : Cell) : isT (brest (EV 62).1 (EV 62).2 (sg0 scr pool 0) [c0, c1, c2, c3, c4, c5, c6]) = true := by kernel_rfl
theorem r_7_1 (scr pool : PV) (c0 c1 c2 c3 c4 c5 c6 : Cell) : isT (brest (EV 62).1 (EV 62).2 (sg0 scr pool 1) [c0, c1, c2, c3, c4, c5, c6]) = true := by kernel_rfl
theorem r_7_2 (scr pool : PV) (c0 c1 c2 c3 c4 c5 c6 : Cell) : isT (brest (EV 62).1 (EV 62).2 (sg0 scr pool 2) [c0, c1, c2, c3, c4, c5, c6]) = true := by kernel_rfl
theorem r_7_3 (scr pool : PV) (c0 c1 c2 c3 c4 c5 c6 : Cell) : isT (brest (EV 62).1 (EV 62).2 (sg0 scr pool 3) [c0, c1, c2, c3, c4, c5, c6]) = true := by kernel_rfl
theorem r_7_4 (scr pool : PV) (c0 c1 c2 c3 c4 c5 c6 : Cell) : isT (brest (EV 62).1 (EV 62).2 (sg0 scr pool 4) [c0, c1, c2, c3, c4, c5, c6]) = true := by kernel_rfl
theorem r_7_5 (scr pool : PV) (c0 c1 c2 c3 c4 c5 c6 : Cell) : isT (brest (EV 62).1 (EV 62).2 (sg0 scr pool 5) [c0, c1, c2, c3, c4, c5, c6]) = true := by kernel_rfl
theorem r_7_6 (scr pool : PV) (c0 c1 c2 c3 c4 c5 c6 : Cell) : isT (brest (EV 62).1 (EV 62).2 (sg0 scr pool 6) [c0, c1, c2, c3, c4, c5, c6]) = true := by kernel_rfl
theorem r_7_7 (scr pool : PV) (c0 c1 c2 c3 c4 c5 c6 : Cell) : isT (brest (EV 62).1 (EV 62).2 (sg0 scr pool 7) [c0, c1, c2, c3, c4, c5, c6]) = true := by kernel_rfl
theorem r_7_8 (scr pool : PV) (c0 c1 c2 c3 c4 c5 c6 : Cell) : isT (brest (EV 62).1 (EV 62).2 (sg0 scr pool 8) [c0, c1, c2, c3, c4, c5, c6]) = true := by kernel_rfl
theorem r_7 (scr pool : PV) (c0 c1 c2 c3 c4 c5 c6 : Cell) {n : Int} (h0 : 0 ≤ n) (h1 : n < 9) : isT (brest (EV 62).1 (EV 62).2 (sg0 scr pool n) [c0, c1, c2, c3, c4, c5, c6]) = true := by
  obtain rfl | rfl | rfl | rfl | rfl | rfl | rfl | rfl | rfl : n = 0 ∨ n = 1 ∨ n = 2 ∨ n = 3 ∨ n = 4 ∨ n = 5 ∨ n = 6 ∨ n = 7 ∨ n = 8 := by omega
  · exact r_7_0 scr pool c0 c1 c2 c3 c4 c5 c6
  · exact r_7_1 scr pool c0 c1 c2 c3 c4 c5 c6
  · exact r_7_2 scr pool c0 c1 c2 c3 c4 c5 c6
  · exact r_7_3 scr pool c0 c1 c2 c3 c4 c5 c6
  · exact r_7_4 scr pool c0 c1 c2 c3 c4 c5 c6
  · exact r_7_5 scr pool c0 c1 c2 c3 c4 c5 c6
  · exact r_7_6 scr pool c0 c1 c2 c3 c4 c5 c6
  · exact r_7_7 scr pool c0 c1 c2 c3 c4 c5 c6
  · exact r_7_8 scr pool c0 c1 c2 c3 c4 c5 c6
theorem r_all (scr pool : PV) {n : Int} (h0 : 0 ≤ n) (h1 : n < 9) : ∀ st : Store, 2 ≤ st.length → st.length ≤ 7 → isT (brest (EV 62).1 (EV 62).2 (sg0 scr pool n) st) = true
  | [], h, _ => by simp at h
  | [_], h, _ => by simp at h
  | [c0, c1], _, _ => r_2 scr pool c0 c1 h0 h1
  | [c0, c1, c2], _, _ => r_3 scr pool c0 c1 c2 h0 h1
  | [c0, c1, c2, c3], _, _ => r_4 scr pool c0 c1 c2 c3 h0 h1
  | [c0, c1, c2, c3, c4], _, _ => r_5 scr pool c0 c1 c2 c3 c4 h0 h1
  | [c0, c1, c2, c3, c4, c5], _, _ => r_6 scr pool c0 c1 c2 c3 c4 c5 h0 h1
  | [c0, c1, c2, c3, c4, c5, c6], _, _ => r_7 scr pool c0 c1 c2 c3 c4 c5 c6 h0 h1
  | _ :: _ :: _ :: _ :: _ :: _ :: _ :: _ :: _, _, h => by simp at h
theorem isT_of {r : SR} (h : isT r = true) : ∃ st, r = .rt (.bl true) st := by
  unfold isT at h
  split at h
  · exact ⟨_, rfl⟩
  · cases h
theorem law_ok : Law S D 61 63 63 := by
  intro ns hns
  have key : Sat (E (62 + 1) 61 [.scr (ns.map .int)] []) fun p _ => p = .bl true := by
    rw [E_succ, e61]
    refine Sat_fnF rfl ?_
    rw [b61_eq]
    simp -dsimp -implicitDefEqProofs
    refine g_pool (i := 60) ns fun xs pc st1 hp1 l1 l2 => ?_
    simp -dsimp -implicitDefEqProofs
    refine g_draw (i := 61) hp1 (by omega) (by decide) fun r st2 h0 h1 hp2 f hl => ?_
    simp -dsimp -implicitDefEqProofs
    obtain ⟨st3, e⟩ := isT_of (r_all (.scr (ns.map .int)) (poolpv xs pc) h0 h1 st2 (by omega) (by omega))
    have e2 : brest (E 62) (ev2 S D 62).2 (sg0 (.scr (ns.map .int)) (poolpv xs pc) r) st2 = .rt (.bl true) st3 := by
      rw [← EV_eq] at e
      exact e
    unfold sg0 at e2
    rw [e2]
    simp -dsimp -implicitDefEqProofs
  obtain ⟨p, st', e, rfl⟩ := key.ok
  exact ⟨st', e⟩
end K67
set_option maxRecDepth 100000
/-! k67: its head. -/
namespace K67
open Pv PySem L2
def kl_59 : List KL := [⟨false, "Blocked", ⟨([66, 108, 111, 99, 107, 101, 100] : List Nat).toArray⟩, [⟨452, 7, 452, 17⟩, ⟨452, 18, 452, 19⟩, ⟨452, 21, 452, 28⟩, ⟨452, 7, 452, 29⟩, ⟨452, 7, 452, 29⟩, ⟨453, 8, 453, 13⟩, ⟨453, 8, 453, 20⟩, ⟨453, 21, 453, 30⟩, ⟨453, 8, 453, 31⟩, ⟨453, 8, 453, 31⟩, ⟨452, 4, 453, 31⟩]⟩, ⟨false, "NotFitting", ⟨([78, 111, 116, 70, 105, 116, 116, 105, 110, 103] : List Nat).toArray⟩, [⟨454, 7, 454, 17⟩, ⟨454, 18, 454, 19⟩, ⟨454, 21, 454, 31⟩, ⟨454, 7, 454, 32⟩, ⟨454, 7, 454, 32⟩, ⟨455, 8, 455, 13⟩, ⟨455, 8, 455, 20⟩, ⟨455, 21, 455, 33⟩, ⟨455, 8, 455, 34⟩, ⟨455, 8, 455, 34⟩, ⟨454, 4, 455, 34⟩]⟩, ⟨false, "TooMany", ⟨([84, 111, 111, 77, 97, 110, 121] : List Nat).toArray⟩, [⟨456, 7, 456, 17⟩, ⟨456, 18, 456, 19⟩, ⟨456, 21, 456, 28⟩, ⟨456, 7, 456, 29⟩, ⟨456, 7, 456, 29⟩, ⟨457, 8, 457, 13⟩, ⟨457, 8, 457, 20⟩, ⟨457, 21, 457, 30⟩, ⟨457, 8, 457, 31⟩, ⟨457, 8, 457, 31⟩, ⟨456, 4, 457, 31⟩]⟩, ⟨true, "ValueError", ⟨([110, 111, 110, 101] : List Nat).toArray⟩, [⟨458, 11, 458, 21⟩, ⟨458, 22, 458, 23⟩, ⟨458, 25, 458, 35⟩, ⟨458, 11, 458, 36⟩, ⟨458, 7, 458, 36⟩, ⟨459, 8, 459, 13⟩, ⟨459, 8, 459, 20⟩, ⟨459, 21, 459, 27⟩, ⟨459, 8, 459, 28⟩, ⟨459, 8, 459, 28⟩, ⟨458, 4, 459, 28⟩]⟩]
theorem kb_59 : defBody (top 65) = kBody "e" "found" [⟨451, 4, 451, 9⟩, ⟨451, 12, 451, 14⟩, ⟨451, 4, 451, 14⟩, ⟨460, 11, 460, 16⟩, ⟨460, 4, 460, 16⟩] kl_59 := by kernel_rfl
theorem all_mk {w : World} {K : PySem.W.Frag} {h : Heap} {mg : Str → Option Value} {f : Addr} (X : K.In h) (G : h.Ns mainGlobals mg) (hf : mg "law" = some (.ref f))
    {f0 f1 f2 f3 f4 f5 f6 f7 f8 f9 f10 f11 f12 f13 f14 f15 f16 f17 f18 f19 f20 f21 f22 f23 f24 f25 f26 f27 f28 f29 f30 f31 f32 f33 f34 f35 f36 f37 f38 f39 f40 f41 f42 f43 f44 f45 f46 f47 f48 f49 f50 f51 f52 f53 f54 f55 f56 f57 f58 f59 f60 f61 : Addr} {C0 C1 C2 : Addr} {od0 an0 od1 an1 od2 an2 od3 an3 od4 an4 od5 an5 od6 an6 od7 an7 od8 an8 od9 an9 od10 an10 od11 an11 od12 an12 od13 an13 od14 an14 od15 an15 od16 an16 od17 an17 od18 an18 od19 an19 od20 an20 od21 an21 od22 an22 od23 an23 od24 an24 od25 an25 od26 an26 od27 an27 od28 an28 od29 an29 od30 an30 od31 an31 od32 an32 od33 an33 od34 an34 od35 an35 od36 an36 od37 an37 od38 an38 od39 an39 od40 an40 od41 an41 od42 an42 od43 an43 od44 an44 od45 an45 od46 an46 od47 an47 od48 an48 od49 an49 od50 an50 od51 an51 od52 an52 od53 an53 od54 an54 od55 an55 od56 an56 od57 an57 od58 an58 od59 an59 od60 an60 od61 an61 : Option Addr} {sl0 sl1 sl2 sl3 sl4 sl5 sl6 sl7 sl8 sl9 sl10 sl11 sl12 sl13 sl14 sl15 sl16 sl17 sl18 sl19 sl20 sl21 sl22 sl23 sl24 sl25 sl26 sl27 sl28 sl29 sl30 sl31 sl32 sl33 sl34 sl35 sl36 sl37 sl38 sl39 sl40 sl41 sl42 sl43 sl44 sl45 sl46 sl47 sl48 sl49 sl50 sl51 sl52 sl53 sl54 sl55 sl56 sl57 sl58 sl59 sl60 sl61 : Array (Option Value)} {oc0 kV0 dc0 pm0 cd0 ct0 oc1 kV1 dc1 pm1 cd1 ct1 oc2 kV2 dc2 pm2 cd2 ct2 oc3 kV3 dc3 pm3 cd3 ct3 oc4 kV4 dc4 pm4 cd4 ct4 oc5 kV5 dc5 pm5 cd5 ct5 oc6 kV6 dc6 pm6 cd6 ct6 oc7 kV7 dc7 pm7 cd7 ct7 oc8 kV8 dc8 pm8 cd8 ct8 oc9 kV9 dc9 pm9 cd9 ct9 oc10 kV10 dc10 pm10 cd10 ct10 oc11 kV11 dc11 pm11 cd11 ct11 oc12 kV12 dc12 pm12 cd12 ct12 oc13 kV13 dc13 pm13 cd13 ct13 oc14 kV14 dc14 pm14 cd14 ct14 oc15 kV15 dc15 pm15 cd15 ct15 oc16 kV16 dc16 pm16 cd16 ct16 oc17 kV17 dc17 pm17 cd17 ct17 oc18 kV18 dc18 pm18 cd18 ct18 oc19 kV19 dc19 pm19 cd19 ct19 oc20 kV20 dc20 pm20 cd20 ct20 oc21 kV21 dc21 pm21 cd21 ct21 oc22 kV22 dc22 pm22 cd22 ct22 oc23 kV23 dc23 pm23 cd23 ct23 oc24 kV24 dc24 pm24 cd24 ct24 oc25 kV25 dc25 pm25 cd25 ct25 oc26 kV26 dc26 pm26 cd26 ct26 oc27 kV27 dc27 pm27 cd27 ct27 oc28 kV28 dc28 pm28 cd28 ct28 oc29 kV29 dc29 pm29 cd29 ct29 oc30 kV30 dc30 pm30 cd30 ct30 oc31 kV31 dc31 pm31 cd31 ct31 oc32 kV32 dc32 pm32 cd32 ct32 oc33 kV33 dc33 pm33 cd33 ct33 oc34 kV34 dc34 pm34 cd34 ct34 oc35 kV35 dc35 pm35 cd35 ct35 oc36 kV36 dc36 pm36 cd36 ct36 oc37 kV37 dc37 pm37 cd37 ct37 oc38 kV38 dc38 pm38 cd38 ct38 oc39 kV39 dc39 pm39 cd39 ct39 oc40 kV40 dc40 pm40 cd40 ct40 oc41 kV41 dc41 pm41 cd41 ct41 oc42 kV42 dc42 pm42 cd42 ct42 oc43 kV43 dc43 pm43 cd43 ct43 oc44 kV44 dc44 pm44 cd44 ct44 oc45 kV45 dc45 pm45 cd45 ct45 oc46 kV46 dc46 pm46 cd46 ct46 oc47 kV47 dc47 pm47 cd47 ct47 oc48 kV48 dc48 pm48 cd48 ct48 oc49 kV49 dc49 pm49 cd49 ct49 oc50 kV50 dc50 pm50 cd50 ct50 oc51 kV51 dc51 pm51 cd51 ct51 oc52 kV52 dc52 pm52 cd52 ct52 oc53 kV53 dc53 pm53 cd53 ct53 oc54 kV54 dc54 pm54 cd54 ct54 oc55 kV55 dc55 pm55 cd55 ct55 oc56 kV56 dc56 pm56 cd56 ct56 oc57 kV57 dc57 pm57 cd57 ct57 oc58 kV58 dc58 pm58 cd58 ct58 oc59 kV59 dc59 pm59 cd59 ct59 oc60 kV60 dc60 pm60 cd60 ct60 oc61 kV61 dc61 pm61 cd61 ct61 : Value} {a_BOOL : Addr} {d_BOOL : Option Addr} {tk_BOOL : Tok} {n_BOOL : Nat} {sl_BOOL : Array (Option Value)} {tk_MOST_PLACES : Tok} {tk_MOST_ROOM : Tok} {tk_MOST_STATES : Tok} {tk_MOST_INSTANTS : Tok} {X0 X1 X2 X3 : Addr} {aw_OPS : Addr} {es_OPS : Array DictEntry} {nw_OPS : Nat} {tw_OPS_0 tw_OPS_1 tw_OPS_2 tw_OPS_3 tw_OPS_4 tw_OPS_5 tw_OPS_6 : Tok}
    (aC0 : PySem.W.nsIn K mainGlobals "Place" = some (some (.ref C0)))
    (aC1 : PySem.W.nsIn K mainGlobals "Spread" = some (some (.ref C1)))
    (aC2 : PySem.W.nsIn K mainGlobals "Exploring" = some (some (.ref C2)))
    (a0 : PySem.W.nsIn K mainGlobals "is_integer" = some (some (.ref f0)))
    (l0 : K.lookup f0 = some ⟨oc0, od0, .func (PySem.W.fnOf "is_integer" "is_integer" (defArgs (top 6)) (defBody (top 6)) (defScope (top 6)) .none kV0 dc0 pm0 an0 cd0 ct0), sl0⟩)
    (c0 : PySem.W.codeIn K cd0 "is_integer" = true)
    (k0 : PySem.W.keepIn K (.ref f0) = true)
    (a1 : PySem.W.nsIn K mainGlobals "is_number" = some (some (.ref f1)))
    (l1 : K.lookup f1 = some ⟨oc1, od1, .func (PySem.W.fnOf "is_number" "is_number" (defArgs (top 7)) (defBody (top 7)) (defScope (top 7)) .none kV1 dc1 pm1 an1 cd1 ct1), sl1⟩)
    (c1 : PySem.W.codeIn K cd1 "is_number" = true)
    (k1 : PySem.W.keepIn K (.ref f1) = true)
    (a2 : PySem.W.nsIn K mainGlobals "is_tuple" = some (some (.ref f2)))
    (l2 : K.lookup f2 = some ⟨oc2, od2, .func (PySem.W.fnOf "is_tuple" "is_tuple" (defArgs (top 8)) (defBody (top 8)) (defScope (top 8)) .none kV2 dc2 pm2 an2 cd2 ct2), sl2⟩)
    (c2 : PySem.W.codeIn K cd2 "is_tuple" = true)
    (k2 : PySem.W.keepIn K (.ref f2) = true)
    (a3 : PySem.W.nsIn K mainGlobals "size_of" = some (some (.ref f3)))
    (l3 : K.lookup f3 = some ⟨oc3, od3, .func (PySem.W.fnOf "size_of" "size_of" (defArgs (top 12)) (defBody (top 12)) (defScope (top 12)) .none kV3 dc3 pm3 an3 cd3 ct3), sl3⟩)
    (c3 : PySem.W.codeIn K cd3 "size_of" = true)
    (k3 : PySem.W.keepIn K (.ref f3) = true)
    (a4 : PySem.W.nsIn K mainGlobals "table_of" = some (some (.ref f4)))
    (l4 : K.lookup f4 = some ⟨oc4, od4, .func (PySem.W.fnOf "table_of" "table_of" (defArgs (top 13)) (defBody (top 13)) (defScope (top 13)) .none kV4 dc4 pm4 an4 cd4 ct4), sl4⟩)
    (c4 : PySem.W.codeIn K cd4 "table_of" = true)
    (k4 : PySem.W.keepIn K (.ref f4) = true)
    (a5 : PySem.W.nsIn K mainGlobals "given_by" = some (some (.ref f5)))
    (l5 : K.lookup f5 = some ⟨oc5, od5, .func (PySem.W.fnOf "given_by" "given_by" (defArgs (top 14)) (defBody (top 14)) (defScope (top 14)) .none kV5 dc5 pm5 an5 cd5 ct5), sl5⟩)
    (c5 : PySem.W.codeIn K cd5 "given_by" = true)
    (k5 : PySem.W.keepIn K (.ref f5) = true)
    (a6 : PySem.W.nsIn K mainGlobals "read_by_op" = some (some (.ref f6)))
    (l6 : K.lookup f6 = some ⟨oc6, od6, .func (PySem.W.fnOf "read_by_op" "read_by_op" (defArgs (top 15)) (defBody (top 15)) (defScope (top 15)) .none kV6 dc6 pm6 an6 cd6 ct6), sl6⟩)
    (c6 : PySem.W.codeIn K cd6 "read_by_op" = true)
    (k6 : PySem.W.keepIn K (.ref f6) = true)
    (a7 : PySem.W.nsIn K mainGlobals "read_by" = some (some (.ref f7)))
    (l7 : K.lookup f7 = some ⟨oc7, od7, .func (PySem.W.fnOf "read_by" "read_by" (defArgs (top 16)) (defBody (top 16)) (defScope (top 16)) .none kV7 dc7 pm7 an7 cd7 ct7), sl7⟩)
    (c7 : PySem.W.codeIn K cd7 "read_by" = true)
    (k7 : PySem.W.keepIn K (.ref f7) = true)
    (a8 : PySem.W.nsIn K mainGlobals "clock_of" = some (some (.ref f8)))
    (l8 : K.lookup f8 = some ⟨oc8, od8, .func (PySem.W.fnOf "clock_of" "clock_of" (defArgs (top 17)) (defBody (top 17)) (defScope (top 17)) .none kV8 dc8 pm8 an8 cd8 ct8), sl8⟩)
    (c8 : PySem.W.codeIn K cd8 "clock_of" = true)
    (k8 : PySem.W.keepIn K (.ref f8) = true)
    (a9 : PySem.W.nsIn K mainGlobals "clock_names" = some (some (.ref f9)))
    (l9 : K.lookup f9 = some ⟨oc9, od9, .func (PySem.W.fnOf "clock_names" "clock_names" (defArgs (top 18)) (defBody (top 18)) (defScope (top 18)) .none kV9 dc9 pm9 an9 cd9 ct9), sl9⟩)
    (c9 : PySem.W.codeIn K cd9 "clock_names" = true)
    (k9 : PySem.W.keepIn K (.ref f9) = true)
    (a10 : PySem.W.nsIn K mainGlobals "kept_by" = some (some (.ref f10)))
    (l10 : K.lookup f10 = some ⟨oc10, od10, .func (PySem.W.fnOf "kept_by" "kept_by" (defArgs (top 19)) (defBody (top 19)) (defScope (top 19)) .none kV10 dc10 pm10 an10 cd10 ct10), sl10⟩)
    (c10 : PySem.W.codeIn K cd10 "kept_by" = true)
    (k10 : PySem.W.keepIn K (.ref f10) = true)
    (a11 : PySem.W.nsIn K mainGlobals "calls_of" = some (some (.ref f11)))
    (l11 : K.lookup f11 = some ⟨oc11, od11, .func (PySem.W.fnOf "calls_of" "calls_of" (defArgs (top 20)) (defBody (top 20)) (defScope (top 20)) .none kV11 dc11 pm11 an11 cd11 ct11), sl11⟩)
    (c11 : PySem.W.codeIn K cd11 "calls_of" = true)
    (k11 : PySem.W.keepIn K (.ref f11) = true)
    (a12 : PySem.W.nsIn K mainGlobals "nodes_of" = some (some (.ref f12)))
    (l12 : K.lookup f12 = some ⟨oc12, od12, .func (PySem.W.fnOf "nodes_of" "nodes_of" (defArgs (top 21)) (defBody (top 21)) (defScope (top 21)) .none kV12 dc12 pm12 an12 cd12 ct12), sl12⟩)
    (c12 : PySem.W.codeIn K cd12 "nodes_of" = true)
    (k12 : PySem.W.keepIn K (.ref f12) = true)
    (a13 : PySem.W.nsIn K mainGlobals "calculated" = some (some (.ref f13)))
    (l13 : K.lookup f13 = some ⟨oc13, od13, .func (PySem.W.fnOf "calculated" "calculated" (defArgs (top 23)) (defBody (top 23)) (defScope (top 23)) .none kV13 dc13 pm13 an13 cd13 ct13), sl13⟩)
    (c13 : PySem.W.codeIn K cd13 "calculated" = true)
    (k13 : PySem.W.keepIn K (.ref f13) = true)
    (a14 : PySem.W.nsIn K mainGlobals "reckoned" = some (some (.ref f14)))
    (l14 : K.lookup f14 = some ⟨oc14, od14, .func (PySem.W.fnOf "reckoned" "reckoned" (defArgs (top 24)) (defBody (top 24)) (defScope (top 24)) .none kV14 dc14 pm14 an14 cd14 ct14), sl14⟩)
    (c14 : PySem.W.codeIn K cd14 "reckoned" = true)
    (k14 : PySem.W.keepIn K (.ref f14) = true)
    (a15 : PySem.W.nsIn K mainGlobals "is_there" = some (some (.ref f15)))
    (l15 : K.lookup f15 = some ⟨oc15, od15, .func (PySem.W.fnOf "is_there" "is_there" (defArgs (top 25)) (defBody (top 25)) (defScope (top 25)) .none kV15 dc15 pm15 an15 cd15 ct15), sl15⟩)
    (c15 : PySem.W.codeIn K cd15 "is_there" = true)
    (k15 : PySem.W.keepIn K (.ref f15) = true)
    (a16 : PySem.W.nsIn K mainGlobals "first_of" = some (some (.ref f16)))
    (l16 : K.lookup f16 = some ⟨oc16, od16, .func (PySem.W.fnOf "first_of" "first_of" (defArgs (top 26)) (defBody (top 26)) (defScope (top 26)) .none kV16 dc16 pm16 an16 cd16 ct16), sl16⟩)
    (c16 : PySem.W.codeIn K cd16 "first_of" = true)
    (k16 : PySem.W.keepIn K (.ref f16) = true)
    (a17 : PySem.W.nsIn K mainGlobals "first_memory" = some (some (.ref f17)))
    (l17 : K.lookup f17 = some ⟨oc17, od17, .func (PySem.W.fnOf "first_memory" "first_memory" (defArgs (top 27)) (defBody (top 27)) (defScope (top 27)) .none kV17 dc17 pm17 an17 cd17 ct17), sl17⟩)
    (c17 : PySem.W.codeIn K cd17 "first_memory" = true)
    (k17 : PySem.W.keepIn K (.ref f17) = true)
    (a18 : PySem.W.nsIn K mainGlobals "op_value" = some (some (.ref f18)))
    (l18 : K.lookup f18 = some ⟨oc18, od18, .func (PySem.W.fnOf "op_value" "op_value" (defArgs (top 28)) (defBody (top 28)) (defScope (top 28)) .none kV18 dc18 pm18 an18 cd18 ct18), sl18⟩)
    (c18 : PySem.W.codeIn K cd18 "op_value" = true)
    (k18 : PySem.W.keepIn K (.ref f18) = true)
    (a19 : PySem.W.nsIn K mainGlobals "names_read" = some (some (.ref f19)))
    (l19 : K.lookup f19 = some ⟨oc19, od19, .func (PySem.W.fnOf "names_read" "names_read" (defArgs (top 29)) (defBody (top 29)) (defScope (top 29)) .none kV19 dc19 pm19 an19 cd19 ct19), sl19⟩)
    (c19 : PySem.W.codeIn K cd19 "names_read" = true)
    (k19 : PySem.W.keepIn K (.ref f19) = true)
    (a20 : PySem.W.nsIn K mainGlobals "node_step" = some (some (.ref f20)))
    (l20 : K.lookup f20 = some ⟨oc20, od20, .func (PySem.W.fnOf "node_step" "node_step" (defArgs (top 30)) (defBody (top 30)) (defScope (top 30)) .none kV20 dc20 pm20 an20 cd20 ct20), sl20⟩)
    (c20 : PySem.W.codeIn K cd20 "node_step" = true)
    (k20 : PySem.W.keepIn K (.ref f20) = true)
    (a21 : PySem.W.nsIn K mainGlobals "instance_step" = some (some (.ref f21)))
    (l21 : K.lookup f21 = some ⟨oc21, od21, .func (PySem.W.fnOf "instance_step" "instance_step" (defArgs (top 31)) (defBody (top 31)) (defScope (top 31)) .none kV21 dc21 pm21 an21 cd21 ct21), sl21⟩)
    (c21 : PySem.W.codeIn K cd21 "instance_step" = true)
    (k21 : PySem.W.keepIn K (.ref f21) = true)
    (a22 : PySem.W.nsIn K mainGlobals "stepped" = some (some (.ref f22)))
    (l22 : K.lookup f22 = some ⟨oc22, od22, .func (PySem.W.fnOf "stepped" "stepped" (defArgs (top 32)) (defBody (top 32)) (defScope (top 32)) .none kV22 dc22 pm22 an22 cd22 ct22), sl22⟩)
    (c22 : PySem.W.codeIn K cd22 "stepped" = true)
    (k22 : PySem.W.keepIn K (.ref f22) = true)
    (a23 : PySem.W.nsIn K mainGlobals "flat_of" = some (some (.ref f23)))
    (l23 : K.lookup f23 = some ⟨oc23, od23, .func (PySem.W.fnOf "flat_of" "flat_of" (defArgs (top 33)) (defBody (top 33)) (defScope (top 33)) .none kV23 dc23 pm23 an23 cd23 ct23), sl23⟩)
    (c23 : PySem.W.codeIn K cd23 "flat_of" = true)
    (k23 : PySem.W.keepIn K (.ref f23) = true)
    (a24 : PySem.W.nsIn K mainGlobals "shaped" = some (some (.ref f24)))
    (l24 : K.lookup f24 = some ⟨oc24, od24, .func (PySem.W.fnOf "shaped" "shaped" (defArgs (top 34)) (defBody (top 34)) (defScope (top 34)) .none kV24 dc24 pm24 an24 cd24 ct24), sl24⟩)
    (c24 : PySem.W.codeIn K cd24 "shaped" = true)
    (k24 : PySem.W.keepIn K (.ref f24) = true)
    (a25 : PySem.W.nsIn K mainGlobals "memory_from" = some (some (.ref f25)))
    (l25 : K.lookup f25 = some ⟨oc25, od25, .func (PySem.W.fnOf "memory_from" "memory_from" (defArgs (top 35)) (defBody (top 35)) (defScope (top 35)) .none kV25 dc25 pm25 an25 cd25 ct25), sl25⟩)
    (c25 : PySem.W.codeIn K cd25 "memory_from" = true)
    (k25 : PySem.W.keepIn K (.ref f25) = true)
    (a26 : PySem.W.nsIn K mainGlobals "lines_in_order" = some (some (.ref f26)))
    (l26 : K.lookup f26 = some ⟨oc26, od26, .func (PySem.W.fnOf "lines_in_order" "lines_in_order" (defArgs (top 39)) (defBody (top 39)) (defScope (top 39)) .none kV26 dc26 pm26 an26 cd26 ct26), sl26⟩)
    (c26 : PySem.W.codeIn K cd26 "lines_in_order" = true)
    (k26 : PySem.W.keepIn K (.ref f26) = true)
    (a27 : PySem.W.nsIn K mainGlobals "recalls_of" = some (some (.ref f27)))
    (l27 : K.lookup f27 = some ⟨oc27, od27, .func (PySem.W.fnOf "recalls_of" "recalls_of" (defArgs (top 40)) (defBody (top 40)) (defScope (top 40)) .none kV27 dc27 pm27 an27 cd27 ct27), sl27⟩)
    (c27 : PySem.W.codeIn K cd27 "recalls_of" = true)
    (k27 : PySem.W.keepIn K (.ref f27) = true)
    (a28 : PySem.W.nsIn K mainGlobals "are_places" = some (some (.ref f28)))
    (l28 : K.lookup f28 = some ⟨oc28, od28, .func (PySem.W.fnOf "are_places" "are_places" (defArgs (top 41)) (defBody (top 41)) (defScope (top 41)) .none kV28 dc28 pm28 an28 cd28 ct28), sl28⟩)
    (c28 : PySem.W.codeIn K cd28 "are_places" = true)
    (k28 : PySem.W.keepIn K (.ref f28) = true)
    (a29 : PySem.W.findIn K (.ref C0) "__init__" = some (some (.ref f29)))
    (i29 : PySem.W.isFn K (.ref f29) = true)
    (l29 : K.lookup f29 = some ⟨oc29, od29, .func (PySem.W.fnOf "__init__" "Place.__init__" (defArgs (inClass (top 42) 0)) (defBody (inClass (top 42) 0)) (defScope (inClass (top 42) 0)) .none kV29 dc29 pm29 an29 cd29 ct29), sl29⟩)
    (c29 : PySem.W.codeIn K cd29 "Place.__init__" = true)
    (k29 : PySem.W.keepIn K (.ref f29) = true)
    (a30 : PySem.W.findIn K (.ref C1) "__init__" = some (some (.ref f30)))
    (i30 : PySem.W.isFn K (.ref f30) = true)
    (l30 : K.lookup f30 = some ⟨oc30, od30, .func (PySem.W.fnOf "__init__" "Spread.__init__" (defArgs (inClass (top 43) 0)) (defBody (inClass (top 43) 0)) (defScope (inClass (top 43) 0)) .none kV30 dc30 pm30 an30 cd30 ct30), sl30⟩)
    (c30 : PySem.W.codeIn K cd30 "Spread.__init__" = true)
    (k30 : PySem.W.keepIn K (.ref f30) = true)
    (a31 : PySem.W.findIn K (.ref C1) "readers" = some (some (.ref f31)))
    (i31 : PySem.W.isFn K (.ref f31) = true)
    (l31 : K.lookup f31 = some ⟨oc31, od31, .func (PySem.W.fnOf "readers" "Spread.readers" (defArgs (inClass (top 43) 1)) (defBody (inClass (top 43) 1)) (defScope (inClass (top 43) 1)) .none kV31 dc31 pm31 an31 cd31 ct31), sl31⟩)
    (c31 : PySem.W.codeIn K cd31 "Spread.readers" = true)
    (k31 : PySem.W.keepIn K (.ref f31) = true)
    (a32 : PySem.W.findIn K (.ref C1) "reads" = some (some (.ref f32)))
    (i32 : PySem.W.isFn K (.ref f32) = true)
    (l32 : K.lookup f32 = some ⟨oc32, od32, .func (PySem.W.fnOf "reads" "Spread.reads" (defArgs (inClass (top 43) 2)) (defBody (inClass (top 43) 2)) (defScope (inClass (top 43) 2)) .none kV32 dc32 pm32 an32 cd32 ct32), sl32⟩)
    (c32 : PySem.W.codeIn K cd32 "Spread.reads" = true)
    (k32 : PySem.W.keepIn K (.ref f32) = true)
    (a33 : PySem.W.findIn K (.ref C1) "is_over" = some (some (.ref f33)))
    (i33 : PySem.W.isFn K (.ref f33) = true)
    (l33 : K.lookup f33 = some ⟨oc33, od33, .func (PySem.W.fnOf "is_over" "Spread.is_over" (defArgs (inClass (top 43) 3)) (defBody (inClass (top 43) 3)) (defScope (inClass (top 43) 3)) .none kV33 dc33 pm33 an33 cd33 ct33), sl33⟩)
    (c33 : PySem.W.codeIn K cd33 "Spread.is_over" = true)
    (k33 : PySem.W.keepIn K (.ref f33) = true)
    (a34 : PySem.W.findIn K (.ref C1) "value" = some (some (.ref f34)))
    (i34 : PySem.W.isFn K (.ref f34) = true)
    (l34 : K.lookup f34 = some ⟨oc34, od34, .func (PySem.W.fnOf "value" "Spread.value" (defArgs (inClass (top 43) 4)) (defBody (inClass (top 43) 4)) (defScope (inClass (top 43) 4)) .none kV34 dc34 pm34 an34 cd34 ct34), sl34⟩)
    (c34 : PySem.W.codeIn K cd34 "Spread.value" = true)
    (k34 : PySem.W.keepIn K (.ref f34) = true)
    (a35 : PySem.W.findIn K (.ref C1) "clock_state" = some (some (.ref f35)))
    (i35 : PySem.W.isFn K (.ref f35) = true)
    (l35 : K.lookup f35 = some ⟨oc35, od35, .func (PySem.W.fnOf "clock_state" "Spread.clock_state" (defArgs (inClass (top 43) 5)) (defBody (inClass (top 43) 5)) (defScope (inClass (top 43) 5)) .none kV35 dc35 pm35 an35 cd35 ct35), sl35⟩)
    (c35 : PySem.W.codeIn K cd35 "Spread.clock_state" = true)
    (k35 : PySem.W.keepIn K (.ref f35) = true)
    (a36 : PySem.W.findIn K (.ref C1) "can_send" = some (some (.ref f36)))
    (i36 : PySem.W.isFn K (.ref f36) = true)
    (l36 : K.lookup f36 = some ⟨oc36, od36, .func (PySem.W.fnOf "can_send" "Spread.can_send" (defArgs (inClass (top 43) 6)) (defBody (inClass (top 43) 6)) (defScope (inClass (top 43) 6)) .none kV36 dc36 pm36 an36 cd36 ct36), sl36⟩)
    (c36 : PySem.W.codeIn K cd36 "Spread.can_send" = true)
    (k36 : PySem.W.keepIn K (.ref f36) = true)
    (a37 : PySem.W.findIn K (.ref C1) "send" = some (some (.ref f37)))
    (i37 : PySem.W.isFn K (.ref f37) = true)
    (l37 : K.lookup f37 = some ⟨oc37, od37, .func (PySem.W.fnOf "send" "Spread.send" (defArgs (inClass (top 43) 7)) (defBody (inClass (top 43) 7)) (defScope (inClass (top 43) 7)) .none kV37 dc37 pm37 an37 cd37 ct37), sl37⟩)
    (c37 : PySem.W.codeIn K cd37 "Spread.send" = true)
    (k37 : PySem.W.keepIn K (.ref f37) = true)
    (a38 : PySem.W.findIn K (.ref C1) "turn" = some (some (.ref f38)))
    (i38 : PySem.W.isFn K (.ref f38) = true)
    (l38 : K.lookup f38 = some ⟨oc38, od38, .func (PySem.W.fnOf "turn" "Spread.turn" (defArgs (inClass (top 43) 8)) (defBody (inClass (top 43) 8)) (defScope (inClass (top 43) 8)) .none kV38 dc38 pm38 an38 cd38 ct38), sl38⟩)
    (c38 : PySem.W.codeIn K cd38 "Spread.turn" = true)
    (k38 : PySem.W.keepIn K (.ref f38) = true)
    (a39 : PySem.W.findIn K (.ref C1) "carried_out" = some (some (.ref f39)))
    (i39 : PySem.W.isFn K (.ref f39) = true)
    (l39 : K.lookup f39 = some ⟨oc39, od39, .func (PySem.W.fnOf "carried_out" "Spread.carried_out" (defArgs (inClass (top 43) 9)) (defBody (inClass (top 43) 9)) (defScope (inClass (top 43) 9)) .none kV39 dc39 pm39 an39 cd39 ct39), sl39⟩)
    (c39 : PySem.W.codeIn K cd39 "Spread.carried_out" = true)
    (k39 : PySem.W.keepIn K (.ref f39) = true)
    (a40 : PySem.W.findIn K (.ref C1) "needs" = some (some (.ref f40)))
    (i40 : PySem.W.isFn K (.ref f40) = true)
    (l40 : K.lookup f40 = some ⟨oc40, od40, .func (PySem.W.fnOf "needs" "Spread.needs" (defArgs (inClass (top 43) 10)) (defBody (inClass (top 43) 10)) (defScope (inClass (top 43) 10)) .none kV40 dc40 pm40 an40 cd40 ct40), sl40⟩)
    (c40 : PySem.W.codeIn K cd40 "Spread.needs" = true)
    (k40 : PySem.W.keepIn K (.ref f40) = true)
    (a41 : PySem.W.findIn K (.ref C1) "told" = some (some (.ref f41)))
    (i41 : PySem.W.isFn K (.ref f41) = true)
    (l41 : K.lookup f41 = some ⟨oc41, od41, .func (PySem.W.fnOf "told" "Spread.told" (defArgs (inClass (top 43) 11)) (defBody (inClass (top 43) 11)) (defScope (inClass (top 43) 11)) .none kV41 dc41 pm41 an41 cd41 ct41), sl41⟩)
    (c41 : PySem.W.codeIn K cd41 "Spread.told" = true)
    (k41 : PySem.W.keepIn K (.ref f41) = true)
    (a42 : PySem.W.nsIn K mainGlobals "run_spread" = some (some (.ref f42)))
    (l42 : K.lookup f42 = some ⟨oc42, od42, .func (PySem.W.fnOf "run_spread" "run_spread" (defArgs (top 44)) (defBody (top 44)) (defScope (top 44)) .none kV42 dc42 pm42 an42 cd42 ct42), sl42⟩)
    (c42 : PySem.W.codeIn K cd42 "run_spread" = true)
    (k42 : PySem.W.keepIn K (.ref f42) = true)
    (a43 : PySem.W.nsIn K mainGlobals "instants_of" = some (some (.ref f43)))
    (l43 : K.lookup f43 = some ⟨oc43, od43, .func (PySem.W.fnOf "instants_of" "instants_of" (defArgs (top 48)) (defBody (top 48)) (defScope (top 48)) .none kV43 dc43 pm43 an43 cd43 ct43), sl43⟩)
    (c43 : PySem.W.codeIn K cd43 "instants_of" = true)
    (k43 : PySem.W.keepIn K (.ref f43) = true)
    (a44 : PySem.W.findIn K (.ref C2) "__init__" = some (some (.ref f44)))
    (i44 : PySem.W.isFn K (.ref f44) = true)
    (l44 : K.lookup f44 = some ⟨oc44, od44, .func (PySem.W.fnOf "__init__" "Exploring.__init__" (defArgs (inClass (top 49) 0)) (defBody (inClass (top 49) 0)) (defScope (inClass (top 49) 0)) .none kV44 dc44 pm44 an44 cd44 ct44), sl44⟩)
    (c44 : PySem.W.codeIn K cd44 "Exploring.__init__" = true)
    (k44 : PySem.W.keepIn K (.ref f44) = true)
    (a45 : PySem.W.findIn K (.ref C2) "explore" = some (some (.ref f45)))
    (i45 : PySem.W.isFn K (.ref f45) = true)
    (l45 : K.lookup f45 = some ⟨oc45, od45, .func (PySem.W.fnOf "explore" "Exploring.explore" (defArgs (inClass (top 49) 1)) (defBody (inClass (top 49) 1)) (defScope (inClass (top 49) 1)) .none kV45 dc45 pm45 an45 cd45 ct45), sl45⟩)
    (c45 : PySem.W.codeIn K cd45 "Exploring.explore" = true)
    (k45 : PySem.W.keepIn K (.ref f45) = true)
    (a46 : PySem.W.findIn K (.ref C2) "number" = some (some (.ref f46)))
    (i46 : PySem.W.isFn K (.ref f46) = true)
    (l46 : K.lookup f46 = some ⟨oc46, od46, .func (PySem.W.fnOf "number" "Exploring.number" (defArgs (inClass (top 49) 2)) (defBody (inClass (top 49) 2)) (defScope (inClass (top 49) 2)) .none kV46 dc46 pm46 an46 cd46 ct46), sl46⟩)
    (c46 : PySem.W.codeIn K cd46 "Exploring.number" = true)
    (k46 : PySem.W.keepIn K (.ref f46) = true)
    (a47 : PySem.W.nsIn K mainGlobals "explored" = some (some (.ref f47)))
    (l47 : K.lookup f47 = some ⟨oc47, od47, .func (PySem.W.fnOf "explored" "explored" (defArgs (top 50)) (defBody (top 50)) (defScope (top 50)) .none kV47 dc47 pm47 an47 cd47 ct47), sl47⟩)
    (c47 : PySem.W.codeIn K cd47 "explored" = true)
    (k47 : PySem.W.keepIn K (.ref f47) = true)
    (a48 : PySem.W.nsIn K mainGlobals "apart_paper" = some (some (.ref f48)))
    (l48 : K.lookup f48 = some ⟨oc48, od48, .func (PySem.W.fnOf "apart_paper" "apart_paper" (defArgs (top 51)) (defBody (top 51)) (defScope (top 51)) .none kV48 dc48 pm48 an48 cd48 ct48), sl48⟩)
    (c48 : PySem.W.codeIn K cd48 "apart_paper" = true)
    (k48 : PySem.W.keepIn K (.ref f48) = true)
    (a49 : PySem.W.nsIn K mainGlobals "place_of" = some (some (.ref f49)))
    (l49 : K.lookup f49 = some ⟨oc49, od49, .func (PySem.W.fnOf "place_of" "place_of" (defArgs (top 53)) (defBody (top 53)) (defScope (top 53)) .none kV49 dc49 pm49 an49 cd49 ct49), sl49⟩)
    (c49 : PySem.W.codeIn K cd49 "place_of" = true)
    (k49 : PySem.W.keepIn K (.ref f49) = true)
    (a50 : PySem.W.nsIn K mainGlobals "first_row" = some (some (.ref f50)))
    (l50 : K.lookup f50 = some ⟨oc50, od50, .func (PySem.W.fnOf "first_row" "first_row" (defArgs (top 54)) (defBody (top 54)) (defScope (top 54)) .none kV50 dc50 pm50 an50 cd50 ct50), sl50⟩)
    (c50 : PySem.W.codeIn K cd50 "first_row" = true)
    (k50 : PySem.W.keepIn K (.ref f50) = true)
    (a51 : PySem.W.nsIn K mainGlobals "row_to" = some (some (.ref f51)))
    (l51 : K.lookup f51 = some ⟨oc51, od51, .func (PySem.W.fnOf "row_to" "row_to" (defArgs (top 55)) (defBody (top 55)) (defScope (top 55)) .none kV51 dc51 pm51 an51 cd51 ct51), sl51⟩)
    (c51 : PySem.W.codeIn K cd51 "row_to" = true)
    (k51 : PySem.W.keepIn K (.ref f51) = true)
    (a52 : PySem.W.nsIn K mainGlobals "needed_of" = some (some (.ref f52)))
    (l52 : K.lookup f52 = some ⟨oc52, od52, .func (PySem.W.fnOf "needed_of" "needed_of" (defArgs (top 57)) (defBody (top 57)) (defScope (top 57)) .none kV52 dc52 pm52 an52 cd52 ct52), sl52⟩)
    (c52 : PySem.W.codeIn K cd52 "needed_of" = true)
    (k52 : PySem.W.keepIn K (.ref f52) = true)
    (a53 : PySem.W.nsIn K mainGlobals "slice_of" = some (some (.ref f53)))
    (l53 : K.lookup f53 = some ⟨oc53, od53, .func (PySem.W.fnOf "slice_of" "slice_of" (defArgs (top 58)) (defBody (top 58)) (defScope (top 58)) .none kV53 dc53 pm53 an53 cd53 ct53), sl53⟩)
    (c53 : PySem.W.codeIn K cd53 "slice_of" = true)
    (k53 : PySem.W.keepIn K (.ref f53) = true)
    (a54 : PySem.W.nsIn K mainGlobals "reached_nodes" = some (some (.ref f54)))
    (l54 : K.lookup f54 = some ⟨oc54, od54, .func (PySem.W.fnOf "reached_nodes" "reached_nodes" (defArgs (top 59)) (defBody (top 59)) (defScope (top 59)) .none kV54 dc54 pm54 an54 cd54 ct54), sl54⟩)
    (c54 : PySem.W.codeIn K cd54 "reached_nodes" = true)
    (k54 : PySem.W.keepIn K (.ref f54) = true)
    (a55 : PySem.W.nsIn K mainGlobals "_law_cell" = some (some (.ref f55)))
    (l55 : K.lookup f55 = some ⟨oc55, od55, .func (PySem.W.fnOf "_law_cell" "_law_cell" (defArgs (top 61)) (defBody (top 61)) (defScope (top 61)) .none kV55 dc55 pm55 an55 cd55 ct55), sl55⟩)
    (c55 : PySem.W.codeIn K cd55 "_law_cell" = true)
    (k55 : PySem.W.keepIn K (.ref f55) = true)
    (a56 : PySem.W.nsIn K mainGlobals "_law_numbers" = some (some (.ref f56)))
    (l56 : K.lookup f56 = some ⟨oc56, od56, .func (PySem.W.fnOf "_law_numbers" "_law_numbers" (defArgs (top 62)) (defBody (top 62)) (defScope (top 62)) .none kV56 dc56 pm56 an56 cd56 ct56), sl56⟩)
    (c56 : PySem.W.codeIn K cd56 "_law_numbers" = true)
    (k56 : PySem.W.keepIn K (.ref f56) = true)
    (a57 : PySem.W.nsIn K mainGlobals "_law_pool" = some (some (.ref f57)))
    (l57 : K.lookup f57 = some ⟨oc57, od57, .func (PySem.W.fnOf "_law_pool" "_law_pool" (defArgs (top 63)) (defBody (top 63)) (defScope (top 63)) .none kV57 dc57 pm57 an57 cd57 ct57), sl57⟩)
    (c57 : PySem.W.codeIn K cd57 "_law_pool" = true)
    (k57 : PySem.W.keepIn K (.ref f57) = true)
    (a58 : PySem.W.nsIn K mainGlobals "_law_draw" = some (some (.ref f58)))
    (l58 : K.lookup f58 = some ⟨oc58, od58, .func (PySem.W.fnOf "_law_draw" "_law_draw" (defArgs (top 64)) (defBody (top 64)) (defScope (top 64)) .none kV58 dc58 pm58 an58 cd58 ct58), sl58⟩)
    (c58 : PySem.W.codeIn K cd58 "_law_draw" = true)
    (k58 : PySem.W.keepIn K (.ref f58) = true)
    (a59 : PySem.W.nsIn K mainGlobals "_law_kinds_of" = some (some (.ref f59)))
    (l59 : K.lookup f59 = some ⟨oc59, od59, .func (PySem.W.fnOf "_law_kinds_of" "_law_kinds_of" (defArgs (top 65)) (defBody (top 65)) (defScope (top 65)) .none kV59 dc59 pm59 an59 cd59 ct59), sl59⟩)
    (c59 : PySem.W.codeIn K cd59 "_law_kinds_of" = true)
    (k59 : PySem.W.keepIn K (.ref f59) = true)
    (a60 : PySem.W.nsIn K mainGlobals "_law_do" = some (some (.ref f60)))
    (l60 : K.lookup f60 = some ⟨oc60, od60, .func (PySem.W.fnOf "_law_do" "_law_do" (defArgs (top 66)) (defBody (top 66)) (defScope (top 66)) .none kV60 dc60 pm60 an60 cd60 ct60), sl60⟩)
    (c60 : PySem.W.codeIn K cd60 "_law_do" = true)
    (k60 : PySem.W.keepIn K (.ref f60) = true)
    (a61 : PySem.W.nsIn K mainGlobals "law" = some (some (.ref f61)))
    (l61 : K.lookup f61 = some ⟨oc61, od61, .func (PySem.W.fnOf "law" "law" (defArgs (top 67)) (defBody (top 67)) (defScope (top 67)) .none kV61 dc61 pm61 an61 cd61 ct61), sl61⟩)
    (c61 : PySem.W.codeIn K cd61 "law" = true)
    (k61 : PySem.W.keepIn K (.ref f61) = true)
    (pg0 : PySem.W.plainGet K C0 Str.empty = true)
    (hd0 : PySem.W.hasDictIn K C0 = true)
    (po0 : PySem.W.plainOver K C0 = true)
    (sa0 : PySem.W.findIn K (.ref C0) "__setattr__" = some (some (.builtin "object.__setattr__")))
    (mk0 : PySem.W.makesIn K C0 = true)
    (kc0 : PySem.W.keepIn K (.ref C0) = true)
    (pg1 : PySem.W.plainGet K C1 Str.empty = true)
    (hd1 : PySem.W.hasDictIn K C1 = true)
    (po1 : PySem.W.plainOver K C1 = true)
    (sa1 : PySem.W.findIn K (.ref C1) "__setattr__" = some (some (.builtin "object.__setattr__")))
    (mk1 : PySem.W.makesIn K C1 = true)
    (kc1 : PySem.W.keepIn K (.ref C1) = true)
    (pg2 : PySem.W.plainGet K C2 Str.empty = true)
    (hd2 : PySem.W.hasDictIn K C2 = true)
    (po2 : PySem.W.plainOver K C2 = true)
    (sa2 : PySem.W.findIn K (.ref C2) "__setattr__" = some (some (.builtin "object.__setattr__")))
    (mk2 : PySem.W.makesIn K C2 = true)
    (kc2 : PySem.W.keepIn K (.ref C2) = true)
    (n_lines_0 : PySem.W.findIn K (.ref C0) "lines" = some none)
    (n_at_0 : PySem.W.findIn K (.ref C0) "at" = some none)
    (n_at_1 : PySem.W.findIn K (.ref C1) "at" = some none)
    (n_instant_0 : PySem.W.findIn K (.ref C0) "instant" = some none)
    (n_instant_1 : PySem.W.findIn K (.ref C1) "instant" = some none)
    (n_now_0 : PySem.W.findIn K (.ref C0) "now" = some none)
    (n_now_1 : PySem.W.findIn K (.ref C1) "now" = some none)
    (n_held_0 : PySem.W.findIn K (.ref C0) "held" = some none)
    (n_node_1 : PySem.W.findIn K (.ref C1) "node" = some none)
    (n_table_1 : PySem.W.findIn K (.ref C1) "table" = some none)
    (n_by_name_1 : PySem.W.findIn K (.ref C1) "by_name" = some none)
    (n_home_1 : PySem.W.findIn K (.ref C1) "home" = some none)
    (n_rows_1 : PySem.W.findIn K (.ref C1) "rows" = some none)
    (n_rows_2 : PySem.W.findIn K (.ref C2) "rows" = some none)
    (n_room_1 : PySem.W.findIn K (.ref C1) "room" = some none)
    (n_letters_1 : PySem.W.findIn K (.ref C1) "letters" = some none)
    (n_most_1 : PySem.W.findIn K (.ref C1) "most" = some none)
    (n_outputs_1 : PySem.W.findIn K (.ref C1) "outputs" = some none)
    (n_places_1 : PySem.W.findIn K (.ref C1) "places" = some none)
    (n_wanted_1 : PySem.W.findIn K (.ref C1) "wanted" = some none)
    (n_program_2 : PySem.W.findIn K (.ref C2) "program" = some none)
    (n_instants_2 : PySem.W.findIn K (.ref C2) "instants" = some none)
    (n_numbers_2 : PySem.W.findIn K (.ref C2) "numbers" = some none)
    (n_order_2 : PySem.W.findIn K (.ref C2) "order" = some none)
    (n_ways_2 : PySem.W.findIn K (.ref C2) "ways" = some none)
    (z_len : PySem.W.nsIn K mainGlobals "len" = some none)
    (z_str : PySem.W.nsIn K mainGlobals "str" = some none)
    (z_int : PySem.W.nsIn K mainGlobals "int" = some none)
    (z_abs : PySem.W.nsIn K mainGlobals "abs" = some none)
    (z_max : PySem.W.nsIn K mainGlobals "max" = some none)
    (z_min : PySem.W.nsIn K mainGlobals "min" = some none)
    (z_tuple : PySem.W.nsIn K mainGlobals "tuple" = some none)
    (z_list : PySem.W.nsIn K mainGlobals "list" = some none)
    (z_all : PySem.W.nsIn K mainGlobals "all" = some none)
    (z_any : PySem.W.nsIn K mainGlobals "any" = some none)
    (z_sorted : PySem.W.nsIn K mainGlobals "sorted" = some none)
    (z_isinstance : PySem.W.nsIn K mainGlobals "isinstance" = some none)
    (z_bool : PySem.W.nsIn K mainGlobals "bool" = some none)
    (z_dict : PySem.W.nsIn K mainGlobals "dict" = some none)
    (z_range : PySem.W.nsIn K mainGlobals "range" = some none)
    (z_enumerate : PySem.W.nsIn K mainGlobals "enumerate" = some none)
    (z_zip : PySem.W.nsIn K mainGlobals "zip" = some none)
    (g_BOOL : PySem.W.nsIn K mainGlobals "BOOL" = some (some (.ref a_BOOL)))
    (h_BOOL : K.lookup a_BOOL = some ⟨.type "tuple", d_BOOL, .seq #[.str ⟨([98, 111, 111, 108] : List Nat).toArray⟩ tk_BOOL] n_BOOL, sl_BOOL⟩)
    (g_MOST_PLACES : PySem.W.nsIn K mainGlobals "MOST_PLACES" = some (some (.int 4 tk_MOST_PLACES)))
    (g_MOST_ROOM : PySem.W.nsIn K mainGlobals "MOST_ROOM" = some (some (.int 9 tk_MOST_ROOM)))
    (g_MOST_STATES : PySem.W.nsIn K mainGlobals "MOST_STATES" = some (some (.int 300 tk_MOST_STATES)))
    (g_MOST_INSTANTS : PySem.W.nsIn K mainGlobals "MOST_INSTANTS" = some (some (.int 64 tk_MOST_INSTANTS)))
    (xg0 : PySem.W.nsIn K mainGlobals "NotFitting" = some (some (.ref X0)))
    (xx0 : PySem.W.excIn K X0 [.type "ValueError", .type "Exception", .type "BaseException", .type "object"] "ValueError.__new__" = true)
    (xk0 : PySem.W.keepIn K (.ref X0) = true)
    (xb0 : PySem.W.subIn K (.ref X0) (.type "BaseException") = some true)
    (xt0 : PySem.W.typeIn K (.ref X0) = some (.type "type"))
    (xi0 : PySem.W.isClsIn K X0 = true)
    (xs0 : PySem.W.subIn K (.ref X0) (.ref X0) = some true)
    (xg1 : PySem.W.nsIn K mainGlobals "LowError" = some (some (.ref X1)))
    (xx1 : PySem.W.excIn K X1 [.type "ValueError", .type "Exception", .type "BaseException", .type "object"] "ValueError.__new__" = true)
    (xk1 : PySem.W.keepIn K (.ref X1) = true)
    (xb1 : PySem.W.subIn K (.ref X1) (.type "BaseException") = some true)
    (xt1 : PySem.W.typeIn K (.ref X1) = some (.type "type"))
    (xi1 : PySem.W.isClsIn K X1 = true)
    (xs1 : PySem.W.subIn K (.ref X1) (.ref X1) = some true)
    (xg2 : PySem.W.nsIn K mainGlobals "Blocked" = some (some (.ref X2)))
    (xx2 : PySem.W.excIn K X2 [.type "ValueError", .type "Exception", .type "BaseException", .type "object"] "ValueError.__new__" = true)
    (xk2 : PySem.W.keepIn K (.ref X2) = true)
    (xb2 : PySem.W.subIn K (.ref X2) (.type "BaseException") = some true)
    (xt2 : PySem.W.typeIn K (.ref X2) = some (.type "type"))
    (xi2 : PySem.W.isClsIn K X2 = true)
    (xs2 : PySem.W.subIn K (.ref X2) (.ref X2) = some true)
    (xg3 : PySem.W.nsIn K mainGlobals "TooMany" = some (some (.ref X3)))
    (xx3 : PySem.W.excIn K X3 [.type "ValueError", .type "Exception", .type "BaseException", .type "object"] "ValueError.__new__" = true)
    (xk3 : PySem.W.keepIn K (.ref X3) = true)
    (xb3 : PySem.W.subIn K (.ref X3) (.type "BaseException") = some true)
    (xt3 : PySem.W.typeIn K (.ref X3) = some (.type "type"))
    (xi3 : PySem.W.isClsIn K X3 = true)
    (xs3 : PySem.W.subIn K (.ref X3) (.ref X3) = some true)
    (xu_Blocked_LowError : PySem.W.subIn K (.ref X2) (.ref X1) = some true)
    (xu_Blocked_NotFitting : PySem.W.subIn K (.ref X2) (.ref X0) = some false)
    (xu_Blocked_TooMany : PySem.W.subIn K (.ref X2) (.ref X3) = some false)
    (xu_NotFitting_Blocked : PySem.W.subIn K (.ref X0) (.ref X2) = some false)
    (xu_NotFitting_LowError : PySem.W.subIn K (.ref X0) (.ref X1) = some true)
    (xu_NotFitting_TooMany : PySem.W.subIn K (.ref X0) (.ref X3) = some false)
    (xu_TooMany_Blocked : PySem.W.subIn K (.ref X3) (.ref X2) = some false)
    (xu_TooMany_LowError : PySem.W.subIn K (.ref X3) (.ref X1) = some true)
    (xu_TooMany_NotFitting : PySem.W.subIn K (.ref X3) (.ref X0) = some false)
    (z_ValueError : PySem.W.nsIn K mainGlobals "ValueError" = some none)
    (xv_NotFitting_ValueError : PySem.W.subIn K (.ref X0) (.type "ValueError") = some true)
    (xv_Blocked_ValueError : PySem.W.subIn K (.ref X2) (.type "ValueError") = some true)
    (xv_TooMany_ValueError : PySem.W.subIn K (.ref X3) (.type "ValueError") = some true)
    (yn : PySem.W.specialIn K (.builtin "object.__class__") "__get__" = some (some (.builtin "getset_descriptor.__get__")))
    (yt : PySem.W.takesIn K (.builtin "object.__class__") = some true)
    (yg0 : PySem.W.findIn K (.ref X0) "__getattribute__" = some (some (.builtin "BaseException.__getattribute__")))
    (yk0 : PySem.W.findIn K (.ref X0) "__getattr__" = some none)
    (yd0 : PySem.W.hasDictIn K X0 = true)
    (ya0 : PySem.W.findIn K (.ref X0) "__class__" = some (some (.builtin "object.__class__")))
    (ym0 : PySem.W.mroIn K X0 (.type "object") = some true)
    (yg2 : PySem.W.findIn K (.ref X2) "__getattribute__" = some (some (.builtin "BaseException.__getattribute__")))
    (yk2 : PySem.W.findIn K (.ref X2) "__getattr__" = some none)
    (yd2 : PySem.W.hasDictIn K X2 = true)
    (ya2 : PySem.W.findIn K (.ref X2) "__class__" = some (some (.builtin "object.__class__")))
    (ym2 : PySem.W.mroIn K X2 (.type "object") = some true)
    (yg3 : PySem.W.findIn K (.ref X3) "__getattribute__" = some (some (.builtin "BaseException.__getattribute__")))
    (yk3 : PySem.W.findIn K (.ref X3) "__getattr__" = some none)
    (yd3 : PySem.W.hasDictIn K X3 = true)
    (ya3 : PySem.W.findIn K (.ref X3) "__class__" = some (some (.builtin "object.__class__")))
    (ym3 : PySem.W.mroIn K X3 (.type "object") = some true)
    (wg_OPS : PySem.W.nsIn K mainGlobals "OPS" = some (some (.ref aw_OPS)))
    (wl_OPS : K.lookup aw_OPS = some ⟨.type "dict", none, .dict es_OPS nw_OPS, #[]⟩)
    (wk_OPS : PySem.W.KeysLit w.params es_OPS.toList)
    (wv_OPS_0 : PySem.W.nsIn K aw_OPS "value" = some (some (.str ⟨([118] : List Nat).toArray⟩ tw_OPS_0)))
    (wv_OPS_1 : PySem.W.nsIn K aw_OPS "copy" = some (some (.str ⟨([110] : List Nat).toArray⟩ tw_OPS_1)))
    (wv_OPS_2 : PySem.W.nsIn K aw_OPS "math" = some (some (.str ⟨([119, 110, 110] : List Nat).toArray⟩ tw_OPS_2)))
    (wv_OPS_3 : PySem.W.nsIn K aw_OPS "not" = some (some (.str ⟨([110] : List Nat).toArray⟩ tw_OPS_3)))
    (wv_OPS_4 : PySem.W.nsIn K aw_OPS "choose" = some (some (.str ⟨([110, 110, 110] : List Nat).toArray⟩ tw_OPS_4)))
    (wv_OPS_5 : PySem.W.nsIn K aw_OPS "when" = some (some (.str ⟨([110] : List Nat).toArray⟩ tw_OPS_5)))
    (wv_OPS_6 : PySem.W.nsIn K aw_OPS "merge" = some (some (.str ⟨([110, 110, 110] : List Nat).toArray⟩ tw_OPS_6))) :
    ∃ (K : PySem.W.Frag) (T : Txt) (fa : Nat → Addr) (fd : Nat → FuncData), K.In h ∧ fa 61 = f ∧ (∀ (s : Shared) (u : Value), BindsTo s (fd 61) ⟨[u], []⟩ [("script", u)]) ∧ Prog S D w K mg T fa fd := by
  have e := hf.symm.trans (PySem.W.mg_of X G a61)
  have hff : f61 = f := by cases e; rfl
  let l : List (Addr × FuncData) := [(f0, PySem.W.fnOf "is_integer" "is_integer" (defArgs (top 6)) (defBody (top 6)) (defScope (top 6)) .none kV0 dc0 pm0 an0 cd0 ct0), (f1, PySem.W.fnOf "is_number" "is_number" (defArgs (top 7)) (defBody (top 7)) (defScope (top 7)) .none kV1 dc1 pm1 an1 cd1 ct1), (f2, PySem.W.fnOf "is_tuple" "is_tuple" (defArgs (top 8)) (defBody (top 8)) (defScope (top 8)) .none kV2 dc2 pm2 an2 cd2 ct2), (f3, PySem.W.fnOf "size_of" "size_of" (defArgs (top 12)) (defBody (top 12)) (defScope (top 12)) .none kV3 dc3 pm3 an3 cd3 ct3), (f4, PySem.W.fnOf "table_of" "table_of" (defArgs (top 13)) (defBody (top 13)) (defScope (top 13)) .none kV4 dc4 pm4 an4 cd4 ct4), (f5, PySem.W.fnOf "given_by" "given_by" (defArgs (top 14)) (defBody (top 14)) (defScope (top 14)) .none kV5 dc5 pm5 an5 cd5 ct5), (f6, PySem.W.fnOf "read_by_op" "read_by_op" (defArgs (top 15)) (defBody (top 15)) (defScope (top 15)) .none kV6 dc6 pm6 an6 cd6 ct6), (f7, PySem.W.fnOf "read_by" "read_by" (defArgs (top 16)) (defBody (top 16)) (defScope (top 16)) .none kV7 dc7 pm7 an7 cd7 ct7), (f8, PySem.W.fnOf "clock_of" "clock_of" (defArgs (top 17)) (defBody (top 17)) (defScope (top 17)) .none kV8 dc8 pm8 an8 cd8 ct8), (f9, PySem.W.fnOf "clock_names" "clock_names" (defArgs (top 18)) (defBody (top 18)) (defScope (top 18)) .none kV9 dc9 pm9 an9 cd9 ct9), (f10, PySem.W.fnOf "kept_by" "kept_by" (defArgs (top 19)) (defBody (top 19)) (defScope (top 19)) .none kV10 dc10 pm10 an10 cd10 ct10), (f11, PySem.W.fnOf "calls_of" "calls_of" (defArgs (top 20)) (defBody (top 20)) (defScope (top 20)) .none kV11 dc11 pm11 an11 cd11 ct11), (f12, PySem.W.fnOf "nodes_of" "nodes_of" (defArgs (top 21)) (defBody (top 21)) (defScope (top 21)) .none kV12 dc12 pm12 an12 cd12 ct12), (f13, PySem.W.fnOf "calculated" "calculated" (defArgs (top 23)) (defBody (top 23)) (defScope (top 23)) .none kV13 dc13 pm13 an13 cd13 ct13), (f14, PySem.W.fnOf "reckoned" "reckoned" (defArgs (top 24)) (defBody (top 24)) (defScope (top 24)) .none kV14 dc14 pm14 an14 cd14 ct14), (f15, PySem.W.fnOf "is_there" "is_there" (defArgs (top 25)) (defBody (top 25)) (defScope (top 25)) .none kV15 dc15 pm15 an15 cd15 ct15), (f16, PySem.W.fnOf "first_of" "first_of" (defArgs (top 26)) (defBody (top 26)) (defScope (top 26)) .none kV16 dc16 pm16 an16 cd16 ct16), (f17, PySem.W.fnOf "first_memory" "first_memory" (defArgs (top 27)) (defBody (top 27)) (defScope (top 27)) .none kV17 dc17 pm17 an17 cd17 ct17), (f18, PySem.W.fnOf "op_value" "op_value" (defArgs (top 28)) (defBody (top 28)) (defScope (top 28)) .none kV18 dc18 pm18 an18 cd18 ct18), (f19, PySem.W.fnOf "names_read" "names_read" (defArgs (top 29)) (defBody (top 29)) (defScope (top 29)) .none kV19 dc19 pm19 an19 cd19 ct19), (f20, PySem.W.fnOf "node_step" "node_step" (defArgs (top 30)) (defBody (top 30)) (defScope (top 30)) .none kV20 dc20 pm20 an20 cd20 ct20), (f21, PySem.W.fnOf "instance_step" "instance_step" (defArgs (top 31)) (defBody (top 31)) (defScope (top 31)) .none kV21 dc21 pm21 an21 cd21 ct21), (f22, PySem.W.fnOf "stepped" "stepped" (defArgs (top 32)) (defBody (top 32)) (defScope (top 32)) .none kV22 dc22 pm22 an22 cd22 ct22), (f23, PySem.W.fnOf "flat_of" "flat_of" (defArgs (top 33)) (defBody (top 33)) (defScope (top 33)) .none kV23 dc23 pm23 an23 cd23 ct23), (f24, PySem.W.fnOf "shaped" "shaped" (defArgs (top 34)) (defBody (top 34)) (defScope (top 34)) .none kV24 dc24 pm24 an24 cd24 ct24), (f25, PySem.W.fnOf "memory_from" "memory_from" (defArgs (top 35)) (defBody (top 35)) (defScope (top 35)) .none kV25 dc25 pm25 an25 cd25 ct25), (f26, PySem.W.fnOf "lines_in_order" "lines_in_order" (defArgs (top 39)) (defBody (top 39)) (defScope (top 39)) .none kV26 dc26 pm26 an26 cd26 ct26), (f27, PySem.W.fnOf "recalls_of" "recalls_of" (defArgs (top 40)) (defBody (top 40)) (defScope (top 40)) .none kV27 dc27 pm27 an27 cd27 ct27), (f28, PySem.W.fnOf "are_places" "are_places" (defArgs (top 41)) (defBody (top 41)) (defScope (top 41)) .none kV28 dc28 pm28 an28 cd28 ct28), (f29, PySem.W.fnOf "__init__" "Place.__init__" (defArgs (inClass (top 42) 0)) (defBody (inClass (top 42) 0)) (defScope (inClass (top 42) 0)) .none kV29 dc29 pm29 an29 cd29 ct29), (f30, PySem.W.fnOf "__init__" "Spread.__init__" (defArgs (inClass (top 43) 0)) (defBody (inClass (top 43) 0)) (defScope (inClass (top 43) 0)) .none kV30 dc30 pm30 an30 cd30 ct30), (f31, PySem.W.fnOf "readers" "Spread.readers" (defArgs (inClass (top 43) 1)) (defBody (inClass (top 43) 1)) (defScope (inClass (top 43) 1)) .none kV31 dc31 pm31 an31 cd31 ct31), (f32, PySem.W.fnOf "reads" "Spread.reads" (defArgs (inClass (top 43) 2)) (defBody (inClass (top 43) 2)) (defScope (inClass (top 43) 2)) .none kV32 dc32 pm32 an32 cd32 ct32), (f33, PySem.W.fnOf "is_over" "Spread.is_over" (defArgs (inClass (top 43) 3)) (defBody (inClass (top 43) 3)) (defScope (inClass (top 43) 3)) .none kV33 dc33 pm33 an33 cd33 ct33), (f34, PySem.W.fnOf "value" "Spread.value" (defArgs (inClass (top 43) 4)) (defBody (inClass (top 43) 4)) (defScope (inClass (top 43) 4)) .none kV34 dc34 pm34 an34 cd34 ct34), (f35, PySem.W.fnOf "clock_state" "Spread.clock_state" (defArgs (inClass (top 43) 5)) (defBody (inClass (top 43) 5)) (defScope (inClass (top 43) 5)) .none kV35 dc35 pm35 an35 cd35 ct35), (f36, PySem.W.fnOf "can_send" "Spread.can_send" (defArgs (inClass (top 43) 6)) (defBody (inClass (top 43) 6)) (defScope (inClass (top 43) 6)) .none kV36 dc36 pm36 an36 cd36 ct36), (f37, PySem.W.fnOf "send" "Spread.send" (defArgs (inClass (top 43) 7)) (defBody (inClass (top 43) 7)) (defScope (inClass (top 43) 7)) .none kV37 dc37 pm37 an37 cd37 ct37), (f38, PySem.W.fnOf "turn" "Spread.turn" (defArgs (inClass (top 43) 8)) (defBody (inClass (top 43) 8)) (defScope (inClass (top 43) 8)) .none kV38 dc38 pm38 an38 cd38 ct38), (f39, PySem.W.fnOf "carried_out" "Spread.carried_out" (defArgs (inClass (top 43) 9)) (defBody (inClass (top 43) 9)) (defScope (inClass (top 43) 9)) .none kV39 dc39 pm39 an39 cd39 ct39), (f40, PySem.W.fnOf "needs" "Spread.needs" (defArgs (inClass (top 43) 10)) (defBody (inClass (top 43) 10)) (defScope (inClass (top 43) 10)) .none kV40 dc40 pm40 an40 cd40 ct40), (f41, PySem.W.fnOf "told" "Spread.told" (defArgs (inClass (top 43) 11)) (defBody (inClass (top 43) 11)) (defScope (inClass (top 43) 11)) .none kV41 dc41 pm41 an41 cd41 ct41), (f42, PySem.W.fnOf "run_spread" "run_spread" (defArgs (top 44)) (defBody (top 44)) (defScope (top 44)) .none kV42 dc42 pm42 an42 cd42 ct42), (f43, PySem.W.fnOf "instants_of" "instants_of" (defArgs (top 48)) (defBody (top 48)) (defScope (top 48)) .none kV43 dc43 pm43 an43 cd43 ct43), (f44, PySem.W.fnOf "__init__" "Exploring.__init__" (defArgs (inClass (top 49) 0)) (defBody (inClass (top 49) 0)) (defScope (inClass (top 49) 0)) .none kV44 dc44 pm44 an44 cd44 ct44), (f45, PySem.W.fnOf "explore" "Exploring.explore" (defArgs (inClass (top 49) 1)) (defBody (inClass (top 49) 1)) (defScope (inClass (top 49) 1)) .none kV45 dc45 pm45 an45 cd45 ct45), (f46, PySem.W.fnOf "number" "Exploring.number" (defArgs (inClass (top 49) 2)) (defBody (inClass (top 49) 2)) (defScope (inClass (top 49) 2)) .none kV46 dc46 pm46 an46 cd46 ct46), (f47, PySem.W.fnOf "explored" "explored" (defArgs (top 50)) (defBody (top 50)) (defScope (top 50)) .none kV47 dc47 pm47 an47 cd47 ct47), (f48, PySem.W.fnOf "apart_paper" "apart_paper" (defArgs (top 51)) (defBody (top 51)) (defScope (top 51)) .none kV48 dc48 pm48 an48 cd48 ct48), (f49, PySem.W.fnOf "place_of" "place_of" (defArgs (top 53)) (defBody (top 53)) (defScope (top 53)) .none kV49 dc49 pm49 an49 cd49 ct49), (f50, PySem.W.fnOf "first_row" "first_row" (defArgs (top 54)) (defBody (top 54)) (defScope (top 54)) .none kV50 dc50 pm50 an50 cd50 ct50), (f51, PySem.W.fnOf "row_to" "row_to" (defArgs (top 55)) (defBody (top 55)) (defScope (top 55)) .none kV51 dc51 pm51 an51 cd51 ct51), (f52, PySem.W.fnOf "needed_of" "needed_of" (defArgs (top 57)) (defBody (top 57)) (defScope (top 57)) .none kV52 dc52 pm52 an52 cd52 ct52), (f53, PySem.W.fnOf "slice_of" "slice_of" (defArgs (top 58)) (defBody (top 58)) (defScope (top 58)) .none kV53 dc53 pm53 an53 cd53 ct53), (f54, PySem.W.fnOf "reached_nodes" "reached_nodes" (defArgs (top 59)) (defBody (top 59)) (defScope (top 59)) .none kV54 dc54 pm54 an54 cd54 ct54), (f55, PySem.W.fnOf "_law_cell" "_law_cell" (defArgs (top 61)) (defBody (top 61)) (defScope (top 61)) .none kV55 dc55 pm55 an55 cd55 ct55), (f56, PySem.W.fnOf "_law_numbers" "_law_numbers" (defArgs (top 62)) (defBody (top 62)) (defScope (top 62)) .none kV56 dc56 pm56 an56 cd56 ct56), (f57, PySem.W.fnOf "_law_pool" "_law_pool" (defArgs (top 63)) (defBody (top 63)) (defScope (top 63)) .none kV57 dc57 pm57 an57 cd57 ct57), (f58, PySem.W.fnOf "_law_draw" "_law_draw" (defArgs (top 64)) (defBody (top 64)) (defScope (top 64)) .none kV58 dc58 pm58 an58 cd58 ct58), (f59, PySem.W.fnOf "_law_kinds_of" "_law_kinds_of" (defArgs (top 65)) (defBody (top 65)) (defScope (top 65)) .none kV59 dc59 pm59 an59 cd59 ct59), (f60, PySem.W.fnOf "_law_do" "_law_do" (defArgs (top 66)) (defBody (top 66)) (defScope (top 66)) .none kV60 dc60 pm60 an60 cd60 ct60), (f61, PySem.W.fnOf "law" "law" (defArgs (top 67)) (defBody (top 67)) (defScope (top 67)) .none kV61 dc61 pm61 an61 cd61 ct61)]
  have F0 := fun_mk (st := top 6) l0 c0 k0
  have b0 := F0.binds (ps := ["value"]) fun _ _ _ _ _ _ us hl => match us, hl with | [_], _ => rfl
  have F1 := fun_mk (st := top 7) l1 c1 k1
  have b1 := F1.binds (ps := ["value", "low", "high"]) fun _ _ _ _ _ _ us hl => match us, hl with | [_, _, _], _ => rfl
  have F2 := fun_mk (st := top 8) l2 c2 k2
  have b2 := F2.binds (ps := ["value", "size"]) fun _ _ _ _ _ _ us hl => match us, hl with | [_, _], _ => rfl
  have F3 := fun_mk (st := top 12) l3 c3 k3
  have b3 := F3.binds (ps := ["kind"]) fun _ _ _ _ _ _ us hl => match us, hl with | [_], _ => rfl
  have F4 := fun_mk (st := top 13) l4 c4 k4
  have b4 := F4.binds (ps := ["node"]) fun _ _ _ _ _ _ us hl => match us, hl with | [_], _ => rfl
  have F5 := fun_mk (st := top 14) l5 c5 k5
  have b5 := F5.binds (ps := ["equation"]) fun _ _ _ _ _ _ us hl => match us, hl with | [_], _ => rfl
  have F6 := fun_mk (st := top 15) l6 c6 k6
  have b6 := F6.binds (ps := ["op"]) fun _ _ _ _ _ _ us hl => match us, hl with | [_], _ => rfl
  have F7 := fun_mk (st := top 16) l7 c7 k7
  have b7 := F7.binds (ps := ["equation"]) fun _ _ _ _ _ _ us hl => match us, hl with | [_], _ => rfl
  have F8 := fun_mk (st := top 17) l8 c8 k8
  have b8 := F8.binds (ps := ["node_table", "equation"]) fun _ _ _ _ _ _ us hl => match us, hl with | [_, _], _ => rfl
  have F9 := fun_mk (st := top 18) l9 c9 k9
  have b9 := F9.binds (ps := ["clock"]) fun _ _ _ _ _ _ us hl => match us, hl with | [_], _ => rfl
  have F10 := fun_mk (st := top 19) l10 c10 k10
  have b10 := F10.binds (ps := ["equation"]) fun _ _ _ _ _ _ us hl => match us, hl with | [_], _ => rfl
  have F11 := fun_mk (st := top 20) l11 c11 k11
  have b11 := F11.binds (ps := ["node"]) fun _ _ _ _ _ _ us hl => match us, hl with | [_], _ => rfl
  have F12 := fun_mk (st := top 21) l12 c12 k12
  have b12 := F12.binds (ps := ["program"]) fun _ _ _ _ _ _ us hl => match us, hl with | [_], _ => rfl
  have F13 := fun_mk (st := top 23) l13 c13 k13
  have b13 := F13.binds (ps := ["op", "kind", "values"]) fun _ _ _ _ _ _ us hl => match us, hl with | [_, _, _], _ => rfl
  have F14 := fun_mk (st := top 24) l14 c14 k14
  have b14 := F14.binds (ps := ["word", "size", "a", "b"]) fun _ _ _ _ _ _ us hl => match us, hl with | [_, _, _, _], _ => rfl
  have F15 := fun_mk (st := top 25) l15 c15 k15
  have b15 := F15.binds (ps := ["clock", "values"]) fun _ _ _ _ _ _ us hl => match us, hl with | [_, _], _ => rfl
  have F16 := fun_mk (st := top 26) l16 c16 k16
  have b16 := F16.binds (ps := ["nodes", "name"]) fun _ _ _ _ _ _ us hl => match us, hl with | [_, _], _ => rfl
  have F17 := fun_mk (st := top 27) l17 c17 k17
  have b17 := F17.binds (ps := ["program"]) fun _ _ _ _ _ _ us hl => match us, hl with | [_], _ => rfl
  have F18 := fun_mk (st := top 28) l18 c18 k18
  have b18 := F18.binds (ps := ["table", "values", "x", "op"]) fun _ _ _ _ _ _ us hl => match us, hl with | [_, _, _, _], _ => rfl
  have F19 := fun_mk (st := top 29) l19 c19 k19
  have b19 := F19.binds (ps := ["op"]) fun _ _ _ _ _ _ us hl => match us, hl with | [_], _ => rfl
  have F20 := fun_mk (st := top 30) l20 c20 k20
  have b20 := F20.binds (ps := ["nodes", "name", "memory", "instant"]) fun _ _ _ _ _ _ us hl => match us, hl with | [_, _, _, _], _ => rfl
  have F21 := fun_mk (st := top 31) l21 c21 k21
  have b21 := F21.binds (ps := ["nodes", "table", "values", "equation", "memory"]) fun _ _ _ _ _ _ us hl => match us, hl with | [_, _, _, _, _], _ => rfl
  have F22 := fun_mk (st := top 32) l22 c22 k22
  have b22 := F22.binds (ps := ["program", "memory", "instant"]) fun _ _ _ _ _ _ us hl => match us, hl with | [_, _, _], _ => rfl
  have F23 := fun_mk (st := top 33) l23 c23 k23
  have b23 := F23.binds (ps := ["memory"]) fun _ _ _ _ _ _ us hl => match us, hl with | [_], _ => rfl
  have F24 := fun_mk (st := top 34) l24 c24 k24
  have b24 := F24.binds (ps := ["memory", "flat"]) fun _ _ _ _ _ _ us hl => match us, hl with | [_, _], _ => rfl
  have F25 := fun_mk (st := top 35) l25 c25 k25
  have b25 := F25.binds (ps := ["program", "flat"]) fun _ _ _ _ _ _ us hl => match us, hl with | [_, _], _ => rfl
  have F26 := fun_mk (st := top 39) l26 c26 k26
  have b26 := F26.binds (ps := ["node"]) fun _ _ _ _ _ _ us hl => match us, hl with | [_], _ => rfl
  have F27 := fun_mk (st := top 40) l27 c27 k27
  have b27 := F27.binds (ps := ["table", "left", "names"]) fun _ _ _ _ _ _ us hl => match us, hl with | [_, _, _], _ => rfl
  have F28 := fun_mk (st := top 41) l28 c28 k28
  have b28 := F28.binds (ps := ["node", "value"]) fun _ _ _ _ _ _ us hl => match us, hl with | [_, _], _ => rfl
  have F29 := fun_mk (st := inClass (top 42) 0) l29 c29 k29
  have b29 := F29.binds (ps := ["self", "lines"]) fun _ _ _ _ _ _ us hl => match us, hl with | [_, _], _ => rfl
  have F30 := fun_mk (st := inClass (top 43) 0) l30 c30 k30
  have b30 := F30.binds (ps := ["self", "node", "places", "rows", "room"]) fun _ _ _ _ _ _ us hl => match us, hl with | [_, _, _, _, _], _ => rfl
  have F31 := fun_mk (st := inClass (top 43) 1) l31 c31 k31
  have b31 := F31.binds (ps := ["self"]) fun _ _ _ _ _ _ us hl => match us, hl with | [_], _ => rfl
  have F32 := fun_mk (st := inClass (top 43) 2) l32 c32 k32
  have b32 := F32.binds (ps := ["self", "line"]) fun _ _ _ _ _ _ us hl => match us, hl with | [_, _], _ => rfl
  have F33 := fun_mk (st := inClass (top 43) 3) l33 c33 k33
  have b33 := F33.binds (ps := ["self", "number"]) fun _ _ _ _ _ _ us hl => match us, hl with | [_, _], _ => rfl
  have F34 := fun_mk (st := inClass (top 43) 4) l34 c34 k34
  have b34 := F34.binds (ps := ["self", "number", "name"]) fun _ _ _ _ _ _ us hl => match us, hl with | [_, _, _], _ => rfl
  have F35 := fun_mk (st := inClass (top 43) 5) l35 c35 k35
  have b35 := F35.binds (ps := ["self", "number", "clock"]) fun _ _ _ _ _ _ us hl => match us, hl with | [_, _, _], _ => rfl
  have F36 := fun_mk (st := inClass (top 43) 6) l36 c36 k36
  have b36 := F36.binds (ps := ["self", "name"]) fun _ _ _ _ _ _ us hl => match us, hl with | [_, _], _ => rfl
  have F37 := fun_mk (st := inClass (top 43) 7) l37 c37 k37
  have b37 := F37.binds (ps := ["self", "name", "value"]) fun _ _ _ _ _ _ us hl => match us, hl with | [_, _, _], _ => rfl
  have F38 := fun_mk (st := inClass (top 43) 8) l38 c38 k38
  have b38 := F38.binds (ps := ["self", "number"]) fun _ _ _ _ _ _ us hl => match us, hl with | [_, _], _ => rfl
  have F39 := fun_mk (st := inClass (top 43) 9) l39 c39 k39
  have b39 := F39.binds (ps := ["self", "number", "place", "line"]) fun _ _ _ _ _ _ us hl => match us, hl with | [_, _, _, _], _ => rfl
  have F40 := fun_mk (st := inClass (top 43) 10) l40 c40 k40
  have b40 := F40.binds (ps := ["self", "number", "equation"]) fun _ _ _ _ _ _ us hl => match us, hl with | [_, _, _], _ => rfl
  have F41 := fun_mk (st := inClass (top 43) 11) l41 c41 k41
  have b41 := F41.binds (ps := ["self"]) fun _ _ _ _ _ _ us hl => match us, hl with | [_], _ => rfl
  have F42 := fun_mk (st := top 44) l42 c42 k42
  have b42 := F42.binds (ps := ["program", "places", "rows", "turns", "room"]) fun _ _ _ _ _ _ us hl => match us, hl with | [_, _, _, _, _], _ => rfl
  have F43 := fun_mk (st := top 48) l43 c43 k43
  have b43 := F43.binds (ps := ["program"]) fun _ _ _ _ _ _ us hl => match us, hl with | [_], _ => rfl
  have F44 := fun_mk (st := inClass (top 49) 0) l44 c44 k44
  have b44 := F44.binds (ps := ["self", "program"]) fun _ _ _ _ _ _ us hl => match us, hl with | [_, _], _ => rfl
  have F45 := fun_mk (st := inClass (top 49) 1) l45 c45 k45
  have b45 := F45.binds (ps := ["self"]) fun _ _ _ _ _ _ us hl => match us, hl with | [_], _ => rfl
  have F46 := fun_mk (st := inClass (top 49) 2) l46 c46 k46
  have b46 := F46.binds (ps := ["self", "flat", "at", "instant"]) fun _ _ _ _ _ _ us hl => match us, hl with | [_, _, _, _], _ => rfl
  have F47 := fun_mk (st := top 50) l47 c47 k47
  have b47 := F47.binds (ps := ["program"]) fun _ _ _ _ _ _ us hl => match us, hl with | [_], _ => rfl
  have F48 := fun_mk (st := top 51) l48 c48 k48
  have b48 := F48.binds (ps := ["one", "two"]) fun _ _ _ _ _ _ us hl => match us, hl with | [_, _], _ => rfl
  have F49 := fun_mk (st := top 53) l49 c49 k49
  have b49 := F49.binds (ps := ["program", "name"]) fun _ _ _ _ _ _ us hl => match us, hl with | [_, _], _ => rfl
  have F50 := fun_mk (st := top 54) l50 c50 k50
  have b50 := F50.binds (ps := ["program", "place", "value"]) fun _ _ _ _ _ _ us hl => match us, hl with | [_, _, _], _ => rfl
  have F51 := fun_mk (st := top 55) l51 c51 k51
  have b51 := F51.binds (ps := ["program", "name"]) fun _ _ _ _ _ _ us hl => match us, hl with | [_, _], _ => rfl
  have F52 := fun_mk (st := top 57) l52 c52 k52
  have b52 := F52.binds (ps := ["node", "outputs"]) fun _ _ _ _ _ _ us hl => match us, hl with | [_, _], _ => rfl
  have F53 := fun_mk (st := top 58) l53 c53 k53
  have b53 := F53.binds (ps := ["program", "outputs"]) fun _ _ _ _ _ _ us hl => match us, hl with | [_, _], _ => rfl
  have F54 := fun_mk (st := top 59) l54 c54 k54
  have b54 := F54.binds (ps := ["nodes", "first"]) fun _ _ _ _ _ _ us hl => match us, hl with | [_, _], _ => rfl
  have F55 := fun_mk (st := top 61) l55 c55 k55
  have b55 := F55.binds (ps := ["script", "k"]) fun _ _ _ _ _ _ us hl => match us, hl with | [_, _], _ => rfl
  have F56 := fun_mk (st := top 62) l56 c56 k56
  have b56 := F56.binds (ps := ["cell", "many"]) fun _ _ _ _ _ _ us hl => match us, hl with | [_, _], _ => rfl
  have F57 := fun_mk (st := top 63) l57 c57 k57
  have b57 := F57.binds (ps := ["script"]) fun _ _ _ _ _ _ us hl => match us, hl with | [_], _ => rfl
  have F58 := fun_mk (st := top 64) l58 c58 k58
  have b58 := F58.binds (ps := ["pool", "many"]) fun _ _ _ _ _ _ us hl => match us, hl with | [_, _], _ => rfl
  have F59 := fun_mk (st := top 65) l59 c59 k59
  have b59 := F59.binds (ps := ["e"]) fun _ _ _ _ _ _ us hl => match us, hl with | [_], _ => rfl
  have F60 := fun_mk (st := top 66) l60 c60 k60
  have b60 := F60.binds (ps := ["way", "number"]) fun _ _ _ _ _ _ us hl => match us, hl with | [_, _], _ => rfl
  have F61 := fun_mk (st := top 67) l61 c61 k61
  have b61 := F61.binds (ps := ["script"]) fun _ _ _ _ _ _ us hl => match us, hl with | [_], _ => rfl
  have hF : AllF K D l := ⟨⟨F0, b0⟩, ⟨⟨F1, b1⟩, ⟨⟨F2, b2⟩, ⟨⟨F3, b3⟩, ⟨⟨F4, b4⟩, ⟨⟨F5, b5⟩, ⟨⟨F6, b6⟩, ⟨⟨F7, b7⟩, ⟨⟨F8, b8⟩, ⟨⟨F9, b9⟩, ⟨⟨F10, b10⟩, ⟨⟨F11, b11⟩, ⟨⟨F12, b12⟩, ⟨⟨F13, b13⟩, ⟨⟨F14, b14⟩, ⟨⟨F15, b15⟩, ⟨⟨F16, b16⟩, ⟨⟨F17, b17⟩, ⟨⟨F18, b18⟩, ⟨⟨F19, b19⟩, ⟨⟨F20, b20⟩, ⟨⟨F21, b21⟩, ⟨⟨F22, b22⟩, ⟨⟨F23, b23⟩, ⟨⟨F24, b24⟩, ⟨⟨F25, b25⟩, ⟨⟨F26, b26⟩, ⟨⟨F27, b27⟩, ⟨⟨F28, b28⟩, ⟨⟨F29, b29⟩, ⟨⟨F30, b30⟩, ⟨⟨F31, b31⟩, ⟨⟨F32, b32⟩, ⟨⟨F33, b33⟩, ⟨⟨F34, b34⟩, ⟨⟨F35, b35⟩, ⟨⟨F36, b36⟩, ⟨⟨F37, b37⟩, ⟨⟨F38, b38⟩, ⟨⟨F39, b39⟩, ⟨⟨F40, b40⟩, ⟨⟨F41, b41⟩, ⟨⟨F42, b42⟩, ⟨⟨F43, b43⟩, ⟨⟨F44, b44⟩, ⟨⟨F45, b45⟩, ⟨⟨F46, b46⟩, ⟨⟨F47, b47⟩, ⟨⟨F48, b48⟩, ⟨⟨F49, b49⟩, ⟨⟨F50, b50⟩, ⟨⟨F51, b51⟩, ⟨⟨F52, b52⟩, ⟨⟨F53, b53⟩, ⟨⟨F54, b54⟩, ⟨⟨F55, b55⟩, ⟨⟨F56, b56⟩, ⟨⟨F57, b57⟩, ⟨⟨F58, b58⟩, ⟨⟨F59, b59⟩, ⟨⟨F60, b60⟩, ⟨⟨F61, b61⟩, True.intro⟩⟩⟩⟩⟩⟩⟩⟩⟩⟩⟩⟩⟩⟩⟩⟩⟩⟩⟩⟩⟩⟩⟩⟩⟩⟩⟩⟩⟩⟩⟩⟩⟩⟩⟩⟩⟩⟩⟩⟩⟩⟩⟩⟩⟩⟩⟩⟩⟩⟩⟩⟩⟩⟩⟩⟩⟩⟩⟩⟩⟩⟩
  have hG : AllG mg (faOf l) S.fns := ⟨PySem.W.mg_of X G a0, ⟨PySem.W.mg_of X G a1, ⟨PySem.W.mg_of X G a2, ⟨PySem.W.mg_of X G a3, ⟨PySem.W.mg_of X G a4, ⟨PySem.W.mg_of X G a5, ⟨PySem.W.mg_of X G a6, ⟨PySem.W.mg_of X G a7, ⟨PySem.W.mg_of X G a8, ⟨PySem.W.mg_of X G a9, ⟨PySem.W.mg_of X G a10, ⟨PySem.W.mg_of X G a11, ⟨PySem.W.mg_of X G a12, ⟨PySem.W.mg_of X G a13, ⟨PySem.W.mg_of X G a14, ⟨PySem.W.mg_of X G a15, ⟨PySem.W.mg_of X G a16, ⟨PySem.W.mg_of X G a17, ⟨PySem.W.mg_of X G a18, ⟨PySem.W.mg_of X G a19, ⟨PySem.W.mg_of X G a20, ⟨PySem.W.mg_of X G a21, ⟨PySem.W.mg_of X G a22, ⟨PySem.W.mg_of X G a23, ⟨PySem.W.mg_of X G a24, ⟨PySem.W.mg_of X G a25, ⟨PySem.W.mg_of X G a26, ⟨PySem.W.mg_of X G a27, ⟨PySem.W.mg_of X G a28, ⟨PySem.W.mg_of X G a42, ⟨PySem.W.mg_of X G a43, ⟨PySem.W.mg_of X G a47, ⟨PySem.W.mg_of X G a48, ⟨PySem.W.mg_of X G a49, ⟨PySem.W.mg_of X G a50, ⟨PySem.W.mg_of X G a51, ⟨PySem.W.mg_of X G a52, ⟨PySem.W.mg_of X G a53, ⟨PySem.W.mg_of X G a54, ⟨PySem.W.mg_of X G a55, ⟨PySem.W.mg_of X G a56, ⟨PySem.W.mg_of X G a57, ⟨PySem.W.mg_of X G a58, ⟨PySem.W.mg_of X G a59, ⟨PySem.W.mg_of X G a60, ⟨PySem.W.mg_of X G a61, True.intro⟩⟩⟩⟩⟩⟩⟩⟩⟩⟩⟩⟩⟩⟩⟩⟩⟩⟩⟩⟩⟩⟩⟩⟩⟩⟩⟩⟩⟩⟩⟩⟩⟩⟩⟩⟩⟩⟩⟩⟩⟩⟩⟩⟩⟩⟩
  have hc : ConG K mg S.gcs := ⟨con_tup1 (PySem.W.mg_of X G g_BOOL) h_BOOL (by decide), ⟨con_int (PySem.W.mg_of X G g_MOST_PLACES), ⟨con_int (PySem.W.mg_of X G g_MOST_ROOM), ⟨con_int (PySem.W.mg_of X G g_MOST_STATES), ⟨con_int (PySem.W.mg_of X G g_MOST_INSTANTS), True.intro⟩⟩⟩⟩⟩
  have hC : ClsG S D K mg (fun c => ([C0, C1, C2, X0, X1, X2, X3] : List Addr).getD c 0) (faOf l) := by
    refine ⟨fun x c j m => ?_, fun m l c j h1 h2 => ?_, fun f l c h1 h2 => ?_⟩
    · simp only [S, List.mem_cons, List.not_mem_nil, or_false, Prod.mk.injEq] at m
      rcases m with ⟨rfl, rfl, rfl⟩ | ⟨rfl, rfl, rfl⟩ | ⟨rfl, rfl, rfl⟩
      · exact ⟨⟨mk0, a29, i29, kc0⟩, PySem.W.mg_of X G aC0, ⟨pg0, hd0, po0, sa0⟩⟩
      · exact ⟨⟨mk1, a30, i30, kc1⟩, PySem.W.mg_of X G aC1, ⟨pg1, hd1, po1, sa1⟩⟩
      · exact ⟨⟨mk2, a44, i44, kc2⟩, PySem.W.mg_of X G aC2, ⟨pg2, hd2, po2, sa2⟩⟩
    · simp only [S, List.mem_cons, List.not_mem_nil, or_false, Prod.mk.injEq] at h1
      rcases h1 with ⟨rfl, rfl⟩ | ⟨rfl, rfl⟩ | ⟨rfl, rfl⟩ | ⟨rfl, rfl⟩ | ⟨rfl, rfl⟩ | ⟨rfl, rfl⟩ | ⟨rfl, rfl⟩ | ⟨rfl, rfl⟩ | ⟨rfl, rfl⟩ | ⟨rfl, rfl⟩ | ⟨rfl, rfl⟩ | ⟨rfl, rfl⟩ | ⟨rfl, rfl⟩
      · simp only [List.mem_cons, List.not_mem_nil, or_false, Prod.mk.injEq] at h2
        rcases h2 with ⟨rfl, rfl⟩
        · exact ⟨a31, i31, k31⟩
      · simp only [List.mem_cons, List.not_mem_nil, or_false, Prod.mk.injEq] at h2
        rcases h2 with ⟨rfl, rfl⟩
        · exact ⟨a32, i32, k32⟩
      · simp only [List.mem_cons, List.not_mem_nil, or_false, Prod.mk.injEq] at h2
        rcases h2 with ⟨rfl, rfl⟩
        · exact ⟨a33, i33, k33⟩
      · simp only [List.mem_cons, List.not_mem_nil, or_false, Prod.mk.injEq] at h2
        rcases h2 with ⟨rfl, rfl⟩
        · exact ⟨a34, i34, k34⟩
      · simp only [List.mem_cons, List.not_mem_nil, or_false, Prod.mk.injEq] at h2
        rcases h2 with ⟨rfl, rfl⟩
        · exact ⟨a35, i35, k35⟩
      · simp only [List.mem_cons, List.not_mem_nil, or_false, Prod.mk.injEq] at h2
        rcases h2 with ⟨rfl, rfl⟩
        · exact ⟨a36, i36, k36⟩
      · simp only [List.mem_cons, List.not_mem_nil, or_false, Prod.mk.injEq] at h2
        rcases h2 with ⟨rfl, rfl⟩
        · exact ⟨a37, i37, k37⟩
      · simp only [List.mem_cons, List.not_mem_nil, or_false, Prod.mk.injEq] at h2
        rcases h2 with ⟨rfl, rfl⟩
        · exact ⟨a38, i38, k38⟩
      · simp only [List.mem_cons, List.not_mem_nil, or_false, Prod.mk.injEq] at h2
        rcases h2 with ⟨rfl, rfl⟩
        · exact ⟨a39, i39, k39⟩
      · simp only [List.mem_cons, List.not_mem_nil, or_false, Prod.mk.injEq] at h2
        rcases h2 with ⟨rfl, rfl⟩
        · exact ⟨a40, i40, k40⟩
      · simp only [List.mem_cons, List.not_mem_nil, or_false, Prod.mk.injEq] at h2
        rcases h2 with ⟨rfl, rfl⟩
        · exact ⟨a41, i41, k41⟩
      · simp only [List.mem_cons, List.not_mem_nil, or_false, Prod.mk.injEq] at h2
        rcases h2 with ⟨rfl, rfl⟩
        · exact ⟨a45, i45, k45⟩
      · simp only [List.mem_cons, List.not_mem_nil, or_false, Prod.mk.injEq] at h2
        rcases h2 with ⟨rfl, rfl⟩
        · exact ⟨a46, i46, k46⟩
    · simp only [S, List.mem_cons, List.not_mem_nil, or_false, Prod.mk.injEq] at h1
      rcases h1 with ⟨rfl, rfl⟩ | ⟨rfl, rfl⟩ | ⟨rfl, rfl⟩ | ⟨rfl, rfl⟩ | ⟨rfl, rfl⟩ | ⟨rfl, rfl⟩ | ⟨rfl, rfl⟩ | ⟨rfl, rfl⟩ | ⟨rfl, rfl⟩ | ⟨rfl, rfl⟩ | ⟨rfl, rfl⟩ | ⟨rfl, rfl⟩ | ⟨rfl, rfl⟩ | ⟨rfl, rfl⟩ | ⟨rfl, rfl⟩ | ⟨rfl, rfl⟩ | ⟨rfl, rfl⟩ | ⟨rfl, rfl⟩ | ⟨rfl, rfl⟩ | ⟨rfl, rfl⟩ | ⟨rfl, rfl⟩
      · simp only [List.mem_cons, List.not_mem_nil, or_false] at h2
        rcases h2 with rfl
        · exact n_lines_0
      · simp only [List.mem_cons, List.not_mem_nil, or_false] at h2
        rcases h2 with rfl | rfl
        · exact n_at_0
        · exact n_at_1
      · simp only [List.mem_cons, List.not_mem_nil, or_false] at h2
        rcases h2 with rfl | rfl
        · exact n_instant_0
        · exact n_instant_1
      · simp only [List.mem_cons, List.not_mem_nil, or_false] at h2
        rcases h2 with rfl | rfl
        · exact n_now_0
        · exact n_now_1
      · simp only [List.mem_cons, List.not_mem_nil, or_false] at h2
        rcases h2 with rfl
        · exact n_held_0
      · simp only [List.mem_cons, List.not_mem_nil, or_false] at h2
        rcases h2 with rfl
        · exact n_node_1
      · simp only [List.mem_cons, List.not_mem_nil, or_false] at h2
        rcases h2 with rfl
        · exact n_table_1
      · simp only [List.mem_cons, List.not_mem_nil, or_false] at h2
        rcases h2 with rfl
        · exact n_by_name_1
      · simp only [List.mem_cons, List.not_mem_nil, or_false] at h2
        rcases h2 with rfl
        · exact n_home_1
      · simp only [List.mem_cons, List.not_mem_nil, or_false] at h2
        rcases h2 with rfl | rfl
        · exact n_rows_1
        · exact n_rows_2
      · simp only [List.mem_cons, List.not_mem_nil, or_false] at h2
        rcases h2 with rfl
        · exact n_room_1
      · simp only [List.mem_cons, List.not_mem_nil, or_false] at h2
        rcases h2 with rfl
        · exact n_letters_1
      · simp only [List.mem_cons, List.not_mem_nil, or_false] at h2
        rcases h2 with rfl
        · exact n_most_1
      · simp only [List.mem_cons, List.not_mem_nil, or_false] at h2
        rcases h2 with rfl
        · exact n_outputs_1
      · simp only [List.mem_cons, List.not_mem_nil, or_false] at h2
        rcases h2 with rfl
        · exact n_places_1
      · simp only [List.mem_cons, List.not_mem_nil, or_false] at h2
        rcases h2 with rfl
        · exact n_wanted_1
      · simp only [List.mem_cons, List.not_mem_nil, or_false] at h2
        rcases h2 with rfl
        · exact n_program_2
      · simp only [List.mem_cons, List.not_mem_nil, or_false] at h2
        rcases h2 with rfl
        · exact n_instants_2
      · simp only [List.mem_cons, List.not_mem_nil, or_false] at h2
        rcases h2 with rfl
        · exact n_numbers_2
      · simp only [List.mem_cons, List.not_mem_nil, or_false] at h2
        rcases h2 with rfl
        · exact n_order_2
      · simp only [List.mem_cons, List.not_mem_nil, or_false] at h2
        rcases h2 with rfl
        · exact n_ways_2
  have hb : ∀ x ∈ bltNames, mg x = none := fun x hx => by
    simp only [bltNames, List.mem_cons, List.not_mem_nil, or_false] at hx
    rcases hx with rfl | rfl | rfl | rfl | rfl | rfl | rfl | rfl | rfl | rfl | rfl | rfl | rfl | rfl | rfl | rfl | rfl
    · exact PySem.W.mg_none_of X G z_len
    · exact PySem.W.mg_none_of X G z_str
    · exact PySem.W.mg_none_of X G z_int
    · exact PySem.W.mg_none_of X G z_abs
    · exact PySem.W.mg_none_of X G z_max
    · exact PySem.W.mg_none_of X G z_min
    · exact PySem.W.mg_none_of X G z_tuple
    · exact PySem.W.mg_none_of X G z_list
    · exact PySem.W.mg_none_of X G z_all
    · exact PySem.W.mg_none_of X G z_any
    · exact PySem.W.mg_none_of X G z_sorted
    · exact PySem.W.mg_none_of X G z_isinstance
    · exact PySem.W.mg_none_of X G z_bool
    · exact PySem.W.mg_none_of X G z_dict
    · exact PySem.W.mg_none_of X G z_range
    · exact PySem.W.mg_none_of X G z_enumerate
    · exact PySem.W.mg_none_of X G z_zip
  have hx : ∀ x c, (x, c) ∈ S.exs → ExF K mg x ((fun c => ([C0, C1, C2, X0, X1, X2, X3] : List Addr).getD c 0) c) := fun x c m => by
    simp only [S, List.mem_cons, List.not_mem_nil, or_false, Prod.mk.injEq] at m
    rcases m with ⟨rfl, rfl⟩ | ⟨rfl, rfl⟩ | ⟨rfl, rfl⟩ | ⟨rfl, rfl⟩
    · exact ⟨⟨_, _, _, _, PySem.F.excBase_ValueError, xx0⟩, PySem.W.mg_of X G xg0, xk0, xb0, xt0⟩
    · exact ⟨⟨_, _, _, _, PySem.F.excBase_ValueError, xx1⟩, PySem.W.mg_of X G xg1, xk1, xb1, xt1⟩
    · exact ⟨⟨_, _, _, _, PySem.F.excBase_ValueError, xx2⟩, PySem.W.mg_of X G xg2, xk2, xb2, xt2⟩
    · exact ⟨⟨_, _, _, _, PySem.F.excBase_ValueError, xx3⟩, PySem.W.mg_of X G xg3, xk3, xb3, xt3⟩
  have hm : ∀ x l, (x, l) ∈ S.exm → ∃ C, mg x = some (.ref C) ∧ ∀ n b, (n, b) ∈ l → PySem.W.exmOne K (.ref ((fun c => ([C0, C1, C2, X0, X1, X2, X3] : List Addr).getD c 0) n)) (.ref C) = some b := fun x l m => by
    simp only [S, List.mem_cons, List.not_mem_nil, or_false, Prod.mk.injEq] at m
    rcases m with ⟨rfl, rfl⟩
    · refine ⟨_, PySem.W.mg_of X G xg1, fun n b m => ?_⟩
      simp only [List.mem_cons, List.not_mem_nil, or_false, Prod.mk.injEq] at m
      rcases m with ⟨rfl, rfl⟩ | ⟨rfl, rfl⟩ | ⟨rfl, rfl⟩
      · exact exm_sub xb1 xi1 xt1 xu_NotFitting_LowError
      · exact exm_sub xb1 xi1 xt1 xu_Blocked_LowError
      · exact exm_sub xb1 xi1 xt1 xu_TooMany_LowError
  have hki : ∀ (P : Program) (base : Heap) x kl, (x, kl) ∈ S.kin → ∀ m ys, (m, ys) ∈ kl → ∃ f fd y, FnHot P w K mg base ⟨K, fun c => ([C0, C1, C2, X0, X1, X2, X3] : List Addr).getD c 0⟩ f fd y ((fun c => ([C0, C1, C2, X0, X1, X2, X3] : List Addr).getD c 0) m) ys ∧ mg x = some (.ref f) ∧ PySem.W.keepIn K (.ref f) = true ∧ Binds K fd [y] [] := fun P base x kl h m ys z => by
    simp only [S, List.mem_cons, List.not_mem_nil, or_false, Prod.mk.injEq] at h
    rcases h with ⟨rfl, rfl⟩
    · simp only [List.mem_cons, List.not_mem_nil, or_false, Prod.mk.injEq] at z
      rcases z with ⟨rfl, rfl⟩ | ⟨rfl, rfl⟩ | ⟨rfl, rfl⟩
      · have C : ExcC K X0 := ⟨yg0, yk0, xb0, yd0, ya0, yn, yt, ym0⟩
        have hl : ∀ p ∈ kl_59.zip [false, true, false, true], KCl K mg (defScope (top 65)) X0 p := by
          intro p hp
          simp only [kl_59, List.zip_cons_cons, List.zip_nil_left, List.mem_cons, List.not_mem_nil, or_false] at hp
          rcases hp with rfl | rfl | rfl | rfl
          · exact ⟨⟨by decide +kernel, by decide +kernel, by decide +kernel, by decide +kernel⟩, .inl ⟨X2, PySem.W.mg_of X G xg2, kit_own xi2 xt2 xu_NotFitting_Blocked (fun e => by subst e; rw [xs2] at xu_NotFitting_Blocked; cases xu_NotFitting_Blocked)⟩⟩
          · exact ⟨⟨by decide +kernel, by decide +kernel, by decide +kernel, by decide +kernel⟩, .inl ⟨X0, PySem.W.mg_of X G xg0, kit_own xi0 xt0 xs0 (fun _ => rfl)⟩⟩
          · exact ⟨⟨by decide +kernel, by decide +kernel, by decide +kernel, by decide +kernel⟩, .inl ⟨X3, PySem.W.mg_of X G xg3, kit_own xi3 xt3 xu_NotFitting_TooMany (fun e => by subst e; rw [xs3] at xu_NotFitting_TooMany; cases xu_NotFitting_TooMany)⟩⟩
          · exact ⟨⟨by decide +kernel, by decide +kernel, by decide +kernel, by decide +kernel⟩, .inr ⟨"ValueError", PySem.W.mg_none_of X G z_ValueError, by rfl, kit_blt (by decide +kernel) xv_NotFitting_ValueError⟩⟩
        have key := fn_kinds (P := P) (w := w) (base := base) (mg := mg) (T := ⟨K, fun c => ([C0, C1, C2, X0, X1, X2, X3] : List Addr).getD c 0⟩) (Q := [⟨451, 4, 451, 9⟩, ⟨451, 12, 451, 14⟩, ⟨451, 4, 451, 14⟩, ⟨460, 11, 460, 16⟩, ⟨460, 4, 460, 16⟩]) rfl F59 (fnScope_of (d := ⟨"_law_kinds_of", "_law_kinds_of", top 65, ["e", "found"], ["e"]⟩) (by decide +kernel)) (ls := kl_59.zip [false, true, false, true]) kb_59 (by decide +kernel) (by decide +kernel) (by decide +kernel) (by decide +kernel) (by decide +kernel) (PySem.W.mg_none_of X G z_isinstance) C hl (by decide +kernel)
        exact ⟨f59, _, "e", key, PySem.W.mg_of X G a59, k59, b59⟩
      · have C : ExcC K X2 := ⟨yg2, yk2, xb2, yd2, ya2, yn, yt, ym2⟩
        have hl : ∀ p ∈ kl_59.zip [true, false, false, true], KCl K mg (defScope (top 65)) X2 p := by
          intro p hp
          simp only [kl_59, List.zip_cons_cons, List.zip_nil_left, List.mem_cons, List.not_mem_nil, or_false] at hp
          rcases hp with rfl | rfl | rfl | rfl
          · exact ⟨⟨by decide +kernel, by decide +kernel, by decide +kernel, by decide +kernel⟩, .inl ⟨X2, PySem.W.mg_of X G xg2, kit_own xi2 xt2 xs2 (fun _ => rfl)⟩⟩
          · exact ⟨⟨by decide +kernel, by decide +kernel, by decide +kernel, by decide +kernel⟩, .inl ⟨X0, PySem.W.mg_of X G xg0, kit_own xi0 xt0 xu_Blocked_NotFitting (fun e => by subst e; rw [xs0] at xu_Blocked_NotFitting; cases xu_Blocked_NotFitting)⟩⟩
          · exact ⟨⟨by decide +kernel, by decide +kernel, by decide +kernel, by decide +kernel⟩, .inl ⟨X3, PySem.W.mg_of X G xg3, kit_own xi3 xt3 xu_Blocked_TooMany (fun e => by subst e; rw [xs3] at xu_Blocked_TooMany; cases xu_Blocked_TooMany)⟩⟩
          · exact ⟨⟨by decide +kernel, by decide +kernel, by decide +kernel, by decide +kernel⟩, .inr ⟨"ValueError", PySem.W.mg_none_of X G z_ValueError, by rfl, kit_blt (by decide +kernel) xv_Blocked_ValueError⟩⟩
        have key := fn_kinds (P := P) (w := w) (base := base) (mg := mg) (T := ⟨K, fun c => ([C0, C1, C2, X0, X1, X2, X3] : List Addr).getD c 0⟩) (Q := [⟨451, 4, 451, 9⟩, ⟨451, 12, 451, 14⟩, ⟨451, 4, 451, 14⟩, ⟨460, 11, 460, 16⟩, ⟨460, 4, 460, 16⟩]) rfl F59 (fnScope_of (d := ⟨"_law_kinds_of", "_law_kinds_of", top 65, ["e", "found"], ["e"]⟩) (by decide +kernel)) (ls := kl_59.zip [true, false, false, true]) kb_59 (by decide +kernel) (by decide +kernel) (by decide +kernel) (by decide +kernel) (by decide +kernel) (PySem.W.mg_none_of X G z_isinstance) C hl (by decide +kernel)
        exact ⟨f59, _, "e", key, PySem.W.mg_of X G a59, k59, b59⟩
      · have C : ExcC K X3 := ⟨yg3, yk3, xb3, yd3, ya3, yn, yt, ym3⟩
        have hl : ∀ p ∈ kl_59.zip [false, false, true, true], KCl K mg (defScope (top 65)) X3 p := by
          intro p hp
          simp only [kl_59, List.zip_cons_cons, List.zip_nil_left, List.mem_cons, List.not_mem_nil, or_false] at hp
          rcases hp with rfl | rfl | rfl | rfl
          · exact ⟨⟨by decide +kernel, by decide +kernel, by decide +kernel, by decide +kernel⟩, .inl ⟨X2, PySem.W.mg_of X G xg2, kit_own xi2 xt2 xu_TooMany_Blocked (fun e => by subst e; rw [xs2] at xu_TooMany_Blocked; cases xu_TooMany_Blocked)⟩⟩
          · exact ⟨⟨by decide +kernel, by decide +kernel, by decide +kernel, by decide +kernel⟩, .inl ⟨X0, PySem.W.mg_of X G xg0, kit_own xi0 xt0 xu_TooMany_NotFitting (fun e => by subst e; rw [xs0] at xu_TooMany_NotFitting; cases xu_TooMany_NotFitting)⟩⟩
          · exact ⟨⟨by decide +kernel, by decide +kernel, by decide +kernel, by decide +kernel⟩, .inl ⟨X3, PySem.W.mg_of X G xg3, kit_own xi3 xt3 xs3 (fun _ => rfl)⟩⟩
          · exact ⟨⟨by decide +kernel, by decide +kernel, by decide +kernel, by decide +kernel⟩, .inr ⟨"ValueError", PySem.W.mg_none_of X G z_ValueError, by rfl, kit_blt (by decide +kernel) xv_TooMany_ValueError⟩⟩
        have key := fn_kinds (P := P) (w := w) (base := base) (mg := mg) (T := ⟨K, fun c => ([C0, C1, C2, X0, X1, X2, X3] : List Addr).getD c 0⟩) (Q := [⟨451, 4, 451, 9⟩, ⟨451, 12, 451, 14⟩, ⟨451, 4, 451, 14⟩, ⟨460, 11, 460, 16⟩, ⟨460, 4, 460, 16⟩]) rfl F59 (fnScope_of (d := ⟨"_law_kinds_of", "_law_kinds_of", top 65, ["e", "found"], ["e"]⟩) (by decide +kernel)) (ls := kl_59.zip [false, false, true, true]) kb_59 (by decide +kernel) (by decide +kernel) (by decide +kernel) (by decide +kernel) (by decide +kernel) (PySem.W.mg_none_of X G z_isinstance) C hl (by decide +kernel)
        exact ⟨f59, _, "e", key, PySem.W.mg_of X G a59, k59, b59⟩
  have hwd : ∀ x tb, (x, tb) ∈ S.wds → ∃ d, mg x = some (.ref d) ∧ ∀ z q, (z, q) ∈ tb → ∃ v, KDct K w d ⟨z.toArray⟩ v ∧ Fixed K q v := fun x tb m => by
    simp only [S, List.mem_cons, List.not_mem_nil, or_false, Prod.mk.injEq] at m
    rcases m with ⟨rfl, rfl⟩
    · exact wd_of (PySem.W.mg_of X G wg_OPS) wl_OPS wk_OPS (wdv_cons (by first | rfl | decide +kernel) wv_OPS_0 (by decide) (wdv_cons (by first | rfl | decide +kernel) wv_OPS_1 (by decide) (wdv_cons (by first | rfl | decide +kernel) wv_OPS_2 (by decide) (wdv_cons (by first | rfl | decide +kernel) wv_OPS_3 (by decide) (wdv_cons (by first | rfl | decide +kernel) wv_OPS_4 (by decide) (wdv_cons (by first | rfl | decide +kernel) wv_OPS_5 (by decide) (wdv_cons (by first | rfl | decide +kernel) wv_OPS_6 (by decide) True.intro)))))))
  exact ⟨K, ⟨K, _⟩, faOf l, fdOf (PySem.W.fnOf "is_integer" "is_integer" (defArgs (top 6)) (defBody (top 6)) (defScope (top 6)) .none kV0 dc0 pm0 an0 cd0 ct0) l, X, hff, fun s u => .of_eq rfl, prog_of (by decide +kernel) hF hG hc hC hb hx hm hki hwd⟩
end K67
open PySem PySem.W PyProof.Rows in
set_option maxRecDepth 100000 in
set_option maxHeartbeats 0 in
theorem PySem.Challenge.cw_streamdown_k67_errors_of_the_lower_half_holds : PySem.Challenge.rw_streamdown_k67_errors_of_the_lower_half.Holds := by
  w_on; o_law; k_head; (case hw => w_witness2)
  k_fill
  refine Pv.walk (l := PySem.Challenge.rw_streamdown_k67_errors_of_the_lower_half) (S := K67.S) (D := K67.D) (j := 61) (i := 63) (x := "script") rfl (by decide) rfl ⟨rfl, by decide, by decide⟩ K67.law_ok ⟨_, rfl, rfl⟩ ?F
  case F =>
    intro w mg f h Y G hmg
    refine' K67.all_mk (PySem.W.kIn_of Y) G hmg ?aC0 ?aC1 ?aC2 ?a0 ?l0 ?c0 ?k0 ?a1 ?l1 ?c1 ?k1 ?a2 ?l2 ?c2 ?k2 ?a3 ?l3 ?c3 ?k3 ?a4 ?l4 ?c4 ?k4 ?a5 ?l5 ?c5 ?k5 ?a6 ?l6 ?c6 ?k6 ?a7 ?l7 ?c7 ?k7 ?a8 ?l8 ?c8 ?k8 ?a9 ?l9 ?c9 ?k9 ?a10 ?l10 ?c10 ?k10 ?a11 ?l11 ?c11 ?k11 ?a12 ?l12 ?c12 ?k12 ?a13 ?l13 ?c13 ?k13 ?a14 ?l14 ?c14 ?k14 ?a15 ?l15 ?c15 ?k15 ?a16 ?l16 ?c16 ?k16 ?a17 ?l17 ?c17 ?k17 ?a18 ?l18 ?c18 ?k18 ?a19 ?l19 ?c19 ?k19 ?a20 ?l20 ?c20 ?k20 ?a21 ?l21 ?c21 ?k21 ?a22 ?l22 ?c22 ?k22 ?a23 ?l23 ?c23 ?k23 ?a24 ?l24 ?c24 ?k24 ?a25 ?l25 ?c25 ?k25 ?a26 ?l26 ?c26 ?k26 ?a27 ?l27 ?c27 ?k27 ?a28 ?l28 ?c28 ?k28 ?a29 ?i29 ?l29 ?c29 ?k29 ?a30 ?i30 ?l30 ?c30 ?k30 ?a31 ?i31 ?l31 ?c31 ?k31 ?a32 ?i32 ?l32 ?c32 ?k32 ?a33 ?i33 ?l33 ?c33 ?k33 ?a34 ?i34 ?l34 ?c34 ?k34 ?a35 ?i35 ?l35 ?c35 ?k35 ?a36 ?i36 ?l36 ?c36 ?k36 ?a37 ?i37 ?l37 ?c37 ?k37 ?a38 ?i38 ?l38 ?c38 ?k38 ?a39 ?i39 ?l39 ?c39 ?k39 ?a40 ?i40 ?l40 ?c40 ?k40 ?a41 ?i41 ?l41 ?c41 ?k41 ?a42 ?l42 ?c42 ?k42 ?a43 ?l43 ?c43 ?k43 ?a44 ?i44 ?l44 ?c44 ?k44 ?a45 ?i45 ?l45 ?c45 ?k45 ?a46 ?i46 ?l46 ?c46 ?k46 ?a47 ?l47 ?c47 ?k47 ?a48 ?l48 ?c48 ?k48 ?a49 ?l49 ?c49 ?k49 ?a50 ?l50 ?c50 ?k50 ?a51 ?l51 ?c51 ?k51 ?a52 ?l52 ?c52 ?k52 ?a53 ?l53 ?c53 ?k53 ?a54 ?l54 ?c54 ?k54 ?a55 ?l55 ?c55 ?k55 ?a56 ?l56 ?c56 ?k56 ?a57 ?l57 ?c57 ?k57 ?a58 ?l58 ?c58 ?k58 ?a59 ?l59 ?c59 ?k59 ?a60 ?l60 ?c60 ?k60 ?a61 ?l61 ?c61 ?k61 ?pg0 ?hd0 ?po0 ?sa0 ?mk0 ?kc0 ?pg1 ?hd1 ?po1 ?sa1 ?mk1 ?kc1 ?pg2 ?hd2 ?po2 ?sa2 ?mk2 ?kc2 ?n_lines_0 ?n_at_0 ?n_at_1 ?n_instant_0 ?n_instant_1 ?n_now_0 ?n_now_1 ?n_held_0 ?n_node_1 ?n_table_1 ?n_by_name_1 ?n_home_1 ?n_rows_1 ?n_rows_2 ?n_room_1 ?n_letters_1 ?n_most_1 ?n_outputs_1 ?n_places_1 ?n_wanted_1 ?n_program_2 ?n_instants_2 ?n_numbers_2 ?n_order_2 ?n_ways_2 ?z_len ?z_str ?z_int ?z_abs ?z_max ?z_min ?z_tuple ?z_list ?z_all ?z_any ?z_sorted ?z_isinstance ?z_bool ?z_dict ?z_range ?z_enumerate ?z_zip ?g_BOOL ?h_BOOL ?g_MOST_PLACES ?g_MOST_ROOM ?g_MOST_STATES ?g_MOST_INSTANTS ?xg0 ?xx0 ?xk0 ?xb0 ?xt0 ?xi0 ?xs0 ?xg1 ?xx1 ?xk1 ?xb1 ?xt1 ?xi1 ?xs1 ?xg2 ?xx2 ?xk2 ?xb2 ?xt2 ?xi2 ?xs2 ?xg3 ?xx3 ?xk3 ?xb3 ?xt3 ?xi3 ?xs3 ?xu_Blocked_LowError ?xu_Blocked_NotFitting ?xu_Blocked_TooMany ?xu_NotFitting_Blocked ?xu_NotFitting_LowError ?xu_NotFitting_TooMany ?xu_TooMany_Blocked ?xu_TooMany_LowError ?xu_TooMany_NotFitting ?z_ValueError ?xv_NotFitting_ValueError ?xv_Blocked_ValueError ?xv_TooMany_ValueError ?yn ?yt ?yg0 ?yk0 ?yd0 ?ya0 ?ym0 ?yg2 ?yk2 ?yd2 ?ya2 ?ym2 ?yg3 ?yk3 ?yd3 ?ya3 ?ym3 ?wg_OPS ?wl_OPS ?wk_OPS ?wv_OPS_0 ?wv_OPS_1 ?wv_OPS_2 ?wv_OPS_3 ?wv_OPS_4 ?wv_OPS_5 ?wv_OPS_6
    (case aC0 => k_is)
    (case aC1 => k_is)
    (case aC2 => k_is)
    (case a0 => k_is)
    (case l0 => k_is)
    (case c0 => k_is)
    (case k0 => k_is)
    (case a1 => k_is)
    (case l1 => k_is)
    (case c1 => k_is)
    (case k1 => k_is)
    (case a2 => k_is)
    (case l2 => k_is)
    (case c2 => k_is)
    (case k2 => k_is)
    (case a3 => k_is)
    (case l3 => k_is)
    (case c3 => k_is)
    (case k3 => k_is)
    (case a4 => k_is)
    (case l4 => k_is)
    (case c4 => k_is)
    (case k4 => k_is)
    (case a5 => k_is)
    (case l5 => k_is)
    (case c5 => k_is)
    (case k5 => k_is)
    (case a6 => k_is)
    (case l6 => k_is)
    (case c6 => k_is)
    (case k6 => k_is)
    (case a7 => k_is)
    (case l7 => k_is)
    (case c7 => k_is)
    (case k7 => k_is)
    (case a8 => k_is)
    (case l8 => k_is)
    (case c8 => k_is)
    (case k8 => k_is)
    (case a9 => k_is)
    (case l9 => k_is)
    (case c9 => k_is)
    (case k9 => k_is)
    (case a10 => k_is)
    (case l10 => k_is)
    (case c10 => k_is)
    (case k10 => k_is)
    (case a11 => k_is)
    (case l11 => k_is)
    (case c11 => k_is)
    (case k11 => k_is)
    (case a12 => k_is)
    (case l12 => k_is)
    (case c12 => k_is)
    (case k12 => k_is)
    (case a13 => k_is)
    (case l13 => k_is)
    (case c13 => k_is)
    (case k13 => k_is)
    (case a14 => k_is)
    (case l14 => k_is)
    (case c14 => k_is)
    (case k14 => k_is)
    (case a15 => k_is)
    (case l15 => k_is)
    (case c15 => k_is)
    (case k15 => k_is)
    (case a16 => k_is)
    (case l16 => k_is)
    (case c16 => k_is)
    (case k16 => k_is)
    (case a17 => k_is)
    (case l17 => k_is)
    (case c17 => k_is)
    (case k17 => k_is)
    (case a18 => k_is)
    (case l18 => k_is)
    (case c18 => k_is)
    (case k18 => k_is)
    (case a19 => k_is)
    (case l19 => k_is)
    (case c19 => k_is)
    (case k19 => k_is)
    (case a20 => k_is)
    (case l20 => k_is)
    (case c20 => k_is)
    (case k20 => k_is)
    (case a21 => k_is)
    (case l21 => k_is)
    (case c21 => k_is)
    (case k21 => k_is)
    (case a22 => k_is)
    (case l22 => k_is)
    (case c22 => k_is)
    (case k22 => k_is)
    (case a23 => k_is)
    (case l23 => k_is)
    (case c23 => k_is)
    (case k23 => k_is)
    (case a24 => k_is)
    (case l24 => k_is)
    (case c24 => k_is)
    (case k24 => k_is)
    (case a25 => k_is)
    (case l25 => k_is)
    (case c25 => k_is)
    (case k25 => k_is)
    (case a26 => k_is)
    (case l26 => k_is)
    (case c26 => k_is)
    (case k26 => k_is)
    (case a27 => k_is)
    (case l27 => k_is)
    (case c27 => k_is)
    (case k27 => k_is)
    (case a28 => k_is)
    (case l28 => k_is)
    (case c28 => k_is)
    (case k28 => k_is)
    (case a29 => k_is)
    (case i29 => k_is)
    (case l29 => k_is)
    (case c29 => k_is)
    (case k29 => k_is)
    (case a30 => k_is)
    (case i30 => k_is)
    (case l30 => k_is)
    (case c30 => k_is)
    (case k30 => k_is)
    (case a31 => k_is)
    (case i31 => k_is)
    (case l31 => k_is)
    (case c31 => k_is)
    (case k31 => k_is)
    (case a32 => k_is)
    (case i32 => k_is)
    (case l32 => k_is)
    (case c32 => k_is)
    (case k32 => k_is)
    (case a33 => k_is)
    (case i33 => k_is)
    (case l33 => k_is)
    (case c33 => k_is)
    (case k33 => k_is)
    (case a34 => k_is)
    (case i34 => k_is)
    (case l34 => k_is)
    (case c34 => k_is)
    (case k34 => k_is)
    (case a35 => k_is)
    (case i35 => k_is)
    (case l35 => k_is)
    (case c35 => k_is)
    (case k35 => k_is)
    (case a36 => k_is)
    (case i36 => k_is)
    (case l36 => k_is)
    (case c36 => k_is)
    (case k36 => k_is)
    (case a37 => k_is)
    (case i37 => k_is)
    (case l37 => k_is)
    (case c37 => k_is)
    (case k37 => k_is)
    (case a38 => k_is)
    (case i38 => k_is)
    (case l38 => k_is)
    (case c38 => k_is)
    (case k38 => k_is)
    (case a39 => k_is)
    (case i39 => k_is)
    (case l39 => k_is)
    (case c39 => k_is)
    (case k39 => k_is)
    (case a40 => k_is)
    (case i40 => k_is)
    (case l40 => k_is)
    (case c40 => k_is)
    (case k40 => k_is)
    (case a41 => k_is)
    (case i41 => k_is)
    (case l41 => k_is)
    (case c41 => k_is)
    (case k41 => k_is)
    (case a42 => k_is)
    (case l42 => k_is)
    (case c42 => k_is)
    (case k42 => k_is)
    (case a43 => k_is)
    (case l43 => k_is)
    (case c43 => k_is)
    (case k43 => k_is)
    (case a44 => k_is)
    (case i44 => k_is)
    (case l44 => k_is)
    (case c44 => k_is)
    (case k44 => k_is)
    (case a45 => k_is)
    (case i45 => k_is)
    (case l45 => k_is)
    (case c45 => k_is)
    (case k45 => k_is)
    (case a46 => k_is)
    (case i46 => k_is)
    (case l46 => k_is)
    (case c46 => k_is)
    (case k46 => k_is)
    (case a47 => k_is)
    (case l47 => k_is)
    (case c47 => k_is)
    (case k47 => k_is)
    (case a48 => k_is)
    (case l48 => k_is)
    (case c48 => k_is)
    (case k48 => k_is)
    (case a49 => k_is)
    (case l49 => k_is)
    (case c49 => k_is)
    (case k49 => k_is)
    (case a50 => k_is)
    (case l50 => k_is)
    (case c50 => k_is)
    (case k50 => k_is)
    (case a51 => k_is)
    (case l51 => k_is)
    (case c51 => k_is)
    (case k51 => k_is)
    (case a52 => k_is)
    (case l52 => k_is)
    (case c52 => k_is)
    (case k52 => k_is)
    (case a53 => k_is)
    (case l53 => k_is)
    (case c53 => k_is)
    (case k53 => k_is)
    (case a54 => k_is)
    (case l54 => k_is)
    (case c54 => k_is)
    (case k54 => k_is)
    (case a55 => k_is)
    (case l55 => k_is)
    (case c55 => k_is)
    (case k55 => k_is)
    (case a56 => k_is)
    (case l56 => k_is)
    (case c56 => k_is)
    (case k56 => k_is)
    (case a57 => k_is)
    (case l57 => k_is)
    (case c57 => k_is)
    (case k57 => k_is)
    (case a58 => k_is)
    (case l58 => k_is)
    (case c58 => k_is)
    (case k58 => k_is)
    (case a59 => k_is)
    (case l59 => k_is)
    (case c59 => k_is)
    (case k59 => k_is)
    (case a60 => k_is)
    (case l60 => k_is)
    (case c60 => k_is)
    (case k60 => k_is)
    (case a61 => k_is)
    (case l61 => k_is)
    (case c61 => k_is)
    (case k61 => k_is)
    (case pg0 => k_is)
    (case hd0 => k_is)
    (case po0 => k_is)
    (case sa0 => k_is)
    (case mk0 => k_is)
    (case kc0 => k_is)
    (case pg1 => k_is)
    (case hd1 => k_is)
    (case po1 => k_is)
    (case sa1 => k_is)
    (case mk1 => k_is)
    (case kc1 => k_is)
    (case pg2 => k_is)
    (case hd2 => k_is)
    (case po2 => k_is)
    (case sa2 => k_is)
    (case mk2 => k_is)
    (case kc2 => k_is)
    (case n_lines_0 => k_is)
    (case n_at_0 => k_is)
    (case n_at_1 => k_is)
    (case n_instant_0 => k_is)
    (case n_instant_1 => k_is)
    (case n_now_0 => k_is)
    (case n_now_1 => k_is)
    (case n_held_0 => k_is)
    (case n_node_1 => k_is)
    (case n_table_1 => k_is)
    (case n_by_name_1 => k_is)
    (case n_home_1 => k_is)
    (case n_rows_1 => k_is)
    (case n_rows_2 => k_is)
    (case n_room_1 => k_is)
    (case n_letters_1 => k_is)
    (case n_most_1 => k_is)
    (case n_outputs_1 => k_is)
    (case n_places_1 => k_is)
    (case n_wanted_1 => k_is)
    (case n_program_2 => k_is)
    (case n_instants_2 => k_is)
    (case n_numbers_2 => k_is)
    (case n_order_2 => k_is)
    (case n_ways_2 => k_is)
    (case z_len => k_is)
    (case z_str => k_is)
    (case z_int => k_is)
    (case z_abs => k_is)
    (case z_max => k_is)
    (case z_min => k_is)
    (case z_tuple => k_is)
    (case z_list => k_is)
    (case z_all => k_is)
    (case z_any => k_is)
    (case z_sorted => k_is)
    (case z_isinstance => k_is)
    (case z_bool => k_is)
    (case z_dict => k_is)
    (case z_range => k_is)
    (case z_enumerate => k_is)
    (case z_zip => k_is)
    (case g_BOOL => k_is)
    (case h_BOOL => k_is)
    (case g_MOST_PLACES => k_is)
    (case g_MOST_ROOM => k_is)
    (case g_MOST_STATES => k_is)
    (case g_MOST_INSTANTS => k_is)
    (case xg0 => k_is)
    (case xx0 => k_exc)
    (case xk0 => k_is)
    (case xb0 => k_is)
    (case xt0 => k_is)
    (case xi0 => k_is)
    (case xs0 => first | rfl | k_is)
    (case xg1 => k_is)
    (case xx1 => k_exc)
    (case xk1 => k_is)
    (case xb1 => k_is)
    (case xt1 => k_is)
    (case xi1 => k_is)
    (case xs1 => first | rfl | k_is)
    (case xg2 => k_is)
    (case xx2 => k_exc)
    (case xk2 => k_is)
    (case xb2 => k_is)
    (case xt2 => k_is)
    (case xi2 => k_is)
    (case xs2 => first | rfl | k_is)
    (case xg3 => k_is)
    (case xx3 => k_exc)
    (case xk3 => k_is)
    (case xb3 => k_is)
    (case xt3 => k_is)
    (case xi3 => k_is)
    (case xs3 => first | rfl | k_is)
    (case xu_Blocked_LowError => k_is)
    (case xu_Blocked_NotFitting => k_is)
    (case xu_Blocked_TooMany => k_is)
    (case xu_NotFitting_Blocked => k_is)
    (case xu_NotFitting_LowError => k_is)
    (case xu_NotFitting_TooMany => k_is)
    (case xu_TooMany_Blocked => k_is)
    (case xu_TooMany_LowError => k_is)
    (case xu_TooMany_NotFitting => k_is)
    (case z_ValueError => k_is)
    (case xv_NotFitting_ValueError => k_is)
    (case xv_Blocked_ValueError => k_is)
    (case xv_TooMany_ValueError => k_is)
    (case yn => k_is)
    (case yt => k_is)
    (case yg0 => k_is)
    (case yk0 => k_is)
    (case yd0 => k_is)
    (case ya0 => k_is)
    (case ym0 => k_is)
    (case yg2 => k_is)
    (case yk2 => k_is)
    (case yd2 => k_is)
    (case ya2 => k_is)
    (case ym2 => k_is)
    (case yg3 => k_is)
    (case yk3 => k_is)
    (case yd3 => k_is)
    (case ya3 => k_is)
    (case ym3 => k_is)
    (case wg_OPS => k_is)
    (case wl_OPS => k_is)
    (case wk_OPS => k_keys)
    (case wv_OPS_0 => k_is)
    (case wv_OPS_1 => k_is)
    (case wv_OPS_2 => k_is)
    (case wv_OPS_3 => k_is)
    (case wv_OPS_4 => k_is)
    (case wv_OPS_5 => k_is)
    (case wv_OPS_6 => k_is)
