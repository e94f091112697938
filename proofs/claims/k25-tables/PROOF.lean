import PyProof.Rows.All
import Wide.All
import OpenK.AllK
import Wide.FinOn
import HandS.ForMost
import HandS.Deep
import HandS.TupAny
import HandS.TupMul
import HandS.Style
import HandS.IsInst
import HandS.Flow
import HandS.Walk
import HandS.Wide
import PyProof.P3In
import HandS.More
import KE.DataMinMax
import KE.SortData
import HandS.Small
import HandS.Zip
import KE.GoesMore
import HandS.DictComp
import HandS.SetFor
import HandS.Strs
import HandS.SortInts
import HandS.WordsDict
import HandS.Text
import HandS.Conv
import KE.KDictZip
import PySem.Challenge.RW_wirejudge_k25_tables_of_cells
set_option Elab.async false
set_option linter.all false
set_option maxRecDepth 100000
set_option maxHeartbeats 4000000
/-! Dl: data by value over the hand layer. -/
namespace Dl
open PySem PySem.Spec PyProof.Rows L2

abbrev D := PyData

/-- a list or tuple of the module's own -/
def KL (K : PySem.W.Frag) (a : Addr) (xs : List V) : Prop :=
  ∃ (o : Obj) (its : Array Value) (n : Nat), K.lookup a = some o ∧ o.cls = .type "list" ∧ o.dict = none ∧ o.data = .seq its n ∧ its.size ≤ sizeLine ∧ Vals xs its.toList

mutual
/-- v is the datum d; Phi: the addresses of lists that change no more -/
inductive Rep (K : PySem.W.Frag) (Φ : Addr → Prop) (H : Hp) : V → D → Prop
  | non : Rep K Φ H .non .none
  | bl (b : Bool) : Rep K Φ H (.bl b) (.bool b)
  | int (i : Int) : Rep K Φ H (.int i) (.int i)
  | str (x : Str) : Rep K Φ H (.str x) (.str x)
  | lst {a : Addr} {xs : List V} {ds : List D} : Φ a → H a = some (.lst xs) → RepA K Φ H xs ds → Rep K Φ H (.ref a) (.list ds)
  | lstK {a : Addr} {xs : List V} {ds : List D} : KL K a xs → RepA K Φ H xs ds → Rep K Φ H (.ref a) (.list ds)
  | lstF {a : Addr} {o : Obj} {xs : List V} {ds : List D} : H a = some (.frz o (.lst xs)) → RepA K Φ H xs ds → Rep K Φ H (.ref a) (.list ds)
  | tup {a : Addr} {xs : List V} {ds : List D} : SqT K H a xs → RepA K Φ H xs ds → Rep K Φ H (.ref a) (.tuple ds)
inductive RepA (K : PySem.W.Frag) (Φ : Addr → Prop) (H : Hp) : List V → List D → Prop
  | nil : RepA K Φ H [] []
  | cons {v : V} {vs : List V} {d : D} {ds : List D} : Rep K Φ H v d → RepA K Φ H vs ds → RepA K Φ H (v :: vs) (d :: ds)
end

/-- a slot's content: a datum, or the number of a cell -/
inductive Wv where
  | d (x : D)
  | ref (k : Nat)
/-- a cell: a list that may change, or a datum that it has become; a dict; an instance of the class at C -/
inductive Cell where
  | lst (xs : List D)
  | val (x : D)
  | dct (kvs : List (Key × D))
  | ins (C : Addr) (id : Nat) (fs : List (Str × Wv))
  | dead
  | lck (kvs : List (Key × D))
def Cell.mut : Cell → Bool
  | .val _ => false
  | .dead => false
  | .lck _ => false
  | _ => true
abbrev Sto := List Cell
abbrev Sg := List (Option Wv)
/-- what an expression gives -/
inductive R where
  | d (x : D)
  | new (xs : List D)
  | newd (kvs : List (Key × D))
  | ref (k : Nat)

/-- a slot -/
def RepW (K : PySem.W.Frag) (Φ : Addr → Prop) (ρ : List Addr) (H : Hp) (v : V) : Wv → Prop
  | .d x => Rep K Φ H v x
  | .ref k => ∃ a, v = .ref a ∧ ρ[k]? = some a
def RepKV (K : PySem.W.Frag) (Φ : Addr → Prop) (H : Hp) (ws : List (Key × V)) (kvs : List (Key × D)) : Prop := ws.map (·.1) = kvs.map (·.1) ∧ RepA K Φ H (ws.map (·.2)) (kvs.map (·.2))
def RepFs (K : PySem.W.Frag) (Φ : Addr → Prop) (ρ : List Addr) (H : Hp) (us : List (Str × V)) (fs : List (Str × Wv)) : Prop := us.map (·.1) = fs.map (·.1) ∧ Paired (RepW K Φ ρ H) (us.map (·.2)) (fs.map (·.2))
def MutAt (ρ : List Addr) (S : Sto) (a : Addr) : Prop := ∃ (k : Nat) (c : Cell), ρ[k]? = some a ∧ S[k]? = some c ∧ c.mut = true
def CellOk (K : PySem.W.Frag) (Φ : Addr → Prop) (ρ : List Addr) (H : Hp) (a : Addr) : Cell → Prop
  | .lst xs => ∃ vs, H a = some (.lst vs) ∧ RepA K Φ H vs xs ∧ ¬ Φ a
  | .val d => Φ a ∧ Rep K Φ H (.ref a) d
  | .dct kvs => ∃ ws, H a = some (.dK ws) ∧ RepKV K Φ H ws kvs ∧ ¬ Φ a
  | .ins C id fs => ∃ dx us, H a = some (.ins C dx us) ∧ RepFs K Φ ρ H us fs ∧ ¬ Φ a ∧ ρ[id]? = some a
  | .dead => ∃ C dx us, H a = some (.ins C dx us)
  | .lck kvs => ∃ o ws, H a = some (.frz o (.dK ws)) ∧ RepKV K Φ H ws kvs
/-- a cell's references go back -/
def OrdC (k : Nat) : Cell → Prop
  | .ins _ id fs => id ≤ k ∧ ∀ j, Wv.ref j ∈ fs.map (·.2) → j < k
  | _ => True
structure Sim (K : PySem.W.Frag) (Φ : Addr → Prop) (ρ : List Addr) (H : Hp) (S : Sto) : Prop where
  len : ρ.length = S.length
  cell : ∀ (k : Nat) (a : Addr) (c : Cell), ρ[k]? = some a → S[k]? = some c → CellOk K Φ ρ H a c
  inj : ∀ (i j : Nat) (a : Addr) (c d : Cell), ρ[i]? = some a → ρ[j]? = some a → S[i]? = some c → S[j]? = some d → c.mut = true → d.mut = true → i = j
  ord : ∀ (k : Nat) (c : Cell), S[k]? = some c → OrdC k c
  phi : ∀ a, Φ a → H a ≠ none
/-- what may stand at a cell that may change -/
def MutO : HO → Prop
  | .lst _ => True
  | .dK _ => True
  | .ins _ _ _ => True
  | _ => False
/-- from one state to a later one; A: addresses that may be taken besides -/
structure TrA (A : Addr → Prop) (Φ : Addr → Prop) (ρ : List Addr) (S : Sto) (H : Hp) (Φ' : Addr → Prop) (ρ' : List Addr) (S' : Sto) (H' : Hp) : Prop where
  keep : ∀ a o, H a = some o → ¬ MutAt ρ S a → H' a = some o
  there : ∀ a, H a ≠ none → H' a ≠ none
  phi : ∀ a, Φ a → Φ' a
  phi' : ∀ a, Φ' a → Φ a ∨ H a = none ∨ MutAt ρ S a ∨ A a
  pre : ∃ more, ρ' = ρ ++ more
  mt : ∀ a, MutAt ρ' S' a → MutAt ρ S a ∨ H a = none ∨ A a
abbrev Tr := TrA (fun _ => False)

section
variable {K : PySem.W.Frag} {Φ Φ' Φ1 Φ2 : Addr → Prop} {ρ ρ' ρ1 ρ2 : List Addr} {S S' S1 S2 : Sto} {H H' H0 H1 H2 : Hp} {v : V} {vs : List V} {d : D} {ds : List D} {A B : Addr → Prop}

theorem TrA.refl : TrA A Φ ρ S H Φ ρ S H := ⟨fun _ _ e _ => e, fun _ e => e, fun _ e => e, fun _ e => .inl e, ⟨[], by simp⟩, fun _ e => .inl e⟩
/-- behind a step from H, a step that takes what was not there at H -/
theorem TrA.trans (t : TrA A Φ ρ S H Φ1 ρ1 S1 H1) (u : TrA B Φ1 ρ1 S1 H1 Φ2 ρ2 S2 H2) (hB : ∀ a, B a → H a = none ∨ A a) (hA : ∀ a, A a → B a ∨ H1 a = none ∨ ¬ MutAt ρ1 S1 a → A a := by intro _ h _; exact h)
    (kA : ∀ a o, H a = some o → ¬ MutAt ρ S a → ¬ MutAt ρ1 S1 a) : TrA A Φ ρ S H Φ2 ρ2 S2 H2 where
  keep := fun a o e n => u.keep a o (t.keep a o e n) (kA a o e n)
  there := fun a e => u.there a (t.there a e)
  phi := fun a e => u.phi a (t.phi a e)
  phi' := fun a e => by
    rcases u.phi' a e with h | h | h | h
    · exact t.phi' a h
    · refine .inr (.inl ?_)
      cases q : H a with
      | none => rfl
      | some o => exact absurd h (t.there a (by rw [q]; simp))
    · rcases t.mt a h with h | h | h
      · exact .inr (.inr (.inl h))
      · exact .inr (.inl h)
      · exact .inr (.inr (.inr h))
    · rcases hB a h with h | h
      · exact .inr (.inl h)
      · exact .inr (.inr (.inr h))
  pre := by
    obtain ⟨m1, e1⟩ := t.pre
    obtain ⟨m2, e2⟩ := u.pre
    exact ⟨m1 ++ m2, by rw [e2, e1, List.append_assoc]⟩
  mt := fun a e => by
    rcases u.mt a e with h | h | h
    · exact t.mt a h
    · refine .inr (.inl ?_)
      cases q : H a with
      | none => rfl
      | some o => exact absurd h (t.there a (by rw [q]; simp))
    · exact .inr (hB a h)
theorem Tr.noMut (t : Tr Φ ρ S H Φ1 ρ1 S1 H1) {a : Addr} (e : H a ≠ none) (n : ¬ MutAt ρ S a) : ¬ MutAt ρ1 S1 a := fun h => by
  rcases t.mt a h with h | h | h
  · exact n h
  · exact e h
  · exact h
theorem Tr.trans (t : Tr Φ ρ S H Φ1 ρ1 S1 H1) (u : Tr Φ1 ρ1 S1 H1 Φ2 ρ2 S2 H2) : Tr Φ ρ S H Φ2 ρ2 S2 H2 :=
  TrA.trans t u (fun _ h => h.elim) (kA := fun a o e n => t.noMut (by rw [e]; simp) n)
/-- behind a step from H, a step that takes what was not there at H -/
theorem Tr.take (t : Tr Φ ρ S H Φ1 ρ1 S1 H1) (u : TrA B Φ1 ρ1 S1 H1 Φ2 ρ2 S2 H2) (hB : ∀ a, B a → H a = none) : Tr Φ ρ S H Φ2 ρ2 S2 H2 :=
  TrA.trans t u (fun a h => .inl (hB a h)) (kA := fun a o e n => t.noMut (by rw [e]; simp) n)
theorem TrA.rho (t : TrA A Φ ρ S H Φ1 ρ1 S1 H1) {k : Nat} {a : Addr} (e : ρ[k]? = some a) : ρ1[k]? = some a := by
  obtain ⟨m, rfl⟩ := t.pre
  rw [List.getElem?_append_left (List.getElem?_eq_some_iff.mp e).1, e]

theorem Sim.mutl (s : Sim K Φ ρ H S) {a : Addr} (m : MutAt ρ S a) : ∃ o, H a = some o ∧ MutO o ∧ ¬ Φ a := by
  obtain ⟨k, c, e1, e2, e3⟩ := m
  have q := s.cell k a _ e1 e2
  cases c with
  | lst xs => obtain ⟨vs, h, _, n⟩ := q; exact ⟨_, h, trivial, n⟩
  | val x => cases e3
  | dct kvs => obtain ⟨ws, h, _, n⟩ := q; exact ⟨_, h, trivial, n⟩
  | ins C id fs => obtain ⟨dx, us, h, _, n, _⟩ := q; exact ⟨_, h, trivial, n⟩
  | dead => cases e3
  | lck _ => cases e3
theorem Sim.notMut (s : Sim K Φ ρ H S) {a : Addr} {o : HO} (h : H a = some o) (n : ¬ MutO o) : ¬ MutAt ρ S a := fun m => by
  obtain ⟨o', e, h', _⟩ := s.mutl m
  rw [h] at e; cases e; exact n h'
theorem Sim.seqT (s : Sim K Φ ρ H S) (t : TrA A Φ ρ S H Φ' ρ' S' H') {a : Addr} {xs : List V} (h : SqT K H a xs) : SqT K H' a xs := by
  rcases h with (h | ⟨o, h⟩) | h
  · exact .inl (.inl (t.keep a _ h (s.notMut h id)))
  · exact .inl (.inr ⟨o, t.keep a _ h (s.notMut h id)⟩)
  · exact .inr h
mutual
theorem Rep.mono (s : Sim K Φ ρ H S) (t : TrA A Φ ρ S H Φ' ρ' S' H') : ∀ {v : V} {d : D}, Rep K Φ H v d → Rep K Φ' H' v d
  | _, _, .non => .non
  | _, _, .bl b => .bl b
  | _, _, .int i => .int i
  | _, _, .str x => .str x
  | _, _, .lst hp h r => .lst (t.phi _ hp) (t.keep _ _ h fun m => (s.mutl m).elim fun _ q => q.2.2 hp) (RepA.mono s t r)
  | _, _, .lstK h r => .lstK h (RepA.mono s t r)
  | _, _, .lstF h r => .lstF (t.keep _ _ h (s.notMut h id)) (RepA.mono s t r)
  | _, _, .tup h r => .tup (s.seqT t h) (RepA.mono s t r)
theorem RepA.mono (s : Sim K Φ ρ H S) (t : TrA A Φ ρ S H Φ' ρ' S' H') : ∀ {vs : List V} {ds : List D}, RepA K Φ H vs ds → RepA K Φ' H' vs ds
  | _, _, .nil => .nil
  | _, _, .cons a b => .cons (Rep.mono s t a) (RepA.mono s t b)
end
/-- a later state, as far as what changes no more goes -/
structure Tw (Φ : Addr → Prop) (H : Hp) (Φ' : Addr → Prop) (H' : Hp) : Prop where
  phi : ∀ a, Φ a → Φ' a
  keep : ∀ a o, H a = some o → Φ a ∨ ¬ MutO o → H' a = some o
theorem Tw.trans {Φ1 Φ2 Φ3 : Addr → Prop} {H1 H2 H3 : Hp} (t : Tw Φ1 H1 Φ2 H2) (u : Tw Φ2 H2 Φ3 H3) : Tw Φ1 H1 Φ3 H3 :=
  ⟨fun a h => u.phi a (t.phi a h), fun a o e h => u.keep a o (t.keep a o e h) (h.imp (t.phi a) id)⟩
theorem TrA.tw (s : Sim K Φ ρ H S) (t : TrA A Φ ρ S H Φ' ρ' S' H') : Tw Φ H Φ' H' :=
  ⟨t.phi, fun a o e h => t.keep a o e fun m => by
    obtain ⟨o', e', h1, h2⟩ := s.mutl m
    rw [e] at e'; cases e'
    exact h.elim h2 fun z => z h1⟩
/-- an object that is nobody's may change -/
theorem Tw.upd {L : Addr} {o o' : HO} (hL : H L = some o) (hO : MutO o) (hp : ¬ Φ L) : Tw Φ H Φ (upd H L o') :=
  ⟨fun _ h => h, fun a u e h => by
    rw [upd_ne]
    · exact e
    · rintro rfl
      rw [hL] at e; cases e
      exact h.elim hp fun z => z hO⟩
theorem SqT.tw (t : Tw Φ H Φ' H') {a : Addr} {xs : List V} (h : SqT K H a xs) : SqT K H' a xs := by
  rcases h with (h | ⟨o, h⟩) | h
  · exact .inl (.inl (t.keep a _ h (.inr id)))
  · exact .inl (.inr ⟨o, t.keep a _ h (.inr id)⟩)
  · exact .inr h
mutual
theorem Rep.tw (t : Tw Φ H Φ' H') : ∀ {v : V} {d : D}, Rep K Φ H v d → Rep K Φ' H' v d
  | _, _, .non => .non
  | _, _, .bl b => .bl b
  | _, _, .int i => .int i
  | _, _, .str x => .str x
  | _, _, .lst hp h r => .lst (t.phi _ hp) (t.keep _ _ h (.inl hp)) (RepA.tw t r)
  | _, _, .lstK h r => .lstK h (RepA.tw t r)
  | _, _, .lstF h r => .lstF (t.keep _ _ h (.inr id)) (RepA.tw t r)
  | _, _, .tup h r => .tup (SqT.tw t h) (RepA.tw t r)
theorem RepA.tw (t : Tw Φ H Φ' H') : ∀ {vs : List V} {ds : List D}, RepA K Φ H vs ds → RepA K Φ' H' vs ds
  | _, _, .nil => .nil
  | _, _, .cons a b => .cons (Rep.tw t a) (RepA.tw t b)
end
theorem RepA.length : ∀ {vs : List V} {ds : List D}, RepA K Φ H vs ds → vs.length = ds.length
  | _, _, .nil => rfl
  | _, _, .cons _ b => by simp [RepA.length b]
theorem RepA.get : ∀ {vs : List V} {ds : List D} {i : Nat} {d : D}, RepA K Φ H vs ds → ds[i]? = some d → ∃ v, vs[i]? = some v ∧ Rep K Φ H v d
  | _, _, _, _, .nil, e => by simp at e
  | _, _, 0, _, .cons a _, e => by simp at e; subst e; exact ⟨_, rfl, a⟩
  | _, _, i + 1, _, .cons _ b, e => by
    obtain ⟨v, h1, h2⟩ := RepA.get (i := i) b (by simpa using e)
    exact ⟨v, by simpa using h1, h2⟩
theorem RepA.get' : ∀ {vs : List V} {ds : List D} {i : Nat} {v : V}, RepA K Φ H vs ds → vs[i]? = some v → ∃ d, ds[i]? = some d ∧ Rep K Φ H v d
  | _, _, _, _, .nil, e => by simp at e
  | _, _, 0, _, .cons a _, e => by simp at e; subst e; exact ⟨_, rfl, a⟩
  | _, _, i + 1, _, .cons _ b, e => by
    obtain ⟨v, h1, h2⟩ := RepA.get' (i := i) b (by simpa using e)
    exact ⟨v, by simpa using h1, h2⟩
theorem RepA.append : ∀ {vs ws : List V} {ds es : List D}, RepA K Φ H vs ds → RepA K Φ H ws es → RepA K Φ H (vs ++ ws) (ds ++ es)
  | _, _, _, _, .nil, b => b
  | _, _, _, _, .cons a t, b => .cons a (RepA.append t b)
theorem RepA.take : ∀ {vs : List V} {ds : List D} (n : Nat), RepA K Φ H vs ds → RepA K Φ H (vs.take n) (ds.take n)
  | _, _, 0, _ => .nil
  | _, _, _ + 1, .nil => .nil
  | _, _, n + 1, .cons a t => .cons a (RepA.take n t)
theorem RepA.drop : ∀ {vs : List V} {ds : List D} (n : Nat), RepA K Φ H vs ds → RepA K Φ H (vs.drop n) (ds.drop n)
  | _, _, 0, r => r
  | _, _, _ + 1, .nil => .nil
  | _, _, n + 1, .cons _ t => RepA.drop n t
theorem RepA.reverse {vs : List V} {ds : List D} (r : RepA K Φ H vs ds) : RepA K Φ H vs.reverse ds.reverse := by
  induction vs generalizing ds with
  | nil => cases r; exact .nil
  | cons v vs ih =>
    cases r with
    | cons a t =>
      rw [List.reverse_cons, List.reverse_cons]
      exact RepA.append (ih t) (.cons a .nil)
theorem RepA.set : ∀ {vs : List V} {ds : List D} {v : V} {d : D} (i : Nat), RepA K Φ H vs ds → Rep K Φ H v d → RepA K Φ H (vs.set i v) (ds.set i d)
  | _, _, _, _, _, .nil, _ => .nil
  | _, _, _, _, 0, .cons _ t, r => .cons r t
  | _, _, _, _, i + 1, .cons a t, r => .cons a (RepA.set i t r)
theorem RepA.rep {vs : List V} {ds : List D} (r : RepA K Φ H vs ds) : ∀ n : Nat, RepA K Φ H (List.replicate n vs).flatten (List.replicate n ds).flatten
  | 0 => .nil
  | n + 1 => by
    rw [List.replicate_succ, List.replicate_succ, List.flatten_cons, List.flatten_cons]
    exact r.append (RepA.rep r n)
theorem RepA.eraseIdx : ∀ {vs : List V} {ds : List D} (i : Nat), RepA K Φ H vs ds → RepA K Φ H (vs.eraseIdx i) (ds.eraseIdx i)
  | _, _, _, .nil => .nil
  | _, _, 0, .cons _ t => t
  | _, _, i + 1, .cons a t => .cons a (RepA.eraseIdx i t)
theorem RepA.insertIdx : ∀ {vs : List V} {ds : List D} {v : V} {d : D} (i : Nat), RepA K Φ H vs ds → Rep K Φ H v d → RepA K Φ H (vs.insertIdx i v) (ds.insertIdx i d)
  | _, _, _, _, 0, r, q => .cons q r
  | _, _, _, _, _ + 1, .nil, _ => .nil
  | _, _, _, _, i + 1, .cons a t, q => .cons a (RepA.insertIdx i t q)

mutual
theorem Rep.dp : ∀ {v : V} {d : D}, Rep K Φ H v d → Dp K H v d
  | _, _, .non => .non
  | _, _, .bl b => .bl b
  | _, _, .int i => .int i
  | _, _, .str x => .str x
  | _, _, .lst _ h r => .lst (SqL.of h) (RepA.dp r)
  | _, _, .lstK h r => .lst (.inr h) (RepA.dp r)
  | _, _, .lstF h r => .lst (.inl (.inr ⟨_, h⟩)) (RepA.dp r)
  | _, _, .tup h r => .tup h (RepA.dp r)
theorem RepA.dp : ∀ {vs : List V} {ds : List D}, RepA K Φ H vs ds → DpAll K H vs ds
  | _, _, .nil => .nil
  | _, _, .cons a b => .cons (Rep.dp a) (RepA.dp b)
end

/-- a result; H0: the heap ahead of the expression -/
def RepR (K : PySem.W.Frag) (Φ : Addr → Prop) (ρ : List Addr) (S : Sto) (H H0 : Hp) (v : V) : R → Prop
  | .d x => Rep K Φ H v x
  | .new xs => ∃ a vs, v = .ref a ∧ H a = some (.lst vs) ∧ RepA K Φ H vs xs ∧ ¬ Φ a ∧ ¬ MutAt ρ S a ∧ H0 a = none
  | .newd kvs => ∃ a ws, v = .ref a ∧ H a = some (.dK ws) ∧ RepKV K Φ H ws kvs ∧ ¬ Φ a ∧ ¬ MutAt ρ S a ∧ H0 a = none
  | .ref k => ∃ a, v = .ref a ∧ ρ[k]? = some a
theorem RepW.mono (s : Sim K Φ ρ H S) (t : TrA A Φ ρ S H Φ' ρ' S' H') {w : Wv} (r : RepW K Φ ρ H v w) : RepW K Φ' ρ' H' v w := by
  cases w with
  | d x => exact Rep.mono s t r
  | ref k =>
    obtain ⟨a, e, h⟩ := r
    exact ⟨a, e, t.rho h⟩
theorem RepKV.mono (s : Sim K Φ ρ H S) (t : TrA A Φ ρ S H Φ' ρ' S' H') {ws : List (Key × V)} {kvs : List (Key × D)} (r : RepKV K Φ H ws kvs) : RepKV K Φ' H' ws kvs := ⟨r.1, RepA.mono s t r.2⟩
theorem RepFs.mono (s : Sim K Φ ρ H S) (t : TrA A Φ ρ S H Φ' ρ' S' H') {us : List (Str × V)} {fs : List (Str × Wv)} (r : RepFs K Φ ρ H us fs) : RepFs K Φ' ρ' H' us fs := ⟨r.1, L2.Paired.mapP r.2 fun _ _ q => q.mono s t⟩
theorem Tr.newNot (t : Tr Φ ρ S H Φ' ρ' S' H') {a : Addr} {o : HO} (h1 : H a = some o) (h3 : ¬ Φ a) (h4 : ¬ MutAt ρ S a) : ¬ Φ' a := fun p => by
  rcases t.phi' a p with q | q | q | q
  · exact h3 q
  · rw [h1] at q; cases q
  · exact h4 q
  · exact q
theorem RepR.mono (s : Sim K Φ ρ H S) (t : Tr Φ ρ S H Φ' ρ' S' H') {r : R} (h : RepR K Φ ρ S H H0 v r) : RepR K Φ' ρ' S' H' H0 v r := by
  cases r with
  | d x => exact Rep.mono s t h
  | new xs =>
    obtain ⟨a, vs, e, h1, h2, h3, h4, h5⟩ := h
    exact ⟨a, vs, e, t.keep a _ h1 h4, RepA.mono s t h2, t.newNot h1 h3 h4, t.noMut (by rw [h1]; simp) h4, h5⟩
  | newd kvs =>
    obtain ⟨a, vs, e, h1, h2, h3, h4, h5⟩ := h
    exact ⟨a, vs, e, t.keep a _ h1 h4, h2.mono s t, t.newNot h1 h3 h4, t.noMut (by rw [h1]; simp) h4, h5⟩
  | ref k =>
    obtain ⟨a, e, h⟩ := h
    exact ⟨a, e, t.rho h⟩
theorem RepR.early {r : R} (h : RepR K Φ ρ S H H1 v r) (k : ∀ a, H0 a ≠ none → H1 a ≠ none) : RepR K Φ ρ S H H0 v r := by
  have key : ∀ a, H1 a = none → H0 a = none := fun a h5 => by
    cases q : H0 a with
    | none => rfl
    | some o => exact absurd h5 (k a (by rw [q]; simp))
  cases r with
  | d x => exact h
  | new xs =>
    obtain ⟨a, vs, e, h1, h2, h3, h4, h5⟩ := h
    exact ⟨a, vs, e, h1, h2, h3, h4, key a h5⟩
  | newd xs =>
    obtain ⟨a, vs, e, h1, h2, h3, h4, h5⟩ := h
    exact ⟨a, vs, e, h1, h2, h3, h4, key a h5⟩
  | ref k => exact h
structure EnvR (K : PySem.W.Frag) (Φ : Addr → Prop) (ρ : List Addr) (H : Hp) (σ : L2.St) (sg : Sg) : Prop where
  len : σ.length = sg.length
  get : ∀ (i : Nat) (w : Wv), sg[i]? = some (some w) → ∃ v, σ[i]? = some (some v) ∧ RepW K Φ ρ H v w
theorem EnvR.mono {σ : L2.St} {sg : Sg} (s : Sim K Φ ρ H S) (t : TrA A Φ ρ S H Φ' ρ' S' H') (e : EnvR K Φ ρ H σ sg) : EnvR K Φ' ρ' H' σ sg :=
  ⟨e.len, fun i w h => let ⟨v, h1, h2⟩ := e.get i w h; ⟨v, h1, h2.mono s t⟩⟩
theorem EnvR.set {σ : L2.St} {sg : Sg} {w : Wv} (e : EnvR K Φ ρ H σ sg) (i : Nat) (r : RepW K Φ ρ H v w) : EnvR K Φ ρ H (σ.set i (some v)) (sg.set i (some w)) := by
  refine ⟨by simp [e.len], fun j u h => ?_⟩
  by_cases hj : i = j
  · subst hj
    by_cases hl : i < sg.length
    · rw [List.getElem?_set_self hl] at h
      cases h
      exact ⟨v, List.getElem?_set_self (by rw [e.len]; exact hl), r⟩
    · rw [List.getElem?_eq_none (by simpa using hl)] at h
      cases h
  · rw [List.getElem?_set_ne hj] at h
    obtain ⟨u', h1, h2⟩ := e.get j u h
    exact ⟨u', by rw [List.getElem?_set_ne hj]; exact h1, h2⟩
theorem EnvR.unset {σ : L2.St} {sg : Sg} (e : EnvR K Φ ρ H σ sg) (i : Nat) : EnvR K Φ ρ H (σ.set i none) (sg.set i none) := by
  refine ⟨by simp [e.len], fun j u h => ?_⟩
  by_cases hj : i = j
  · subst hj
    by_cases hl : i < sg.length
    · rw [List.getElem?_set_self hl] at h
      cases h
    · rw [List.getElem?_eq_none (by simpa using hl)] at h
      cases h
  · rw [List.getElem?_set_ne hj] at h
    obtain ⟨u', h1, h2⟩ := e.get j u h
    exact ⟨u', by rw [List.getElem?_set_ne hj]; exact h1, h2⟩

/-- a list laid at an untracked address, a new result -/
theorem Tr.newObj {p : Addr} {o : HO} (hp : H p = none) : Tr Φ ρ S H Φ ρ S (upd H p o) :=
  ⟨fun a u e _ => by rw [upd_ne (ne_of_none e hp)]; exact e, fun a e => by
    unfold upd
    split
    · simp
    · exact e, fun _ e => e, fun _ e => .inl e, ⟨[], by simp⟩, fun _ e => .inl e⟩
theorem CellOk.mono (s : Sim K Φ ρ H S) (t : TrA A Φ ρ S H Φ' ρ' S' H') {a : Addr} {c : Cell} (q : CellOk K Φ ρ H a c) (h : c.mut = true → ¬ Φ' a ∧ H' a = H a) (hd : ∀ C dx us, H a = some (.ins C dx us) → c = .dead → ∃ C' dx' us', H' a = some (.ins C' dx' us')) : CellOk K Φ' ρ' H' a c := by
  cases c with
  | lst xs =>
    obtain ⟨vs, e, r, n⟩ := q
    obtain ⟨h1, h2⟩ := h rfl
    exact ⟨vs, by rw [h2]; exact e, RepA.mono s t r, h1⟩
  | val x => exact ⟨t.phi a q.1, Rep.mono s t q.2⟩
  | dct kvs =>
    obtain ⟨ws, e, r, n⟩ := q
    obtain ⟨h1, h2⟩ := h rfl
    exact ⟨ws, by rw [h2]; exact e, r.mono s t, h1⟩
  | ins C id fs =>
    obtain ⟨dx, us, e, r, n, hi⟩ := q
    obtain ⟨h1, h2⟩ := h rfl
    exact ⟨dx, us, by rw [h2]; exact e, r.mono s t, h1, t.rho hi⟩
  | dead =>
    obtain ⟨C, dx, us, e⟩ := q
    exact hd C dx us e rfl
  | lck kvs =>
    obtain ⟨o, ws, e, r⟩ := q
    exact ⟨o, ws, t.keep a _ e (s.notMut e id), r.mono s t⟩
theorem Sim.mono' (s : Sim K Φ ρ H S) (t : TrA A Φ ρ S H Φ' ρ S H') (hm : ∀ a, MutAt ρ S a → ¬ Φ' a ∧ H' a = H a) (hphi : ∀ a, Φ' a → H' a ≠ none) : Sim K Φ' ρ H' S :=
  ⟨s.len, fun k a c e1 e2 => (s.cell k a c e1 e2).mono s t (fun e3 => hm a ⟨k, c, e1, e2, e3⟩) fun C dx us e _ => by
    by_cases m : MutAt ρ S a
    · exact ⟨C, dx, us, by rw [(hm a m).2]; exact e⟩
    · exact ⟨C, dx, us, t.keep a _ e m⟩, s.inj, s.ord, hphi⟩
theorem Sim.newObj {p : Addr} {o : HO} (s : Sim K Φ ρ H S) (hp : H p = none) : Sim K Φ ρ (upd H p o) S :=
  s.mono' (Tr.newObj hp) (fun a m => by
    obtain ⟨vs, h, _, n⟩ := s.mutl m
    exact ⟨n, upd_ne (ne_of_none h hp)⟩) fun a e => by
    unfold upd
    split
    · simp
    · exact s.phi a e
/-- the new result itself -/
theorem RepR.newL {p : Addr} {ws : List V} {xs : List D} (s : Sim K Φ ρ H S) (hp : H p = none) (r : RepA K Φ H ws xs) : RepR K Φ ρ S (upd H p (.lst ws)) H (.ref p) (.new xs) :=
  ⟨p, ws, rfl, upd_same, RepA.mono s (A := fun _ => False) (Tr.newObj hp) r, fun e => s.phi p e hp, (fun m => by
    obtain ⟨vs, h, _⟩ := s.mutl m
    rw [hp] at h; cases h), hp⟩
theorem RepR.newDct {p : Addr} {ws : List (Key × V)} {kvs : List (Key × D)} (s : Sim K Φ ρ H S) (hp : H p = none) (r : RepKV K Φ H ws kvs) : RepR K Φ ρ S (upd H p (.dK ws)) H (.ref p) (.newd kvs) :=
  ⟨p, ws, rfl, upd_same, r.mono s (A := fun _ => False) (Tr.newObj hp), fun e => s.phi p e hp, (fun m => by
    obtain ⟨vs, h, _⟩ := s.mutl m
    rw [hp] at h; cases h), hp⟩
theorem Rep.newT {p : Addr} {ws : List V} {xs : List D} (s : Sim K Φ ρ H S) (hp : H p = none) (r : RepA K Φ H ws xs) : Rep K Φ (upd H p (.tup ws)) (.ref p) (.tuple xs) :=
  .tup (SqT.of upd_same) (RepA.mono s (A := fun _ => False) (Tr.newObj hp) r)
end
end Dl
namespace Dl
open PySem PySem.Spec PyProof.Rows L2

/-- an exception: its class (by a number), its fields -/
structure Exc where
  c : Nat
  fs : List (Str × D)
inductive Out (α : Type) where
  | ok (a : α) (S : Sto)
  | exc (e : Exc) (S : Sto)
  | stuck
def Out.bind {α β : Type} (o : Out α) (f : α → Sto → Out β) : Out β := match o with
  | .ok a S => f a S
  | .exc e S => .exc e S
  | .stuck => .stuck
def Out.wp {α : Type} (o : Out α) (p : α → Sto → Prop) (q : Exc → Sto → Prop) : Prop := match o with
  | .ok a S => p a S
  | .exc e S => q e S
  | .stuck => False
theorem Out.wp_bind {α β : Type} {o : Out α} {f : α → Sto → Out β} {p : β → Sto → Prop} {q : Exc → Sto → Prop} (h : (o.bind f).wp p q) : o.wp (fun a S => (f a S).wp p q) q := by
  cases o <;> exact h
theorem Out.wp_mono {α : Type} {o : Out α} {p p' : α → Sto → Prop} {q q' : Exc → Sto → Prop} (h : o.wp p q) (hp : ∀ a S, o = .ok a S → p a S → p' a S) (hq : ∀ e S, q e S → q' e S) : o.wp p' q' := by
  cases o with
  | ok a S => exact hp a S rfl h
  | exc e S => exact hq e S h
  | stuck => exact h
theorem Out.wp_bind' {α β : Type} {o : Out α} {f : α → Sto → Out β} {p : β → Sto → Prop} {q : Exc → Sto → Prop} (h : o.wp (fun a S => (f a S).wp p q) q) : (o.bind f).wp p q := by
  cases o <;> exact h
@[simp] theorem Out.bind_ok {α β : Type} (a : α) (S : Sto) (f : α → Sto → Out β) : (Out.ok a S).bind f = f a S := rfl

/-- what is wanted of an exception, from the state ahead -/
structure XZ where
  p : (Addr → Prop) → List Addr → Sto → Hp → Exc → Sto → Prop
  after : ∀ {Φ Φ1 ρ ρ1 S S1 H H1 e S'}, p Φ ρ S H e S' → Tr Φ ρ S H Φ1 ρ1 S1 H1 → p Φ1 ρ1 S1 H1 e S'
def XZ.no : XZ := ⟨fun _ _ _ _ _ _ => False, fun h _ => h⟩

abbrev FE := Sg → Sto → Out R
abbrev FT := Sg → Sto → Out Bool
abbrev FA := Sg → Sto → Out (List Wv)
def PostE (K : PySem.W.Frag) (Φ : Addr → Prop) (ρ : List Addr) (S : Sto) (H : Hp) (r : R) (S' : Sto) (Q : VK) : Prop :=
  ∀ Φ' ρ' H' v, Tr Φ ρ S H Φ' ρ' S' H' → Sim K Φ' ρ' H' S' → RepR K Φ' ρ' S' H' H v r → Q v H'
def PostT (K : PySem.W.Frag) (Φ : Addr → Prop) (ρ : List Addr) (S : Sto) (H : Hp) (b : Bool) (S' : Sto) (Q : Bool → Hp → Prop) : Prop :=
  ∀ Φ' ρ' H', Tr Φ ρ S H Φ' ρ' S' H' → Sim K Φ' ρ' H' S' → Q b H'
abbrev RepWs (K : PySem.W.Frag) (Φ : Addr → Prop) (ρ : List Addr) (H : Hp) : List V → List Wv → Prop := Paired (RepW K Φ ρ H)
def PostA (K : PySem.W.Frag) (Φ : Addr → Prop) (ρ : List Addr) (S : Sto) (H : Hp) (ws : List Wv) (S' : Sto) (Q : List V → Hp → Prop) : Prop :=
  ∀ Φ' ρ' H' vs, Tr Φ ρ S H Φ' ρ' S' H' → Sim K Φ' ρ' H' S' → RepWs K Φ' ρ' H' vs ws → Q vs H'
section
variable {K : PySem.W.Frag} {Φ Φ' Φ1 Φ2 : Addr → Prop} {ρ ρ' ρ1 ρ2 : List Addr} {S S' S1 S2 : Sto} {H H' H0 H1 H2 : Hp} {v : V} {vs : List V} {d : D} {ds : List D} {A B : Addr → Prop} {r : R}
theorem PostE.after {Q : VK} (h : PostE K Φ ρ S H r S' Q) (t : Tr Φ ρ S H Φ1 ρ1 S1 H1) : PostE K Φ1 ρ1 S1 H1 r S' Q :=
  fun Φ' ρ' H' v u s q => h Φ' ρ' H' v (t.trans u) s (q.early t.there)
theorem PostT.after {b : Bool} {Q : Bool → Hp → Prop} (h : PostT K Φ ρ S H b S' Q) (t : Tr Φ ρ S H Φ1 ρ1 S1 H1) : PostT K Φ1 ρ1 S1 H1 b S' Q :=
  fun Φ' ρ' H' u s => h Φ' ρ' H' (t.trans u) s
theorem PostA.after {ws : List Wv} {Q : List V → Hp → Prop} (h : PostA K Φ ρ S H ws S' Q) (t : Tr Φ ρ S H Φ1 ρ1 S1 H1) : PostA K Φ1 ρ1 S1 H1 ws S' Q :=
  fun Φ' ρ' H' vs u s q => h Φ' ρ' H' vs (t.trans u) s q
theorem RepWs.mono (s : Sim K Φ ρ H S) (t : TrA A Φ ρ S H Φ' ρ' S' H') {vs : List V} {ws : List Wv} (h : RepWs K Φ ρ H vs ws) : RepWs K Φ' ρ' H' vs ws := L2.Paired.mapP h fun _ _ r => r.mono s t
end
def tE (K : PySem.W.Frag) (Z : XZ) (f : FE) : TE := fun σ H Q => ∃ sg S Φ ρ, EnvR K Φ ρ H σ sg ∧ Sim K Φ ρ H S ∧ (f sg S).wp (fun r S' => PostE K Φ ρ S H r S' Q) (fun e S' => Z.p Φ ρ S H e S')
def tT (K : PySem.W.Frag) (Z : XZ) (f : FT) : TT := fun σ H Q => ∃ sg S Φ ρ, EnvR K Φ ρ H σ sg ∧ Sim K Φ ρ H S ∧ (f sg S).wp (fun r S' => PostT K Φ ρ S H r S' Q) (fun e S' => Z.p Φ ρ S H e S')
def tA (K : PySem.W.Frag) (Z : XZ) (f : FA) : TA := fun σ H Q => ∃ sg S Φ ρ, EnvR K Φ ρ H σ sg ∧ Sim K Φ ρ H S ∧ (f sg S).wp (fun r S' => PostA K Φ ρ S H r S' Q) (fun e S' => Z.p Φ ρ S H e S')
structure DE (X : Cx) (Z : XZ) (e : Expr) (f : FE) : Prop where
  pe : PE X e (tE X.K Z f)
structure DT (X : Cx) (Z : XZ) (e : Expr) (f : FT) : Prop where
  pt : PT X e (tT X.K Z f)
structure DW (X : Cx) (Z : XZ) (e : Expr) (f : FT) : Prop where
  pw : PW X e (tT X.K Z f)
structure DA (X : Cx) (Z : XZ) (es : List Expr) (f : FA) : Prop where
  pa : PA X es (tA X.K Z f)
theorem PE.imp {X : Cx} {e : Expr} {t t' : TE} (h : PE X e t) (k : ∀ σ H Q, t' σ H Q → t σ H Q) : PE X e t' := ⟨fun p s σ H Q I q => h.run p s σ H Q I (k σ H Q q)⟩
theorem PT.imp {X : Cx} {e : Expr} {t t' : TT} (h : PT X e t) (k : ∀ σ H Q, t' σ H Q → t σ H Q) : PT X e t' := ⟨fun p s σ H Q I q => h.run p s σ H Q I (k σ H Q q)⟩
theorem PW.imp {X : Cx} {e : Expr} {t t' : TT} (h : PW X e t) (k : ∀ σ H Q, t' σ H Q → t σ H Q) : PW X e t' := ⟨fun w p s σ H Q I q => h.run w p s σ H Q I (k σ H Q q)⟩
theorem PA.imp {X : Cx} {e : List Expr} {t t' : TA} (h : PA X e t) (k : ∀ σ H Q, t' σ H Q → t σ H Q) : PA X e t' := ⟨fun w p s σ H Q I q => h.run w p s σ H Q I (k σ H Q q)⟩
theorem PS.imp {X : Cx} {e : Stmt} {t t' : TS} (h : PS X e t) (k : ∀ D σ H, t' D σ H → t D σ H) : PS X e t' := ⟨fun p s σ H D I q => h.run p s σ H D I (k D σ H q)⟩
theorem PSs.imp {X : Cx} {e : List Stmt} {t t' : TS} (h : PSs X e t) (k : ∀ D σ H, t' D σ H → t D σ H) : PSs X e t' := ⟨fun p s σ H D I q => h.run p s σ H D I (k D σ H q)⟩

/-! ### results made data -/
def toD : R → Sto → Out D
  | .d x, S => .ok x S
  | .new xs, S => .ok (.list xs) S
  | .ref k, S => match S[k]? with
    | some (.lst xs) => .ok (.list xs) (S.set k (.val (.list xs)))
    | some (.val d) => .ok d S
    | _ => .stuck
  | .newd _, _ => .stuck
/-- for a slot, an argument: a new dict becomes a cell -/
def toW : R → Sto → Out Wv
  | .d x, S => .ok (.d x) S
  | .new xs, S => .ok (.d (.list xs)) S
  | .newd kvs, S => .ok (.ref S.length) (S ++ [.dct kvs])
  | .ref k, S => .ok (.ref k) S
/-- what a result looks like, for reading -/
def pk (S : Sto) : R → Option D
  | .d x => some x
  | .new xs => some (.list xs)
  | .ref k => match S[k]? with
    | some (.lst xs) => some (.list xs)
    | some (.val d) => some d
    | _ => none
  | .newd _ => none
/-- a dict, for reading -/
def dk (S : Sto) : R → Option (List (Key × D))
  | .newd kvs => some kvs
  | .ref k => match S[k]? with
    | some (.dct kvs) => some kvs
    | some (.lck kvs) => some kvs
    | _ => none
  | _ => none
def pkW (S : Sto) : Wv → Option D
  | .d x => some x
  | .ref k => match S[k]? with
    | some (.lst xs) => some (.list xs)
    | some (.val d) => some d
    | _ => none
section
variable {K : PySem.W.Frag} {Φ Φ' Φ1 Φ2 : Addr → Prop} {ρ ρ' ρ1 ρ2 : List Addr} {S S' S1 S2 : Sto} {H H' H0 H1 H2 : Hp} {v : V} {vs : List V} {d : D} {ds : List D} {A B : Addr → Prop} {r : R}
/-- a new list is held fast -/
theorem hold_new {a : Addr} {ws : List V} {xs : List D} (s : Sim K Φ ρ H S) (h1 : H a = some (.lst ws)) (h2 : RepA K Φ H ws xs) (h4 : ¬ MutAt ρ S a) (h5 : H0 a = none) :
    TrA (fun b => H0 b = none) Φ ρ S H (fun b => Φ b ∨ b = a) ρ S H ∧ Sim K (fun b => Φ b ∨ b = a) ρ H S ∧ Rep K (fun b => Φ b ∨ b = a) H (.ref a) (.list xs) := by
  have t : TrA (fun b => H0 b = none) Φ ρ S H (fun b => Φ b ∨ b = a) ρ S H := ⟨fun _ _ e _ => e, fun _ e => e, fun _ e => .inl e, fun b e => by
    rcases e with e | e
    · exact .inl e
    · subst e; exact .inr (.inr (.inr h5)), ⟨[], by simp⟩, fun _ e => .inl e⟩
  refine ⟨t, s.mono' t (fun b m => ⟨fun e => ?_, rfl⟩) (fun b e => ?_), .lst (.inr rfl) h1 (RepA.mono s t h2)⟩
  · rcases e with e | e
    · exact (s.mutl m).elim fun _ q => q.2.2 e
    · subst e; exact h4 m
  · rcases e with e | e
    · exact s.phi b e
    · subst e; rw [h1]; simp
theorem mutAt_set {k : Nat} {x : D} {b : Addr} (h : MutAt ρ (S.set k (.val x)) b) : MutAt ρ S b := by
  obtain ⟨j, c, e1, e2, e3⟩ := h
  refine ⟨j, c, e1, ?_, e3⟩
  by_cases hj : k = j
  · subst hj
    by_cases hl : k < S.length
    · rw [List.getElem?_set_self hl] at e2; cases e2; cases e3
    · rw [List.getElem?_eq_none (by simpa using hl)] at e2; cases e2
  · rwa [List.getElem?_set_ne hj] at e2
/-- a cell is held fast -/
theorem hold_cell {k : Nat} {a : Addr} {xs : List D} (s : Sim K Φ ρ H S) (hk : ρ[k]? = some a) (hc : S[k]? = some (Cell.lst xs)) :
    Tr Φ ρ S H (fun b => Φ b ∨ b = a) ρ (S.set k (.val (.list xs))) H ∧ Sim K (fun b => Φ b ∨ b = a) ρ H (S.set k (.val (.list xs))) ∧ Rep K (fun b => Φ b ∨ b = a) H (.ref a) (.list xs) := by
  obtain ⟨ws, h1, h2, h3⟩ := s.cell k a _ hk hc
  have hkl : k < S.length := (List.getElem?_eq_some_iff.mp hc).1
  have m : MutAt ρ S a := ⟨k, _, hk, hc, rfl⟩
  have t : Tr Φ ρ S H (fun b => Φ b ∨ b = a) ρ (S.set k (.val (.list xs))) H := ⟨fun _ _ e _ => e, fun _ e => e, fun _ e => .inl e, fun b e => by
    rcases e with e | e
    · exact .inl e
    · subst e; exact .inr (.inr (.inl m)), ⟨[], by simp⟩, fun b e => .inl (mutAt_set e)⟩
  have rep : Rep K (fun b => Φ b ∨ b = a) H (.ref a) (.list xs) := .lst (.inr rfl) h1 (RepA.mono s t h2)
  refine ⟨t, ⟨by simp [s.len], fun j b c e1 e2 => ?_, fun i j b c d e1 e2 e3 e4 e5 e6 => ?_, fun j c e1 => ?_, fun b e => ?_⟩, rep⟩
  · by_cases hj : k = j
    · subst hj
      rw [List.getElem?_set_self hkl] at e2
      cases e2
      rw [hk] at e1; cases e1
      exact ⟨.inr rfl, rep⟩
    · rw [List.getElem?_set_ne hj] at e2
      refine (s.cell j b c e1 e2).mono s t (fun e3 => ⟨fun e => ?_, rfl⟩) fun C dx us e _ => ⟨C, dx, us, e⟩
      rcases e with e | e
      · exact (s.mutl ⟨j, c, e1, e2, e3⟩).elim fun _ q => q.2.2 e
      · subst e; exact hj (s.inj k j _ _ _ hk e1 hc e2 rfl e3)
  · have n1 : k ≠ i := fun z => by
      subst z; rw [List.getElem?_set_self hkl] at e3; cases e3; cases e5
    have n2 : k ≠ j := fun z => by
      subst z; rw [List.getElem?_set_self hkl] at e4; cases e4; cases e6
    rw [List.getElem?_set_ne n1] at e3
    rw [List.getElem?_set_ne n2] at e4
    exact s.inj i j b c d e1 e2 e3 e4 e5 e6
  · by_cases n1 : k = j
    · subst n1; rw [List.getElem?_set_self hkl] at e1; cases e1; trivial
    rw [List.getElem?_set_ne n1] at e1
    exact s.ord j c e1
  · rcases e with e | e
    · exact s.phi b e
    · subst e; rw [h1]; simp
/-- a new object becomes a cell -/
theorem adopt {H0 : Hp} {a : Addr} {c : Cell} (s : Sim K Φ ρ H S) (q : CellOk K Φ (ρ ++ [a]) H a c) (hm : c.mut = true) (h4 : ¬ MutAt ρ S a) (h5 : H0 a = none) (ho : OrdC S.length c) :
    TrA (fun b => H0 b = none) Φ ρ S H Φ (ρ ++ [a]) (S ++ [c]) H ∧ Sim K Φ (ρ ++ [a]) H (S ++ [c]) ∧ (ρ ++ [a])[S.length]? = some a := by
  have gm : ∀ b, MutAt (ρ ++ [a]) (S ++ [c]) b → MutAt ρ S b ∨ b = a := fun b ⟨k, d, e1, e2, e3⟩ => by
    by_cases hk : k < S.length
    · rw [List.getElem?_append_left hk] at e2
      rw [List.getElem?_append_left (by rw [s.len]; exact hk)] at e1
      exact .inl ⟨k, d, e1, e2, e3⟩
    · rw [List.getElem?_append_right (by rw [s.len]; omega)] at e1
      rw [s.len] at e1
      have e1' := List.mem_of_getElem? e1
      simp at e1'
      exact .inr e1'
  have t : TrA (fun b => H0 b = none) Φ ρ S H Φ (ρ ++ [a]) (S ++ [c]) H := ⟨fun _ _ e _ => e, fun _ e => e, fun _ e => e, fun _ e => .inl e, ⟨[a], rfl⟩, fun b e => by
    rcases gm b e with e | e
    · exact .inl e
    · subst e; exact .inr (.inr h5)⟩
  have nPhi : ∀ b d, CellOk K Φ ρ H b d → d.mut = true → ¬ Φ b := fun b d q e => by
    cases d with
    | lst xs => obtain ⟨_, _, _, n⟩ := q; exact n
    | val x => cases e
    | dct kvs => obtain ⟨_, _, _, n⟩ := q; exact n
    | ins C id fs => obtain ⟨_, _, _, _, n, _⟩ := q; exact n
    | dead => cases e
    | lck _ => cases e
  refine ⟨t, ⟨by simp [s.len], fun k b d e1 e2 => ?_, fun i j b d e e1 e2 e3 e4 e5 e6 => ?_, fun k d e1 => ?_, s.phi⟩, by rw [← s.len]; simp⟩
  · by_cases hk : k < S.length
    · rw [List.getElem?_append_left hk] at e2
      rw [List.getElem?_append_left (by rw [s.len]; exact hk)] at e1
      have q := s.cell k b d e1 e2
      exact q.mono s t (fun e3 => ⟨nPhi b d q e3, rfl⟩) fun C dx us e _ => ⟨C, dx, us, e⟩
    · rw [List.getElem?_append_right (by omega)] at e2
      rw [List.getElem?_append_right (by rw [s.len]; omega), s.len] at e1
      have ek : k - S.length = 0 := by
        have := (List.getElem?_eq_some_iff.mp e2).1
        simp at this
        exact this
      rw [ek] at e1 e2
      simp at e1 e2
      subst e1 e2
      exact q
  · have key : ∀ i b d, (ρ ++ [a])[i]? = some b → (S ++ [c])[i]? = some d → (i < S.length ∧ ρ[i]? = some b ∧ S[i]? = some d) ∨ (i = S.length ∧ b = a) := fun i b d e1 e2 => by
      by_cases hk : i < S.length
      · rw [List.getElem?_append_left hk] at e2
        rw [List.getElem?_append_left (by rw [s.len]; exact hk)] at e1
        exact .inl ⟨hk, e1, e2⟩
      · rw [List.getElem?_append_right (by rw [s.len]; omega), s.len] at e1
        have hi := (List.getElem?_eq_some_iff.mp e1).1
        simp at hi
        rw [hi] at e1
        simp at e1
        exact .inr ⟨by omega, e1.symm⟩
    rcases key i b d e1 e3 with ⟨k1, k2, k3⟩ | ⟨k1, k2⟩ <;> rcases key j b e e2 e4 with ⟨g1, g2, g3⟩ | ⟨g1, g2⟩
    · exact s.inj i j b d e k2 g2 k3 g3 e5 e6
    · subst g2; exact absurd ⟨i, d, k2, k3, e5⟩ h4
    · subst k2; exact absurd ⟨j, e, g2, g3, e6⟩ h4
    · omega
  · by_cases hk : k < S.length
    · rw [List.getElem?_append_left hk] at e1
      exact s.ord k d e1
    · rw [List.getElem?_append_right (by omega)] at e1
      have ek : k - S.length = 0 := by
        have := (List.getElem?_eq_some_iff.mp e1).1
        simp at this
        exact this
      have hl : k = S.length := by omega
      rw [ek] at e1
      simp at e1
      subst e1
      rw [hl]
      exact ho
theorem Tr.up (t : Tr Φ ρ S H Φ' ρ' S' H') : TrA A Φ ρ S H Φ' ρ' S' H' :=
  ⟨t.keep, t.there, t.phi, fun a e => (t.phi' a e).elim .inl fun e => e.elim (fun e => .inr (.inl e)) fun e => e.elim (fun e => .inr (.inr (.inl e))) fun e => e.elim, t.pre, fun a e => (t.mt a e).elim .inl fun e => e.elim (fun e => .inr (.inl e)) fun e => e.elim⟩
theorem toD_ok (h : RepR K Φ ρ S H H0 v r) (s : Sim K Φ ρ H S) (e : toD r S = .ok d S') : ∃ Φ', TrA (fun b => H0 b = none) Φ ρ S H Φ' ρ S' H ∧ Sim K Φ' ρ H S' ∧ Rep K Φ' H v d := by
  cases r with
  | d x => cases e; exact ⟨Φ, .refl, s, h⟩
  | new xs =>
    cases e
    obtain ⟨a, ws, rfl, h1, h2, h3, h4, h5⟩ := h
    exact ⟨_, hold_new s h1 h2 h4 h5⟩
  | newd kvs => cases e
  | ref k =>
    obtain ⟨a, rfl, hk⟩ := h
    cases hc : S[k]? with
    | none => simp only [toD, hc] at e; cases e
    | some c =>
      simp only [toD, hc] at e
      cases c with
      | lst xs =>
        cases e
        obtain ⟨t, s', rep⟩ := hold_cell s hk hc
        exact ⟨_, t.up, s', rep⟩
      | val x =>
        cases e
        exact ⟨Φ, .refl, s, (s.cell k a _ hk hc).2⟩
      | dct _ => cases e
      | ins _ _ _ => cases e
      | dead => cases e
      | lck _ => cases e
theorem toW_ok {w : Wv} (h : RepR K Φ ρ S H H0 v r) (s : Sim K Φ ρ H S) (e : toW r S = .ok w S') : ∃ Φ' ρ', TrA (fun b => H0 b = none) Φ ρ S H Φ' ρ' S' H ∧ Sim K Φ' ρ' H S' ∧ RepW K Φ' ρ' H v w := by
  cases r with
  | d x => cases e; exact ⟨Φ, ρ, .refl, s, h⟩
  | new xs =>
    cases e
    obtain ⟨a, ws, rfl, h1, h2, h3, h4, h5⟩ := h
    exact ⟨_, ρ, hold_new s h1 h2 h4 h5⟩
  | newd kvs =>
    cases e
    obtain ⟨a, ws, rfl, h1, h2, h3, h4, h5⟩ := h
    obtain ⟨t2, s2, e2⟩ := adopt s (c := .dct kvs) ⟨ws, h1, h2, h3⟩ rfl h4 h5 trivial
    exact ⟨_, _, t2, s2, a, rfl, e2⟩
  | ref k => cases e; exact ⟨Φ, ρ, .refl, s, h⟩
theorem toW_noexc {e : Exc} : toW r S ≠ .exc e S' := by cases r <;> (intro h; cases h)
theorem toW_wp {p : Wv → Sto → Prop} {q : Exc → Sto → Prop} (r1 : RepR K Φ ρ S H H0 v r) (s : Sim K Φ ρ H S) (h : (toW r S).wp p q) :
    ∃ w S' Φ' ρ', p w S' ∧ TrA (fun b => H0 b = none) Φ ρ S H Φ' ρ' S' H ∧ Sim K Φ' ρ' H S' ∧ RepW K Φ' ρ' H v w := by
  cases e : toW r S with
  | ok d S' =>
    rw [e] at h
    obtain ⟨Φ', ρ', t, s', r'⟩ := toW_ok r1 s e
    exact ⟨d, S', Φ', ρ', h, t, s', r'⟩
  | exc e' S' => exact (toW_noexc e).elim
  | stuck => rw [e] at h; exact h.elim
/-- a value for reading -/
def View (K : PySem.W.Frag) (Φ : Addr → Prop) (H : Hp) (v : V) : D → Prop
  | .none => v = .non
  | .bool b => v = .bl b
  | .int i => v = .int i
  | .str x => v = .str x
  | .list ds => ∃ a vs, v = .ref a ∧ SqL K H a vs ∧ RepA K Φ H vs ds
  | .tuple ds => ∃ a vs, v = .ref a ∧ SqT K H a vs ∧ RepA K Φ H vs ds
  | .dict _ => False
theorem Rep.view (h : Rep K Φ H v d) : View K Φ H v d := by
  cases h with
  | non => rfl
  | bl b => rfl
  | int i => rfl
  | str x => rfl
  | lst p h r => exact ⟨_, _, rfl, SqL.of h, r⟩
  | lstK h r => exact ⟨_, _, rfl, .inr h, r⟩
  | lstF h r => exact ⟨_, _, rfl, .inl (.inr ⟨_, h⟩), r⟩
  | tup h r => exact ⟨_, _, rfl, h, r⟩
theorem pk_ok (h : RepR K Φ ρ S H H0 v r) (s : Sim K Φ ρ H S) (e : pk S r = some d) : View K Φ H v d := by
  cases r with
  | d x => cases e; exact Rep.view h
  | new xs =>
    cases e
    obtain ⟨a, ws, rfl, h1, h2, _⟩ := h
    exact ⟨a, ws, rfl, SqL.of h1, h2⟩
  | newd kvs => cases e
  | ref k =>
    obtain ⟨a, rfl, hk⟩ := h
    cases hc : S[k]? with
    | none => simp only [pk, hc] at e; cases e
    | some c =>
      simp only [pk, hc] at e
      cases c with
      | lst xs =>
        cases e
        obtain ⟨ws, h1, h2, _⟩ := s.cell k a _ hk hc
        exact ⟨a, ws, rfl, SqL.of h1, h2⟩
      | val x => cases e; exact Rep.view (s.cell k a _ hk hc).2
      | dct _ => cases e
      | ins _ _ _ => cases e
      | dead => cases e
      | lck _ => cases e
theorem dk_ok {kvs : List (Key × D)} (h : RepR K Φ ρ S H H0 v r) (s : Sim K Φ ρ H S) (e : dk S r = some kvs) : ∃ a ws, v = .ref a ∧ Rd H a (.dK ws) ∧ RepKV K Φ H ws kvs := by
  cases r with
  | d x => cases e
  | new xs => cases e
  | newd kvs =>
    cases e
    obtain ⟨a, ws, rfl, h1, h2, _⟩ := h
    exact ⟨a, ws, rfl, .inl h1, h2⟩
  | ref k =>
    obtain ⟨a, rfl, hk⟩ := h
    cases hc : S[k]? with
    | none => simp only [dk, hc] at e; cases e
    | some c =>
      simp only [dk, hc] at e
      cases c with
      | dct xs =>
        cases e
        obtain ⟨ws, h1, h2, _⟩ := s.cell k a _ hk hc
        exact ⟨a, ws, rfl, .inl h1, h2⟩
      | val _ => cases e
      | lst _ => cases e
      | ins _ _ _ => cases e
      | dead => cases e
      | lck xs =>
        cases e
        obtain ⟨o, ws, h1, h2⟩ := s.cell k a _ hk hc
        exact ⟨a, ws, rfl, .inr ⟨o, h1⟩, h2⟩
theorem pkW_ok {w : Wv} (h : RepW K Φ ρ H v w) (s : Sim K Φ ρ H S) (e : pkW S w = some d) : View K Φ H v d := by
  cases w with
  | d x => exact pk_ok (r := .d x) (H0 := H) h s e
  | ref k => exact pk_ok (r := .ref k) (H0 := H) h s e
theorem View.dp (h : View K Φ H v d) : Dp K H v d := by
  cases d with
  | none => cases h; exact .non
  | bool b => cases h; exact .bl b
  | int b => cases h; exact .int b
  | str b => cases h; exact .str b
  | list ds => obtain ⟨a, vs, rfl, h1, h2⟩ := h; exact .lst h1 h2.dp
  | tuple ds => obtain ⟨a, vs, rfl, h1, h2⟩ := h; exact .tup h1 h2.dp
  | dict _ => exact h.elim
end

/-! ### names, constants -/
def fVar (i : Nat) : FE := fun sg S => match sg[i]? with
  | some (some (.d x)) => .ok (.d x) S
  | some (some (.ref k)) => .ok (.ref k) S
  | _ => .stuck
def fC (d : D) : FE := fun _ S => .ok (.d d) S
section
variable {X : Cx} {Z : XZ}
theorem de_var {e : Expr} (i : Nat) (h : PE X e (tVar i)) : DE X Z e (fVar i) := by
  refine ⟨PE.imp h fun σ H Q q => ?_⟩
  obtain ⟨sg, S, Φ, ρ, env, sim, q⟩ := q
  unfold fVar at q
  split at q
  · rename_i x hx
    obtain ⟨v, h1, h2⟩ := env.get i _ hx
    exact ⟨v, h1, q _ _ _ v .refl sim h2⟩
  · rename_i k hx
    obtain ⟨v, h1, h2⟩ := env.get i _ hx
    exact ⟨v, h1, q _ _ _ v .refl sim h2⟩
  · exact q.elim
theorem de_con {e : Expr} {v : V} {d : D} (h : PE X e (tC v)) (r : ∀ Φ H, Rep X.K Φ H v d) : DE X Z e (fC d) := by
  refine ⟨PE.imp h fun σ H Q q => ?_⟩
  obtain ⟨sg, S, Φ, ρ, env, sim, q⟩ := q
  exact q _ _ _ v .refl sim (r _ _)
theorem de_int {i j pos} : DE X Z (.Constant (.int i) j pos) (fC (.int i)) := de_con pe_int fun _ _ => .int i
theorem de_bool {b j pos} : DE X Z (.Constant (.bool b) j pos) (fC (.bool b)) := de_con pe_bl fun _ _ => .bl b
theorem de_none {j pos} : DE X Z (.Constant .none j pos) (fC .none) := de_con pe_non fun _ _ => .non
theorem de_str {x j pos} : DE X Z (.Constant (.str x) j pos) (fC (.str x)) := de_con pe_str fun _ _ => .str x
/-- a constant of the module -/
theorem de_glob {x : Str} {v : V} {u : Value} {d : D} {pos : Pos} (hg : Gl X x) (hm : X.mg x = some u) (r : RelV v u) (rep : ∀ Φ H, Rep X.K Φ H v d) (hd : (x == ("__debug__" : Str)) = false := by decide) : DE X Z (.Name x pos) (fC d) := de_con (pe_glob hg hm r hd) rep

/-! ### arguments, displays -/
def fNil : FA := fun _ S => .ok [] S
def fCons (fe : FE) (fa : FA) : FA := fun sg S => (fe sg S).bind fun r S1 => (toW r S1).bind fun w S2 => (fa sg S2).bind fun ws S3 => .ok (w :: ws) S3
theorem da_nil : DA X Z [] fNil := by
  refine ⟨PA.imp pa_nil fun σ H Q q => ?_⟩
  obtain ⟨sg, S, Φ, ρ, env, sim, q⟩ := q
  exact q _ _ _ [] .refl sim .nil
theorem da_cons {e : Expr} {es : List Expr} {fe : FE} {fa : FA} (h1 : DE X Z e fe) (h2 : DA X Z es fa) (hs : starEach (e :: es) X.env = (false, eval e X.env) :: starEach es X.env := by rfl) : DA X Z (e :: es) (fCons fe fa) := by
  refine ⟨PA.imp (pa_cons h1.pe h2.pa hs) fun σ H Q q => ?_⟩
  obtain ⟨sg, S, Φ, ρ, env, sim, q⟩ := q
  refine ⟨sg, S, Φ, ρ, env, sim, Out.wp_mono (Out.wp_bind q) (fun r S1 _ q Φ1 ρ1 H1 v t1 s1 r1 => ?_) (fun _ _ z => z)⟩
  obtain ⟨w, S2, Φ2, ρ2, q, t2, s2, w2⟩ := toW_wp r1 s1 (Out.wp_bind q)
  have t12 := t1.take t2 fun _ h => h
  refine ⟨sg, S2, Φ2, ρ2, env.mono sim t12, s2, Out.wp_mono (Out.wp_bind q) (fun ws S2 _ q Φ3 ρ3 H3 vs t3 s3 r3 => ?_) (fun e S' z => Z.after z t12)⟩
  exact q Φ3 ρ3 H3 (v :: vs) (t12.trans t3) s3 (.cons (w2.mono s2 t3) r3)
def wD : Wv → Sto → Out D
  | .d x, S => .ok x S
  | .ref k, S => toD (.ref k) S
def wsD : List Wv → Sto → Out (List D)
  | [], S => .ok [] S
  | w :: ws, S => (wD w S).bind fun d S1 => (wsD ws S1).bind fun ds S2 => .ok (d :: ds) S2
end
section
variable {K : PySem.W.Frag} {Φ Φ' Φ1 Φ2 : Addr → Prop} {ρ ρ' ρ1 ρ2 : List Addr} {S S' S1 S2 : Sto} {H H' H0 H1 H2 : Hp} {v : V} {vs : List V} {d : D} {ds : List D} {A B : Addr → Prop} {r : R}
theorem Out.bind_ok_iff {α β : Type} {o : Out α} {f : α → Sto → Out β} {b : β} {S' : Sto} (h : o.bind f = .ok b S') : ∃ a S1, o = .ok a S1 ∧ f a S1 = .ok b S' := by
  cases o with
  | ok a S1 => exact ⟨a, S1, rfl, h⟩
  | exc e S1 => cases h
  | stuck => cases h
theorem wD_ok {w : Wv} (h : RepW K Φ ρ H v w) (s : Sim K Φ ρ H S) (e : wD w S = .ok d S') : ∃ Φ', Tr Φ ρ S H Φ' ρ S' H ∧ Sim K Φ' ρ H S' ∧ Rep K Φ' H v d := by
  cases w with
  | d x => cases e; exact ⟨Φ, .refl, s, h⟩
  | ref k =>
    obtain ⟨a, rfl, hk⟩ := h
    have e : toD (.ref k) S = .ok d S' := e
    cases hc : S[k]? with
    | none => simp only [toD, hc] at e; cases e
    | some c =>
      simp only [toD, hc] at e
      cases c with
      | lst xs =>
        cases e
        exact ⟨_, hold_cell s hk hc⟩
      | val x =>
        cases e
        exact ⟨Φ, .refl, s, (s.cell k a _ hk hc).2⟩
      | dct _ => cases e
      | ins _ _ _ => cases e
      | dead => cases e
      | lck _ => cases e
theorem wsD_ok : ∀ {vs : List V} {ws : List Wv} {ds : List D} {Φ : Addr → Prop} {S S' : Sto}, RepWs K Φ ρ H vs ws → Sim K Φ ρ H S → wsD ws S = .ok ds S' → ∃ Φ', Tr Φ ρ S H Φ' ρ S' H ∧ Sim K Φ' ρ H S' ∧ RepA K Φ' H vs ds
  | _, _, _, Φ, S, _, .nil, s, e => by cases e; exact ⟨Φ, .refl, s, .nil⟩
  | _, _, _, Φ, S, S', .cons r t, s, e => by
    obtain ⟨d, S1, e1, e⟩ := Out.bind_ok_iff e
    obtain ⟨ds, S2, e2, e⟩ := Out.bind_ok_iff e
    cases e
    obtain ⟨Φ1, t1, s1, r1⟩ := wD_ok r s e1
    obtain ⟨Φ2, t2, s2, r2⟩ := wsD_ok (L2.Paired.mapP t fun _ _ q => q.mono s t1) s1 e2
    exact ⟨Φ2, t1.trans t2, s2, .cons (Rep.mono s1 t2 r1) r2⟩
theorem wD_noexc {w : Wv} {e : Exc} : wD w S ≠ .exc e S' := by
  cases w with
  | d x => intro h; cases h
  | ref k =>
    intro h
    have h : toD (.ref k) S = .exc e S' := h
    cases hc : S[k]? with
    | none => simp only [toD, hc] at h; cases h
    | some c => cases c <;> (simp only [toD, hc] at h; cases h)
theorem wsD_noexc : ∀ {ws : List Wv} {S S' : Sto} {e : Exc}, wsD ws S ≠ .exc e S'
  | [], _, _, _ => fun h => nomatch h
  | w :: ws, S, S', e => fun h => by
    unfold wsD at h
    cases e1 : wD w S with
    | ok d S1 =>
      rw [e1] at h
      have h : (wsD ws S1).bind _ = _ := h
      cases e2 : wsD ws S1 with
      | ok ds S2 => rw [e2] at h; cases h
      | exc e' S2 => exact wsD_noexc e2
      | stuck => rw [e2] at h; cases h
    | exc e' S1 => exact wD_noexc e1
    | stuck => rw [e1] at h; cases h
/-- the longest list or tuple that is made -/
abbrev lim : Nat := 1000000
theorem lim_le {n : Nat} (h : n ≤ lim) : n ≤ sizeLine := Nat.le_trans h (by decide)
theorem lim_lt {n : Nat} (h : n < lim) : n < sizeLine := Nat.lt_of_lt_of_le h (by decide)
end
def gate {α : Type} (b : Bool) (o : Out α) : Out α := match b with
  | true => o
  | false => .stuck
@[simp] theorem gate_true {α : Type} (o : Out α) : gate true o = o := rfl
theorem gate_wp {α : Type} {b : Bool} {o : Out α} {p : α → Sto → Prop} {q : Exc → Sto → Prop} (h : (gate b o).wp p q) : b = true ∧ o.wp p q := by
  cases b with
  | true => exact ⟨rfl, h⟩
  | false => exact h.elim
theorem of_dec {p : Prop} [Decidable p] (h : decide p = true) : p := of_decide_eq_true h
def fTup (fa : FA) : FE := fun sg S => (fa sg S).bind fun ws S1 => (wsD ws S1).bind fun ds S2 => gate (decide (ds.length ≤ lim)) (.ok (.d (.tuple ds)) S2)
def fLst (fa : FA) : FE := fun sg S => (fa sg S).bind fun ws S1 => (wsD ws S1).bind fun ds S2 => gate (decide (ds.length ≤ lim)) (.ok (.new ds) S2)
section
variable {X : Cx} {Z : XZ}
theorem wsD_wp {K : PySem.W.Frag} {Φ : Addr → Prop} {ρ : List Addr} {S : Sto} {H : Hp} {vs : List V} {ws : List Wv} {p : List D → Sto → Prop} {q : Exc → Sto → Prop} (r : RepWs K Φ ρ H vs ws) (s : Sim K Φ ρ H S) (h : (wsD ws S).wp p q) :
    ∃ ds S' Φ', p ds S' ∧ Tr Φ ρ S H Φ' ρ S' H ∧ Sim K Φ' ρ H S' ∧ RepA K Φ' H vs ds := by
  cases e : wsD ws S with
  | ok ds S' =>
    rw [e] at h
    obtain ⟨Φ', t, s', r'⟩ := wsD_ok r s e
    exact ⟨ds, S', Φ', h, t, s', r'⟩
  | exc e' S' => exact (wsD_noexc e).elim
  | stuck => rw [e] at h; exact h.elim
theorem de_tup {es : List Expr} {x1 pos} {fa : FA} (h : DA X Z es fa) : DE X Z (.Tuple es x1 pos) (fTup fa) := by
  refine ⟨PE.imp (pe_tup h.pa) fun σ H Q q => ?_⟩
  obtain ⟨sg, S, Φ, ρ, env, sim, q⟩ := q
  refine ⟨sg, S, Φ, ρ, env, sim, Out.wp_mono (Out.wp_bind q) (fun ws S1 _ q Φ1 ρ1 H1 vs t1 s1 r1 => ?_) (fun _ _ z => z)⟩
  obtain ⟨ds, S2, Φ2, q, t2, s2, r2⟩ := wsD_wp r1 s1 (Out.wp_bind q)
  obtain ⟨hl, q⟩ := gate_wp q
  have hl := of_dec hl
  refine ⟨lim_le (by rw [r2.length]; exact hl), fun p hp => ?_⟩
  exact q _ _ _ (.ref p) (t1.trans (t2.trans (Tr.newObj hp))) (s2.newObj hp) (Rep.newT s2 hp r2)
theorem de_lst {es : List Expr} {pos} {fa : FA} (h : DA X Z es fa) : DE X Z (.List es pos) (fLst fa) := by
  refine ⟨PE.imp (pe_lst h.pa) fun σ H Q q => ?_⟩
  obtain ⟨sg, S, Φ, ρ, env, sim, q⟩ := q
  refine ⟨sg, S, Φ, ρ, env, sim, Out.wp_mono (Out.wp_bind q) (fun ws S1 _ q Φ1 ρ1 H1 vs t1 s1 r1 => ?_) (fun _ _ z => z)⟩
  obtain ⟨ds, S2, Φ2, q, t2, s2, r2⟩ := wsD_wp r1 s1 (Out.wp_bind q)
  obtain ⟨hl, q⟩ := gate_wp q
  have hl := of_dec hl
  refine ⟨lim_le (by rw [r2.length]; exact hl), fun p hp => ?_⟩
  exact q _ _ _ (.ref p) (t1.trans (t2.trans (Tr.newObj hp))) (s2.newObj hp) ((RepR.newL s2 hp r2).early (t1.trans t2).there)

/-! ### operators by values -/
def rG (K : PySem.W.Frag) (Z : XZ) (g : Sto → R → R → Out R) : R2 := fun x y H Q => ∃ Φ ρ S ra rb Ha Hb, Sim K Φ ρ H S ∧ RepR K Φ ρ S H Ha x ra ∧ RepR K Φ ρ S H Hb y rb ∧ (g S ra rb).wp (fun r S' => PostE K Φ ρ S H r S' Q) (fun e S' => Z.p Φ ρ S H e S')
def fBin (g : Sto → R → R → Out R) (fa fb : FE) : FE := fun sg S => (fa sg S).bind fun ra S1 => (fb sg S1).bind fun rb S2 => g S2 ra rb
theorem bin_imp {g : Sto → R → R → Out R} {fa fb : FE} {K : PySem.W.Frag} {σ : L2.St} {H : Hp} {Q : VK} (q : tE K Z (fBin g fa fb) σ H Q) : tOp (rG K Z g) (tE K Z fa) (tE K Z fb) σ H Q := by
  obtain ⟨sg, S, Φ, ρ, env, sim, q⟩ := q
  refine ⟨sg, S, Φ, ρ, env, sim, Out.wp_mono (Out.wp_bind q) (fun ra S1 _ q Φ1 ρ1 H1 x t1 s1 r1 => ?_) (fun _ _ z => z)⟩
  refine ⟨sg, S1, Φ1, ρ1, env.mono sim t1, s1, Out.wp_mono (Out.wp_bind q) (fun rb S2 _ q Φ2 ρ2 H2 y t2 s2 r2 => ?_) (fun _ _ z => Z.after z t1)⟩
  have t := t1.trans t2
  exact ⟨Φ2, ρ2, S2, ra, rb, H, H1, s2, r1.mono s1 t2, r2, Out.wp_mono q (fun r S3 _ q => PostE.after q t) (fun _ _ z => Z.after z t)⟩
theorem de_bin {a b : Expr} {op : Operator} {pos : Pos} {fa fb : FE} {g : Sto → R → R → Out R} (ho : OpR X (binaryOp op) (rG X.K Z g)) (ha : DE X Z a fa) (hb : DE X Z b fb) : DE X Z (.BinOp a op b pos) (fBin g fa fb) :=
  ⟨PE.imp (pe_op ho ha.pe hb.pe) fun _ _ _ q => bin_imp q⟩
theorem de_cmp {a b : Expr} {op : CmpOp} {pos : Pos} {fa fb : FE} {g : Sto → R → R → Out R} (ho : OpR X (compareOp op) (rG X.K Z g)) (ha : DE X Z a fa) (hb : DE X Z b fb) (hm : behindInMarks op b = false := by first | exact nomark _ | rfl) : DE X Z (.Compare a [op] [b] pos) (fBin g fa fb) :=
  ⟨PE.imp (pe_cmpR ho ha.pe hb.pe hm) fun _ _ _ q => bin_imp q⟩
theorem de_ix {a b : Expr} {pos : Pos} {fa fb : FE} {g : Sto → R → R → Out R} (ho : IxR X (rG X.K Z g)) (ha : DE X Z a fa) (hb : DE X Z b fb) (hs : PlainIx b := by intro _ _; rfl) : DE X Z (.Subscript a b pos) (fBin g fa fb) :=
  ⟨PE.imp (pe_ix ho ha.pe hb.pe hs) fun _ _ _ q => bin_imp q⟩
def rG1 (K : PySem.W.Frag) (Z : XZ) (g : Sto → R → Out R) : V → Hp → VK → Prop := fun x H Q => ∃ Φ ρ S ra Ha, Sim K Φ ρ H S ∧ RepR K Φ ρ S H Ha x ra ∧ (g S ra).wp (fun r S' => PostE K Φ ρ S H r S' Q) (fun e S' => Z.p Φ ρ S H e S')
def fUn (g : Sto → R → Out R) (fa : FE) : FE := fun sg S => (fa sg S).bind fun ra S1 => g S1 ra
theorem un_imp {g : Sto → R → Out R} {fa : FE} {K : PySem.W.Frag} {σ : L2.St} {H : Hp} {Q : VK} (q : tE K Z (fUn g fa) σ H Q) : tUn (rG1 K Z g) (tE K Z fa) σ H Q := by
  obtain ⟨sg, S, Φ, ρ, env, sim, q⟩ := q
  refine ⟨sg, S, Φ, ρ, env, sim, Out.wp_mono (Out.wp_bind q) (fun ra S1 _ q Φ1 ρ1 H1 x t1 s1 r1 => ?_) (fun _ _ z => z)⟩
  exact ⟨Φ1, ρ1, S1, ra, H, s1, r1, Out.wp_mono q (fun r S3 _ q => PostE.after q t1) (fun _ _ z => Z.after z t1)⟩
theorem de_un {a : Expr} {op : UnaryOp} {pos : Pos} {fa : FE} {g : Sto → R → Out R} (ho : UnR X (unaryOp op) (rG1 X.K Z g)) (ha : DE X Z a fa) : DE X Z (.UnaryOp op a pos) (fUn g fa) :=
  ⟨PE.imp (pe_un ho ha.pe) fun _ _ _ q => un_imp q⟩
end
end Dl
/-! Dl0: t * k where k is at most one, or t is empty. -/
namespace Dl
open PySem PySem.Spec PyProof.Rows L2
theorem tuple_mulS (l : Addr) (items : Array Value) (n : Nat) (dd : Option Addr) (sl : Array (Option Value)) (x : Int) (u : Tok) (c0 : (decide (x < -(2 ^ 63)) || decide (x ≥ 2 ^ 63)) = false) (c1 : (items.isEmpty || x == 1) = true) :
    Meets (Builtin.«tuple.__mul__» ⟨[.ref l, .int x u], []⟩) (fun _ R s => s.heap.get? l = some { cls := .type "tuple", dict := dd, data := .seq items n, slots := sl } ∧ R (.ok (.ret (Value.ref l))) s) :=
  .of_wp fun prog w A R s h => by
    obtain ⟨hp, g, d, tk, os⟩ := s
    obtain ⟨hl, h⟩ := h
    have f1 := AutoSeq1.idx_int
    wp_walk using wpAny_loadPart' hl
    repeat (first
      | (refine wpAny_ite_false (decide_eq_false (by rw [c0]; exact Bool.false_ne_true)) ?_; wp_walk using wpAny_loadPart' hl)
      | (refine wpAny_ite_true (decide_eq_true c1) ?_; wp_walk using wpAny_loadPart' hl))
    exact ⟨_, rfl, h⟩
theorem tuple_mulZ (l : Addr) (items : Array Value) (n : Nat) (dd : Option Addr) (sl : Array (Option Value)) (x : Int) (u : Tok) (c0 : (decide (x < -(2 ^ 63)) || decide (x ≥ 2 ^ 63)) = false) (c1 : (items.isEmpty || x == 1) = false) (c2 : (decide (x ≤ 0) || items.isEmpty) = true) :
    Meets (Builtin.«tuple.__mul__» ⟨[.ref l, .int x u], []⟩) (fun _ R s => s.heap.get? l = some { cls := .type "tuple", dict := dd, data := .seq items n, slots := sl } ∧
      R (.ok (.ret (Value.ref s.heap.objs.size))) { s with heap := s.heap.push { cls := Value.type "tuple", data := Data.seq #[] }, toks := s.toks }) :=
  .of_wp fun prog w A R s h => by
    obtain ⟨hp, g, d, tk, os⟩ := s
    obtain ⟨hl, h⟩ := h
    have f1 := AutoSeq1.idx_int
    have hsz : (#[] : Array Value).size ≤ sizeLine := by decide
    wp_walk using wpAny_loadPart' hl
    repeat (first
      | (refine wpAny_ite_false (decide_eq_false (by rw [c0]; exact Bool.false_ne_true)) ?_; wp_walk using wpAny_loadPart' hl)
      | (refine wpAny_ite_false (decide_eq_false (by rw [c1]; exact Bool.false_ne_true)) ?_; wp_walk using wpAny_loadPart' hl)
      | (refine wpAny_ite_true (decide_eq_true c2) ?_; wp_walk using wpAny_loadPart' hl)
      | (refine wpAny_ite_false (decide_eq_false (Nat.not_lt.mpr hsz)) ?_; wp_walk using wpAny_loadPart' hl))
    exact ⟨_, rfl, h⟩
def rRepL (K : PySem.W.Frag) : R2 := fun x y H Q => ∃ l k xs, x = .ref l ∧ y = .int k ∧ SqT K H l xs ∧ k.natAbs ≤ 1000 ∧ ((xs = [] ∨ k = 1) → Q (.ref l) H) ∧ (xs ≠ [] → k ≤ 0 → ∀ p, H p = none → Q (.ref p) (upd H p (.tup []))) ∧ (xs = [] ∨ k ≤ 1)
section
variable {X : Cx}
theorem op_repL : OpR X (binaryOp .Mult) (rRepL X.K) := by
  intro pins s σ H x y v u Q I rx ry h
  obtain ⟨l, k, xs, rfl, rfl, hT, hk, q1, q2, hh⟩ := h
  cases rx
  obtain ⟨t, rfl⟩ := ry
  obtain ⟨its, r, ⟨⟨cls, dd, data, sl⟩, ho, hc, n, hd⟩, hs⟩ := I.tuple hT
  simp only at hc hd
  subst hc hd
  have hle : its.length = xs.length := r.length.symm
  have c0 : (decide (k < -(2 ^ 63)) || decide (k ≥ 2 ^ 63)) = false := by
    rw [decide_eq_false (by omega), decide_eq_false (by omega)] <;> rfl
  have em : its.toArray.isEmpty = true ↔ xs = [] := by
    cases its with
    | nil => simp at hle; exact ⟨fun _ => List.eq_nil_of_length_eq_zero (by simpa using hle.symm), fun _ => rfl⟩
    | cons a b => exact ⟨(fun e => nomatch e), (fun e => by subst e; simp at hle)⟩
  by_cases hc1 : xs = [] ∨ k = 1
  · have c1 : (its.toArray.isEmpty || k == 1) = true := by
      rw [Bool.or_eq_true]
      exact hc1.imp em.mpr fun e => by rw [e]; rfl
    refine wpAny_binaryOp_repeat_ref (T := "tuple") (U := "int") (by decide) ⟨_, ho, rfl⟩ (fun s' => typeIs_int s' k t) noFill_tuple_mul F.fills_int_mul F.slot_int_rmul repeat_tuple F.slot_int_index.lookup
      (call_meets F.slot_int_rmul (typeIs_int s k t) F.entry_int_rmul (F.args_int_rmul_2 _ _) (int_rmul_tuple k t l its.toArray n dd sl) ⟨ho, rfl, ⟨_, ho, rfl⟩, (call_meets F.slot_tuple_mul ⟨_, ho, rfl⟩ F.entry_tuple_mul (F.args_tuple_mul_2 _ _) (tuple_mulS l its.toArray n dd sl k t c0 c1) ⟨ho, ?_⟩)⟩)
    exact ⟨.ref l, H, I, rfl, q1 hc1⟩
  · have hne : xs ≠ [] := fun e => hc1 (.inl e)
    have hk0 : k ≤ 0 := by
      rcases hh with e | e
      · exact absurd e hne
      · have : k ≠ 1 := fun e => hc1 (.inr e)
        omega
    have hi : its.toArray.isEmpty = false := by
      cases e : its.toArray.isEmpty with
      | true => exact absurd (em.mp e) hne
      | false => rfl
    have c1 : (its.toArray.isEmpty || k == 1) = false := by
      rw [hi, Bool.false_or]
      exact beq_eq_false_iff_ne.mpr (by omega)
    have c2 : (decide (k ≤ 0) || its.toArray.isEmpty) = true := by
      rw [decide_eq_true hk0]; rfl
    refine wpAny_binaryOp_repeat_ref (T := "tuple") (U := "int") (by decide) ⟨_, ho, rfl⟩ (fun s' => typeIs_int s' k t) noFill_tuple_mul F.fills_int_mul F.slot_int_rmul repeat_tuple F.slot_int_index.lookup
      (call_meets F.slot_int_rmul (typeIs_int s k t) F.entry_int_rmul (F.args_int_rmul_2 _ _) (int_rmul_tuple k t l its.toArray n dd sl) ⟨ho, rfl, ⟨_, ho, rfl⟩, (call_meets F.slot_tuple_mul ⟨_, ho, rfl⟩ F.entry_tuple_mul (F.args_tuple_mul_2 _ _) (tuple_mulZ l its.toArray n dd sl k t c0 c1 c2) ⟨ho, ?_⟩)⟩)
    refine ⟨.ref s.heap.objs.size, _, I.laid (t' := s.toks) (o := .tup []) (fun b ob q => Heap.get?_push_of_some _ q) (Nat.le_refl _) ?_, rfl, q2 hne hk0 _ (I.hok.fresh (Nat.le_refl _))⟩
    exact ⟨by decide, [], .nil, IsTup.new _ _⟩
end
end Dl
namespace Dl
open PySem PySem.Spec PyProof.Rows L2

theorem OpR.imp {X : Cx} {f : Value → Value → Sem Value} {r r' : R2} (h : OpR X f r) (k : ∀ x y H Q, r' x y H Q → r x y H Q) : OpR X f r' :=
  fun p s σ H x y v u Q I rx ry q => h p s σ H x y v u Q I rx ry (k x y H Q q)
theorem OpR.case {X : Cx} {f : Value → Value → Sem Value} {r' : R2} (h : ∀ x y H Q, r' x y H Q → ∃ r : R2, OpR X f r ∧ r x y H Q) : OpR X f r' :=
  fun p s σ H x y v u Q I rx ry q => let ⟨r, h1, h2⟩ := h x y H Q q; h1 p s σ H x y v u Q I rx ry h2
theorem IxR.case {X : Cx} {r' : R2} (h : ∀ x y H Q, r' x y H Q → ∃ r : R2, IxR X r ∧ r x y H Q) : IxR X r' :=
  fun A B p s σ H x y v u Q I rx ry q => let ⟨r, h1, h2⟩ := h x y H Q q; h1 A B p s σ H x y v u Q I rx ry h2
theorem UnR.case {X : Cx} {f : Value → Sem Value} {r' : V → Hp → VK → Prop} (h : ∀ x H Q, r' x H Q → ∃ r : V → Hp → VK → Prop, UnR X f r ∧ r x H Q) : UnR X f r' :=
  fun p s σ H x v Q I rx q => let ⟨r, h1, h2⟩ := h x H Q q; h1 p s σ H x v Q I rx h2
theorem CallR.case {X : Cx} {f : Value} {r' : List V → Hp → VK → Prop} (h : ∀ x H Q, r' x H Q → ∃ r : List V → Hp → VK → Prop, CallR X f r ∧ r x H Q) : CallR X f r' :=
  fun p s σ H x v Q I rx q => let ⟨r, h1, h2⟩ := h x H Q q; h1 p s σ H x v Q I rx h2

/-- two results for reading -/
def on2 (S : Sto) (ra rb : R) (g : D → D → Out R) : Out R := match pk S ra, pk S rb with
  | some a, some b => g a b
  | _, _ => .stuck
def on1 (S : Sto) (ra : R) (g : D → Out R) : Out R := match pk S ra with
  | some a => g a
  | none => .stuck
section
variable {X : Cx} {Z : XZ} {K : PySem.W.Frag}
/-- operators that read their operands -/
theorem og_of {f : Value → Value → Sem Value} {g : Sto → D → D → Out R}
    (h : ∀ Φ ρ S H x y a b Q, Sim X.K Φ ρ H S → View X.K Φ H x a → View X.K Φ H y b → (g S a b).wp (fun r S' => PostE X.K Φ ρ S H r S' Q) (fun e S' => Z.p Φ ρ S H e S') → ∃ r : R2, OpR X f r ∧ r x y H Q) : OpR X f (rG X.K Z fun S ra rb => on2 S ra rb (g S)) :=
  OpR.case fun x y H Q q => by
    obtain ⟨Φ, ρ, S, ra, rb, Ha, Hb, s, r1, r2, q⟩ := q
    dsimp only [on2] at q
    split at q
    · rename_i a b e1 e2
      exact h Φ ρ S H x y a b Q s (pk_ok r1 s e1) (pk_ok r2 s e2) q
    · exact q.elim
theorem ig_of {g : Sto → D → D → Out R}
    (h : ∀ Φ ρ S H x y a b Q, Sim X.K Φ ρ H S → View X.K Φ H x a → View X.K Φ H y b → (g S a b).wp (fun r S' => PostE X.K Φ ρ S H r S' Q) (fun e S' => Z.p Φ ρ S H e S') → ∃ r : R2, IxR X r ∧ r x y H Q) : IxR X (rG X.K Z fun S ra rb => on2 S ra rb (g S)) :=
  IxR.case fun x y H Q q => by
    obtain ⟨Φ, ρ, S, ra, rb, Ha, Hb, s, r1, r2, q⟩ := q
    dsimp only [on2] at q
    split at q
    · rename_i a b e1 e2
      exact h Φ ρ S H x y a b Q s (pk_ok r1 s e1) (pk_ok r2 s e2) q
    · exact q.elim
theorem ug_of {f : Value → Sem Value} {g : Sto → D → Out R}
    (h : ∀ Φ ρ S H x a Q, Sim X.K Φ ρ H S → View X.K Φ H x a → (g S a).wp (fun r S' => PostE X.K Φ ρ S H r S' Q) (fun e S' => Z.p Φ ρ S H e S') → ∃ r : V → Hp → VK → Prop, UnR X f r ∧ r x H Q) : UnR X f (rG1 X.K Z fun S ra => on1 S ra (g S)) :=
  UnR.case fun x H Q q => by
    obtain ⟨Φ, ρ, S, ra, Ha, s, r1, q⟩ := q
    dsimp only [on1] at q
    split at q
    · rename_i a e1
      exact h Φ ρ S H x a Q s (pk_ok r1 s e1) q
    · exact q.elim
section
variable {Φ : Addr → Prop} {ρ : List Addr} {S : Sto} {H : Hp} {d : D} {Q : VK} {v : V}
theorem post_d (s : Sim K Φ ρ H S) (q : PostE K Φ ρ S H (.d d) S Q) (r : Rep K Φ H v d) : Q v H := q Φ ρ H v .refl s r
theorem post_new {xs : List D} {ws : List V} (s : Sim K Φ ρ H S) (q : PostE K Φ ρ S H (.new xs) S Q) (r : RepA K Φ H ws xs) (p : Addr) (hp : H p = none) : Q (.ref p) (upd H p (.lst ws)) :=
  q Φ ρ _ _ (Tr.newObj hp) (s.newObj hp) (RepR.newL s hp r)
theorem post_tup {xs : List D} {ws : List V} (s : Sim K Φ ρ H S) (q : PostE K Φ ρ S H (.d (.tuple xs)) S Q) (r : RepA K Φ H ws xs) (p : Addr) (hp : H p = none) : Q (.ref p) (upd H p (.tup ws)) :=
  q Φ ρ _ _ (Tr.newObj hp) (s.newObj hp) (Rep.newT s hp r)
end

/-- list + list, any two that stand -/
def rCatL (K : PySem.W.Frag) : R2 := fun x y H Q => ∃ l b xs zs, x = .ref l ∧ y = .ref b ∧ SqL K H l xs ∧ SqL K H b zs ∧ xs.length + zs.length ≤ sizeLine ∧ ∀ p, H p = none → Q (.ref p) (upd H p (.lst (xs ++ zs)))
theorem op_catL : OpR X (binaryOp .Add) (rCatL X.K) := by
  intro pins s σ H x y v u Q I rx ry h
  obtain ⟨l, b, xs, zs, rfl, rfl, hH, hB, hz, q⟩ := h
  cases rx
  cases ry
  obtain ⟨its, r, ⟨⟨oc, od, odt, osl⟩, n, e, rfl, rfl, rfl⟩, z⟩ := I.list hH
  obtain ⟨its2, r2, ⟨⟨oc2, od2, odt2, osl2⟩, n2, e2, rfl, rfl, rfl⟩, z2⟩ := I.list hB
  have hl := r.length
  have hl2 := r2.length
  refine concat_meets ⟨_, e, rfl⟩ ⟨_, e2, rfl⟩ noFill_list_add seq_list_add PySem.F.slot_list_add PySem.F.entry_list_add (PySem.F.args_list_add_2 _ _) (list_addW l b its.toArray its2.toArray n n2 .none .none osl osl2 (by rw [List.size_toArray, List.size_toArray]; omega)) ⟨e, e2, ?_⟩
  have ea : its.toArray ++ its2.toArray = (its ++ its2).toArray := by simp
  rw [ea]
  exact ⟨.ref _, _, I.lnew (t' := s.toks) (r.append r2) (by rw [List.length_append]; omega), rfl, q _ I.fresh⟩

def gAdd (S : Sto) : D → D → Out R
  | .int i, .int j => .ok (.d (.int (i + j))) S
  | .str x, .str y => gate (decide (x.length + y.length ≤ lim)) (.ok (.d (.str (x ++ y))) S)
  | .list xs, .list ys => gate (decide (xs.length + ys.length ≤ lim)) (.ok (.new (xs ++ ys)) S)
  | .tuple xs, .tuple ys => gate (decide (xs.length + ys.length ≤ lim)) (.ok (.d (.tuple (xs ++ ys))) S)
  | .int i, .bool b => .ok (.d (.int (i + (if b then 1 else 0)))) S
  | _, _ => .stuck
theorem og_add : OpR X (binaryOp .Add) (rG X.K Z fun S ra rb => on2 S ra rb (gAdd S)) := og_of fun Φ ρ S H x y a b Q s va vb q => by
  unfold gAdd at q
  split at q
  · cases va; cases vb
    exact ⟨_, op_add, _, _, rfl, rfl, post_d s q (.int _)⟩
  · cases va; cases vb
    obtain ⟨hl, q⟩ := gate_wp q
    exact ⟨_, op_add_str, _, _, rfl, rfl, lim_le (of_dec hl), post_d s q (.str _)⟩
  · obtain ⟨hl, q⟩ := gate_wp q
    have hl := of_dec hl
    obtain ⟨p, vs, rfl, h1, r1⟩ := va
    obtain ⟨p2, ws, rfl, h2, r2⟩ := vb
    exact ⟨_, op_catL, p, p2, vs, ws, rfl, rfl, h1, h2, lim_le (by rw [r1.length, r2.length]; exact hl), fun l hp => post_new s q (r1.append r2) l hp⟩
  · obtain ⟨hl, q⟩ := gate_wp q
    have hl := of_dec hl
    obtain ⟨p, vs, rfl, h1, r1⟩ := va
    obtain ⟨p2, ws, rfl, h2, r2⟩ := vb
    refine ⟨_, op_catA, p, p2, vs, ws, rfl, rfl, h1, h2, lim_le (by rw [r1.length, r2.length]; exact hl), fun e => ?_, fun _ e => ?_, fun _ _ l hp => post_tup s q (r1.append r2) l hp⟩
    · subst e
      cases r1
      exact post_d s q (.tup h2 r2)
    · subst e
      cases r2
      rw [List.append_nil] at q
      exact post_d s q (.tup h1 r1)
  · cases va; cases vb
    exact ⟨_, op_add_ib, _, _, rfl, rfl, post_d s q (.int _)⟩
  · exact q.elim
def gSub (S : Sto) : D → D → Out R
  | .int i, .int j => .ok (.d (.int (i - j))) S
  | _, _ => .stuck
theorem og_sub : OpR X (binaryOp .Sub) (rG X.K Z fun S ra rb => on2 S ra rb (gSub S)) := og_of fun Φ ρ S H x y a b Q s va vb q => by
  unfold gSub at q
  split at q
  · cases va; cases vb
    exact ⟨_, op_sub, _, _, rfl, rfl, post_d s q (.int _)⟩
  · exact q.elim
/-- an integer below 2 ^ 64 -/
def smallI (i : Int) : Bool := decide (i.natAbs < 2 ^ 64)
theorem smallI_ok {i : Int} (h : smallI i = true) : -(2 ^ 64) < i ∧ i < 2 ^ 64 := by
  have h := of_dec h
  omega
theorem shl_dec {i j : Int} (h : (decide (0 ≤ j) && decide (j.natAbs ≤ 1000000) && smallI i) = true) : 0 ≤ j ∧ j ≤ 1000000 ∧ i.natAbs < 2 ^ 64 := by
  obtain ⟨h, h3⟩ := Bool.and_eq_true_iff.mp h
  obtain ⟨h1, h2⟩ := Bool.and_eq_true_iff.mp h
  have h1 := of_dec h1
  have h2 := of_dec h2
  exact ⟨h1, by omega, of_dec h3⟩
/-- a divisor above 0, below 2 ^ 256 -/
def divOk (j : Int) : Bool := decide (0 < j) && decide (j.natAbs < 2 ^ 256)
/-- i * j: one of them below 2 ^ 64, or a tuple some times -/
def gMul (S : Sto) : D → D → Out R
  | .int i, .int j => gate (smallI i || smallI j) (.ok (.d (.int (i * j))) S)
  | .tuple xs, .int k => gate (decide (k.natAbs ≤ 1000) && decide (xs.length ≤ 1000)) (.ok (.d (.tuple (List.replicate k.toNat xs).flatten)) S)
  | _, _ => .stuck
theorem og_mul : OpR X (binaryOp .Mult) (rG X.K Z fun S ra rb => on2 S ra rb (gMul S)) := og_of fun Φ ρ S H x y a b Q s va vb q => by
  unfold gMul at q
  split at q
  · cases va; cases vb
    obtain ⟨hl, q⟩ := gate_wp q
    rw [Bool.or_eq_true] at hl
    exact ⟨_, op_mul, _, _, rfl, rfl, hl.imp smallI_ok smallI_ok, post_d s q (.int _)⟩
  · rename_i xs k
    cases vb
    obtain ⟨hl, q⟩ := gate_wp q
    obtain ⟨h3, h4⟩ := Bool.and_eq_true_iff.mp hl
    have h3 := of_dec h3
    have h4 := of_dec h4
    obtain ⟨p, vs, rfl, g1, r1⟩ := va
    by_cases hc : vs = [] ∨ k ≤ 1
    · refine ⟨_, op_repL, p, _, vs, rfl, rfl, g1, h3, fun e => ?_, fun hne hk p' hp => ?_, hc⟩
      · have e' : (List.replicate k.toNat xs).flatten = xs := by
          rcases e with e | e
          · subst e; cases r1; simp
          · subst e; simp
        rw [e'] at q
        exact post_d s q (.tup g1 r1)
      · have e' : (List.replicate k.toNat xs).flatten = [] := by
          rw [show k.toNat = 0 by omega]; rfl
        rw [e'] at q
        exact post_tup s q .nil p' hp
    · have hne : vs ≠ [] := fun e => hc (.inl e)
      have hk2 : 2 ≤ k := by
        have : ¬ k ≤ 1 := fun e => hc (.inr e)
        omega
      refine ⟨_, op_repT, p, _, vs, rfl, rfl, g1, hne, hk2, by omega, by rw [r1.length]; exact h4, fun l hp => post_tup s q (r1.rep _) l hp⟩
  · exact q.elim
def gDiv (S : Sto) : D → D → Out R
  | .int i, .int j => gate (divOk j) (.ok (.d (.int (i / j))) S)
  | _, _ => .stuck
theorem og_div : OpR X (binaryOp .FloorDiv) (rG X.K Z fun S ra rb => on2 S ra rb (gDiv S)) := og_of fun Φ ρ S H x y a b Q s va vb q => by
  unfold gDiv at q
  split at q
  · cases va; cases vb
    obtain ⟨hl, q⟩ := gate_wp q
    obtain ⟨h0, h⟩ := Bool.and_eq_true_iff.mp hl
    have h0 := of_dec h0
    have h := of_dec h
    refine ⟨_, op_fdivW, _, _, rfl, rfl, wide_div (b := 256) h0 ?_ (by decide) (by decide), post_d s q (.int _)⟩
    omega
  · exact q.elim
def gMod (S : Sto) : D → D → Out R
  | .int i, .int j => gate (decide (0 < j)) (.ok (.d (.int (i % j))) S)
  | _, _ => .stuck
theorem og_mod : OpR X (binaryOp .Mod) (rG X.K Z fun S ra rb => on2 S ra rb (gMod S)) := og_of fun Φ ρ S H x y a b Q s va vb q => by
  unfold gMod at q
  split at q
  · cases va; cases vb
    obtain ⟨hl, q⟩ := gate_wp q
    exact ⟨_, op_mod, _, _, rfl, rfl, of_dec hl, post_d s q (.int _)⟩
  · exact q.elim
def gPow (S : Sto) : D → D → Out R
  | .int i, .int j => gate (decide (0 ≤ j) && decide (j.natAbs ≤ 1000000) && smallI i) (.ok (.d (.int (i ^ j.toNat))) S)
  | _, _ => .stuck
theorem og_pow : OpR X (binaryOp .Pow) (rG X.K Z fun S ra rb => on2 S ra rb (gPow S)) := og_of fun Φ ρ S H x y a b Q s va vb q => by
  unfold gPow at q
  split at q
  · cases va; cases vb
    obtain ⟨hl, q⟩ := gate_wp q
    exact ⟨_, op_pow, _, _, rfl, rfl, shl_dec hl, post_d s q (.int _)⟩
  · exact q.elim
def gShl (S : Sto) : D → D → Out R
  | .int i, .int j => gate (decide (0 ≤ j) && decide (j.natAbs ≤ 1000000) && smallI i) (.ok (.d (.int (i * 2 ^ j.toNat))) S)
  | _, _ => .stuck
theorem og_shl : OpR X (binaryOp .LShift) (rG X.K Z fun S ra rb => on2 S ra rb (gShl S)) := og_of fun Φ ρ S H x y a b Q s va vb q => by
  unfold gShl at q
  split at q
  · cases va; cases vb
    obtain ⟨hl, q⟩ := gate_wp q
    exact ⟨_, op_shl, _, _, rfl, rfl, shl_dec hl, post_d s q (.int _)⟩
  · exact q.elim
def gShr (S : Sto) : D → D → Out R
  | .int i, .int j => gate (decide (0 ≤ j)) (.ok (.d (.int (i / 2 ^ j.toNat))) S)
  | _, _ => .stuck
theorem og_shr : OpR X (binaryOp .RShift) (rG X.K Z fun S ra rb => on2 S ra rb (gShr S)) := og_of fun Φ ρ S H x y a b Q s va vb q => by
  unfold gShr at q
  split at q
  · cases va; cases vb
    obtain ⟨hl, q⟩ := gate_wp q
    exact ⟨_, op_shr, _, _, rfl, rfl, of_dec hl, post_d s q (.int _)⟩
  · exact q.elim
def gBit (f : Int → Int → Int) (S : Sto) : D → D → Out R
  | .int i, .int j => .ok (.d (.int (f i j))) S
  | _, _ => .stuck
theorem og_bit {op : Operator} {f : Int → Int → Int} (h : OpR X (binaryOp op) (rI0 fun i j => .int (f i j))) : OpR X (binaryOp op) (rG X.K Z fun S ra rb => on2 S ra rb (gBit f S)) := og_of fun Φ ρ S H x y a b Q s va vb q => by
  unfold gBit at q
  split at q
  · cases va; cases vb
    exact ⟨_, h, _, _, rfl, rfl, post_d s q (.int _)⟩
  · exact q.elim
theorem og_and : OpR X (binaryOp .BitAnd) (rG X.K Z fun S ra rb => on2 S ra rb (gBit Builtin.bitAnd S)) := og_bit op_and
theorem og_or : OpR X (binaryOp .BitOr) (rG X.K Z fun S ra rb => on2 S ra rb (gBit Builtin.bitOr S)) := og_bit op_or
theorem og_xor : OpR X (binaryOp .BitXor) (rG X.K Z fun S ra rb => on2 S ra rb (gBit Builtin.bitXor S)) := og_bit op_xor
def gNeg (S : Sto) : D → Out R
  | .int i => .ok (.d (.int (-i))) S
  | _ => .stuck
theorem ug_neg : UnR X (unaryOp .USub) (rG1 X.K Z fun S ra => on1 S ra (gNeg S)) := ug_of fun Φ ρ S H x a Q s va q => by
  unfold gNeg at q
  split at q
  · cases va
    exact ⟨_, un_neg, _, rfl, post_d s q (.int _)⟩
  · exact q.elim

/-! ### comparisons -/
def gEq (S : Sto) (a b : D) : Out R := gate (SeqAt.shaped a && SeqAt.shaped b) (.ok (.d (.bool (PyData.eqv a b))) S)
def gNe (S : Sto) (a b : D) : Out R := gate (SeqAt.shaped a && SeqAt.shaped b) (.ok (.d (.bool (!PyData.eqv a b))) S)
theorem og_eq (hu : X.A.units + 64 < cLine) : OpR X (compareOp .Eq) (rG X.K Z fun S ra rb => on2 S ra rb (gEq S)) := og_of fun Φ ρ S H x y a b Q s va vb q => by
  obtain ⟨hl, q⟩ := gate_wp q
  rw [Bool.and_eq_true] at hl
  exact ⟨_, op_eqD hu, a, b, va.dp, vb.dp, hl.1, hl.2, post_d s q (.bl _)⟩
theorem og_ne (hu : X.A.units + 64 < cLine) : OpR X (compareOp .NotEq) (rG X.K Z fun S ra rb => on2 S ra rb (gNe S)) := og_of fun Φ ρ S H x y a b Q s va vb q => by
  obtain ⟨hl, q⟩ := gate_wp q
  rw [Bool.and_eq_true] at hl
  exact ⟨_, op_neD hu, a, b, va.dp, vb.dp, hl.1, hl.2, post_d s q (.bl _)⟩
def gLt (S : Sto) : D → D → Out R
  | .int i, .int j => .ok (.d (.bool (decide (i < j)))) S
  | .str x, .str y => .ok (.d (.bool (decide (x.cps.toList < y.cps.toList)))) S
  | _, _ => .stuck
theorem og_lt : OpR X (compareOp .Lt) (rG X.K Z fun S ra rb => on2 S ra rb (gLt S)) := og_of fun Φ ρ S H x y a b Q s va vb q => by
  unfold gLt at q
  split at q
  · cases va; cases vb
    exact ⟨_, op_lt, _, _, rfl, rfl, post_d s q (.bl _)⟩
  · cases va; cases vb
    exact ⟨_, op_lt_str, _, _, rfl, rfl, post_d s q (.bl _)⟩
  · exact q.elim
def gGt (S : Sto) : D → D → Out R
  | .int i, .int j => .ok (.d (.bool (decide (j < i)))) S
  | .str x, .str y => .ok (.d (.bool (decide (y.cps.toList < x.cps.toList)))) S
  | _, _ => .stuck
theorem og_gt : OpR X (compareOp .Gt) (rG X.K Z fun S ra rb => on2 S ra rb (gGt S)) := og_of fun Φ ρ S H x y a b Q s va vb q => by
  unfold gGt at q
  split at q
  · cases va; cases vb
    exact ⟨_, op_gt, _, _, rfl, rfl, post_d s q (.bl _)⟩
  · cases va; cases vb
    exact ⟨_, op_gt_str, _, _, rfl, rfl, post_d s q (.bl _)⟩
  · exact q.elim
def gLe (S : Sto) : D → D → Out R
  | .int i, .int j => .ok (.d (.bool (decide (i ≤ j)))) S
  | .str x, .str y => .ok (.d (.bool (!decide (y.cps.toList < x.cps.toList)))) S
  | _, _ => .stuck
theorem og_le : OpR X (compareOp .LtE) (rG X.K Z fun S ra rb => on2 S ra rb (gLe S)) := og_of fun Φ ρ S H x y a b Q s va vb q => by
  unfold gLe at q
  split at q
  · cases va; cases vb
    exact ⟨_, op_le, _, _, rfl, rfl, post_d s q (.bl _)⟩
  · cases va; cases vb
    exact ⟨_, op_le_str, _, _, rfl, rfl, post_d s q (.bl _)⟩
  · exact q.elim
def gGe (S : Sto) : D → D → Out R
  | .int i, .int j => .ok (.d (.bool (decide (j ≤ i)))) S
  | .str x, .str y => .ok (.d (.bool (!decide (x.cps.toList < y.cps.toList)))) S
  | _, _ => .stuck
theorem og_ge : OpR X (compareOp .GtE) (rG X.K Z fun S ra rb => on2 S ra rb (gGe S)) := og_of fun Φ ρ S H x y a b Q s va vb q => by
  unfold gGe at q
  split at q
  · cases va; cases vb
    exact ⟨_, op_ge, _, _, rfl, rfl, post_d s q (.bl _)⟩
  · cases va; cases vb
    exact ⟨_, op_ge_str, _, _, rfl, rfl, post_d s q (.bl _)⟩
  · exact q.elim
/-- x in a list, in a tuple of plain things, in a text -/
def flatD : D → Bool
  | .none => true
  | .bool _ => true
  | .int _ => true
  | .str _ => true
  | _ => false
def gIn (neg : Bool) (S : Sto) : D → D → Out R
  | a, .list ys => gate (SeqAt.shaped a && SeqAt.shaped (.list ys)) (.ok (.d (.bool (xor neg (ys.any fun z => PyData.eqv z a)))) S)
  | a, .tuple ys => gate (flatD a && ys.all flatD || SeqAt.shaped a && SeqAt.shaped (.tuple ys)) (.ok (.d (.bool (xor neg (ys.any fun z => PyData.eqv z a)))) S)
  | .str x, .str y => .ok (.d (.bool (xor neg (!(Builtin.Str.occurrences y x 0 y.length 1).isEmpty)))) S
  | _, _ => .stuck
theorem flat_rep {Φ : Addr → Prop} {H : Hp} {v : V} {d : D} (r : View K Φ H v d) (h : flatD d = true) : flatV v = true := by
  cases d <;> first | (cases r; rfl) | cases h
theorem flat_eqv {Φ : Addr → Prop} {H : Hp} {v w : V} {d e : D} (r : View K Φ H v d) (q : View K Φ H w e) (h : flatD d = true) (g : flatD e = true) : eqV v w = PyData.eqv d e := by
  cases d <;> cases e <;> first | (simp only [View] at r q; subst r q; rfl) | (have z : false = true := h; cases z) | (have z : false = true := g; cases z)
theorem flat_all {Φ : Addr → Prop} {H : Hp} : ∀ {vs : List V} {ds : List D}, RepA K Φ H vs ds → ds.all flatD = true → vs.all flatV = true
  | _, _, .nil, _ => rfl
  | _, _, .cons a t, h => by
    rw [List.all_cons, Bool.and_eq_true] at h
    rw [List.all_cons, flat_rep a.view h.1, flat_all t h.2]
    rfl
theorem flat_in {Φ : Addr → Prop} {H : Hp} {x : V} {a : D} (r : View K Φ H x a) (g : flatD a = true) : ∀ {vs : List V} {ds : List D}, RepA K Φ H vs ds → ds.all flatD = true → inV x vs = ds.any fun z => PyData.eqv z a
  | _, _, .nil, _ => rfl
  | _, _, .cons b t, h => by
    rw [List.all_cons, Bool.and_eq_true] at h
    have ih := flat_in r g t h.2
    unfold inV at ih ⊢
    rw [List.any_cons, List.any_cons, ih, flat_eqv b.view r h.1 g]
def rInT (K : PySem.W.Frag) (neg : Bool) : R2 := fun x y H Q => ∃ d ds, Dp K H x d ∧ Dp K H y (.tuple ds) ∧ SeqAt.shaped d = true ∧ SeqAt.shaped (.tuple ds) = true ∧ Q (.bl (xor neg (ds.any fun z => PyData.eqv z d))) H
theorem room_inT {A : Around} {d : PyData} {ds : List PyData} (h : SeqAt.shaped d = true) (hu : A.units + 65 < cLine) : A.units + 1 + min (PyData.depthAll ds) d.depth < cLine := by
  have h : (d.canLay0 && decide (d.depth ≤ 64)) = true := h
  have h := of_dec (Bool.and_eq_true_iff.mp h).2
  have := Nat.min_le_right (PyData.depthAll ds) d.depth
  omega
theorem layT {ds : List PyData} (h : SeqAt.shaped (.tuple ds) = true) : PyData.canLayAll0 ds = true := by
  have h := SeqAt.canLay_of_shaped h
  simpa [PyData.canLay0] using h
theorem op_inT (hu : X.A.units + 65 < cLine) : OpR X (compareOp .In) (rInT X.K false) := by
  intro pins s σ H x y v u Q I rx ry h
  obtain ⟨d, ds, hd, he, sd, se, q⟩ := h
  obtain ⟨as, r1⟩ := Dp.reads I d x v hd rx
  obtain ⟨bs, r2⟩ := Dp.reads I (.tuple ds) y u he ry
  exact SeqAt.in_tuple_reads r2 r1 (layT se) (SeqAt.canLay_of_shaped sd) (room_inT sd hu) ⟨.bl _, H, I, rfl, by simpa using q⟩
theorem op_notInT (hu : X.A.units + 65 < cLine) : OpR X (compareOp .NotIn) (rInT X.K true) := by
  intro pins s σ H x y v u Q I rx ry h
  obtain ⟨d, ds, hd, he, sd, se, q⟩ := h
  obtain ⟨as, r1⟩ := Dp.reads I d x v hd rx
  obtain ⟨bs, r2⟩ := Dp.reads I (.tuple ds) y u he ry
  exact SeqAt.notIn_tuple_reads r2 r1 (layT se) (SeqAt.canLay_of_shaped sd) (room_inT sd hu) ⟨.bl _, H, I, rfl, by simpa using q⟩
theorem og_in (hu : X.A.units + 65 < cLine) : OpR X (compareOp .In) (rG X.K Z fun S ra rb => on2 S ra rb (gIn false S)) := og_of fun Φ ρ S H x y a b Q s va vb q => by
  unfold gIn at q
  simp only [Bool.false_xor] at q
  split at q
  · obtain ⟨hl, q⟩ := gate_wp q
    rw [Bool.and_eq_true] at hl
    exact ⟨_, op_inD hu, _, _, va.dp, vb.dp, hl.1, hl.2, post_d s q (.bl _)⟩
  · obtain ⟨hl, q⟩ := gate_wp q
    rw [Bool.or_eq_true, Bool.and_eq_true, Bool.and_eq_true] at hl
    rcases hl with hl | hl
    rotate_left
    · exact ⟨_, op_inT hu, _, _, va.dp, View.dp (d := .tuple _) vb, hl.1, hl.2, by rw [Bool.false_xor]; exact post_d s q (.bl _)⟩
    obtain ⟨p, vs, rfl, g1, r1⟩ := vb
    refine ⟨_, op_in_seq, p, vs, rfl, .inr g1, flat_rep va hl.1, flat_all r1 hl.2, ?_⟩
    simp only [Bool.false_eq_true, if_false]
    rw [flat_in va hl.1 r1 hl.2]
    exact post_d s q (.bl _)
  · cases va; cases vb
    exact ⟨_, op_in_str, _, _, rfl, rfl, post_d s q (.bl _)⟩
  · exact q.elim
theorem og_notin (hu : X.A.units + 65 < cLine) : OpR X (compareOp .NotIn) (rG X.K Z fun S ra rb => on2 S ra rb (gIn true S)) := og_of fun Φ ρ S H x y a b Q s va vb q => by
  unfold gIn at q
  simp only [Bool.true_xor] at q
  split at q
  · obtain ⟨hl, q⟩ := gate_wp q
    rw [Bool.and_eq_true] at hl
    exact ⟨_, op_notInD hu, _, _, va.dp, vb.dp, hl.1, hl.2, post_d s q (.bl _)⟩
  · obtain ⟨hl, q⟩ := gate_wp q
    rw [Bool.or_eq_true, Bool.and_eq_true, Bool.and_eq_true] at hl
    rcases hl with hl | hl
    rotate_left
    · exact ⟨_, op_notInT hu, _, _, va.dp, View.dp (d := .tuple _) vb, hl.1, hl.2, by rw [Bool.true_xor]; exact post_d s q (.bl _)⟩
    obtain ⟨p, vs, rfl, g1, r1⟩ := vb
    refine ⟨_, op_notIn_seq, p, vs, rfl, .inr g1, flat_rep va hl.1, flat_all r1 hl.2, ?_⟩
    simp only [if_true]
    rw [flat_in va hl.1 r1 hl.2]
    exact post_d s q (.bl _)
  · cases va; cases vb
    exact ⟨_, op_notin_str, _, _, rfl, rfl, post_d s q (.bl _)⟩
  · exact q.elim
/-- is: of None and of truth values -/
def gIs (neg : Bool) (S : Sto) : D → D → Out R
  | .none, .none => .ok (.d (.bool (!neg))) S
  | _, .none => .ok (.d (.bool neg)) S
  | .bool a, .bool b => .ok (.d (.bool (xor neg (decide (a = b))))) S
  | _, _ => .stuck
theorem view_non {Φ : Addr → Prop} {H : Hp} {v : V} {d : D} (r : View K Φ H v d) (h : d ≠ .none) : v ≠ .non := by
  cases d with
  | none => exact (h rfl).elim
  | bool _ => cases r; intro z; cases z
  | int _ => cases r; intro z; cases z
  | str _ => cases r; intro z; cases z
  | list _ => obtain ⟨a, vs, rfl, _⟩ := r; intro z; cases z
  | tuple _ => obtain ⟨a, vs, rfl, _⟩ := r; intro z; cases z
  | dict _ => exact r.elim
theorem og_is : OpR X (compareOp .Is) (rG X.K Z fun S ra rb => on2 S ra rb (gIs false S)) := og_of fun Φ ρ S H x y a b Q s va vb q => by
  unfold gIs at q
  split at q
  · cases va; cases vb
    refine ⟨_, op_isN, rfl, ?_⟩
    exact post_d s q (.bl _)
  · rename_i hne
    cases vb
    refine ⟨_, op_isN, rfl, ?_⟩
    rw [decide_eq_false (view_non va hne)]
    exact post_d s q (.bl _)
  · cases va; cases vb
    simp only [Bool.false_xor] at q
    exact ⟨_, op_isBl, _, _, rfl, rfl, post_d s q (.bl _)⟩
  · exact q.elim
theorem og_isnot : OpR X (compareOp .IsNot) (rG X.K Z fun S ra rb => on2 S ra rb (gIs true S)) := og_of fun Φ ρ S H x y a b Q s va vb q => by
  unfold gIs at q
  split at q
  · cases va; cases vb
    refine ⟨_, op_notN, rfl, ?_⟩
    exact post_d s q (.bl _)
  · rename_i hne
    cases vb
    refine ⟨_, op_notN, rfl, ?_⟩
    rw [decide_eq_false (view_non va hne)]
    exact post_d s q (.bl _)
  · cases va; cases vb
    simp only [Bool.true_xor] at q
    exact ⟨_, op_notBl, _, _, rfl, rfl, post_d s q (.bl _)⟩
  · exact q.elim

/-! ### items, slices -/
theorem RepA.atI {Φ : Addr → Prop} {H : Hp} {vs : List V} {ds : List D} {i : Int} {d : D} (r : RepA K Φ H vs ds) (h : L2.atI ds i = some d) : ∃ v, L2.atI vs i = some v ∧ Rep K Φ H v d := by
  unfold L2.atI at h ⊢
  rw [r.length]
  cases e : ixN ds.length i with
  | none => rw [e] at h; cases h
  | some j =>
    rw [e] at h
    exact r.get h
def gIx (S : Sto) : D → D → Out R
  | .list xs, .int i => match L2.atI xs i with
    | some d => .ok (.d d) S
    | none => .stuck
  | .tuple xs, .int i => match L2.atI xs i with
    | some d => .ok (.d d) S
    | none => .stuck
  | .str z, .int i => match L2.atI z.cps.toList i with
    | some c => gate (decide (z.length ≤ lim)) (.ok (.d (.str ⟨#[c]⟩)) S)
    | none => .stuck
  | _, _ => .stuck
theorem ig_ix : IxR X (rG X.K Z fun S ra rb => on2 S ra rb (gIx S)) := ig_of fun Φ ρ S H x y a b Q s va vb q => by
  unfold gIx at q
  split at q
  · split at q
    · rename_i d e
      cases vb
      obtain ⟨p, vs, rfl, g1, r1⟩ := va
      obtain ⟨w, e', r⟩ := r1.atI e
      exact ⟨_, ix_list, p, vs, _, w, rfl, rfl, g1, e', post_d s q r⟩
    · exact q.elim
  · split at q
    · rename_i d e
      cases vb
      obtain ⟨p, vs, rfl, g1, r1⟩ := va
      obtain ⟨w, e', r⟩ := r1.atI e
      exact ⟨_, ix_tup, p, vs, _, w, rfl, rfl, g1, e', post_d s q r⟩
    · exact q.elim
  · split at q
    · rename_i c e
      cases vb
      cases va
      obtain ⟨hl, q⟩ := gate_wp q
      exact ⟨_, ix_str, _, _, c, rfl, rfl, lim_le (of_dec hl), e, post_d s q (.str _)⟩
    · exact q.elim
  · exact q.elim
end
abbrev FP := Sg → Sto → Out (Option Int)
def tO (K : PySem.W.Frag) (Z : XZ) (f : FP) : TO := fun σ H Q => ∃ sg S Φ ρ, EnvR K Φ ρ H σ sg ∧ Sim K Φ ρ H S ∧ (f sg S).wp (fun o S' => ∀ Φ' ρ' H', Tr Φ ρ S H Φ' ρ' S' H' → Sim K Φ' ρ' H' S' → Q o H') (fun e S' => Z.p Φ ρ S H e S')
structure DO (X : Cx) (Z : XZ) (e : Option Expr) (f : FP) : Prop where
  po : PO X e (tO X.K Z f)
theorem PO.imp {X : Cx} {e : Option Expr} {t t' : TO} (h : PO X e t) (k : ∀ σ H Q, t' σ H Q → t σ H Q) : PO X e t' := ⟨fun p s σ H Q I q => h.run p s σ H Q I (k σ H Q q)⟩
def fNoP : FP := fun _ S => .ok none S
def fPart (fe : FE) : FP := fun sg S => (fe sg S).bind fun r S1 => match pk S1 r with
  | some (.int i) => .ok (some i) S1
  | _ => .stuck
section
variable {X : Cx} {Z : XZ} {K : PySem.W.Frag}
theorem do_none : DO X Z none fNoP := by
  refine ⟨PO.imp po_none fun σ H Q q => ?_⟩
  obtain ⟨sg, S, Φ, ρ, env, sim, q⟩ := q
  exact q _ _ _ .refl sim
theorem do_some {e : Expr} {fe : FE} (h : DE X Z e fe) : DO X Z (some e) (fPart fe) := by
  refine ⟨PO.imp (po_some h.pe) fun σ H Q q => ?_⟩
  obtain ⟨sg, S, Φ, ρ, env, sim, q⟩ := q
  refine ⟨sg, S, Φ, ρ, env, sim, Out.wp_mono (Out.wp_bind q) (fun r S1 _ q Φ1 ρ1 H1 v t1 s1 r1 => ?_) (fun _ _ z => z)⟩
  split at q
  · rename_i i e
    have q1 := pk_ok r1 s1 e
    cases q1
    exact ⟨i, rfl, q _ _ _ t1 s1⟩
  · exact q.elim
def cutL {α : Type} (xs : List α) (lo hi : Option Int) : List α := (xs.drop (HT.sIx xs.length 0 lo)).take (HT.sIx xs.length xs.length hi - HT.sIx xs.length 0 lo)
theorem cutL_V (xs : List V) (lo hi : Option Int) : cutV xs lo hi = cutL xs lo hi := rfl
theorem RepA.cut {Φ : Addr → Prop} {H : Hp} {vs : List V} {ds : List D} (lo hi : Option Int) (r : RepA K Φ H vs ds) : RepA K Φ H (cutL vs lo hi) (cutL ds lo hi) := by
  unfold cutL
  rw [r.length]
  exact (r.drop _).take _
def gSl (S : Sto) (lo hi : Option Int) : D → Out R
  | .list xs => .ok (.new (cutL xs lo hi)) S
  | .tuple xs => .ok (.d (.tuple (cutL xs lo hi))) S
  | .str z => gate (decide (z.length ≤ lim)) (.ok (.d (.str (cutS z lo hi))) S)
  | _ => .stuck
def fSl (fe : FE) (fl fh : FP) : FE := fun sg S => (fe sg S).bind fun r S1 => (fl sg S1).bind fun lo S2 => (fh sg S2).bind fun hi S3 => on1 S3 r (gSl S3 lo hi)
theorem SlR.case {r' : V → Option Int → Option Int → Hp → VK → Prop} (h : ∀ x lo hi H Q, r' x lo hi H Q → ∃ r : V → Option Int → Option Int → Hp → VK → Prop, SlR X r ∧ r x lo hi H Q) : SlR X r' :=
  fun p s σ H x v vl vu lo hi sl Q I rx hs pl pu q => let ⟨r, h1, h2⟩ := h x lo hi H Q q; h1 p s σ H x v vl vu lo hi sl Q I rx hs pl pu h2
theorem cutL_whole {α : Type} (xs : List α) (lo hi : Option Int) (h : HT.sIx xs.length 0 lo = 0 ∧ HT.sIx xs.length xs.length hi = xs.length) : cutL xs lo hi = xs := by
  unfold cutL
  rw [h.1, h.2]
  simp
theorem de_sl {e : Expr} {lo hi : Option Expr} {p2 pos : Pos} {fe : FE} {fl fh : FP} (he : DE X Z e fe) (hl : DO X Z lo fl) (hh : DO X Z hi fh) : DE X Z (.Subscript e (.Slice lo hi none p2) pos) (fSl fe fl fh) := by
  let rr : V → Option Int → Option Int → Hp → VK → Prop := fun x lo hi H Q => ∃ Φ ρ S r Ha, Sim X.K Φ ρ H S ∧ RepR X.K Φ ρ S H Ha x r ∧ (on1 S r (gSl S lo hi)).wp (fun r S' => PostE X.K Φ ρ S H r S' Q) (fun e S' => Z.p Φ ρ S H e S')
  have hr : SlR X rr := SlR.case fun x lo hi H Q q => by
    obtain ⟨Φ, ρ, S, r, Ha, s, r1, q⟩ := q
    dsimp only [on1] at q
    split at q
    · rename_i a e1
      have va := pk_ok r1 s e1
      unfold gSl at q
      split at q
      · obtain ⟨p, vs, rfl, g1, r1⟩ := va
        exact ⟨_, sl_list, p, vs, rfl, g1, fun l hp => post_new s q (r1.cut lo hi) l hp⟩
      · obtain ⟨p, vs, rfl, g1, r1⟩ := va
        refine ⟨_, sl_tupA, p, vs, rfl, g1, fun hw => ?_, fun _ l hp => post_tup s q (r1.cut lo hi) l hp⟩
        rw [r1.length] at hw
        rw [cutL_whole _ lo hi hw] at q
        exact post_d s q (.tup g1 r1)
      · cases va
        obtain ⟨hl, q⟩ := gate_wp q
        exact ⟨_, sl_str, _, rfl, lim_le (of_dec hl), post_d s q (.str _)⟩
      · exact q.elim
    · exact q.elim
  refine ⟨PE.imp (pe_slice hr he.pe hl.po hh.po) fun σ H Q q => ?_⟩
  obtain ⟨sg, S, Φ, ρ, env, sim, q⟩ := q
  refine ⟨sg, S, Φ, ρ, env, sim, Out.wp_mono (Out.wp_bind q) (fun r S1 _ q Φ1 ρ1 H1 v t1 s1 r1 => ?_) (fun _ _ z => z)⟩
  refine ⟨sg, S1, Φ1, ρ1, env.mono sim t1, s1, Out.wp_mono (Out.wp_bind q) (fun lo S2 _ q Φ2 ρ2 H2 t2 s2 => ?_) (fun _ _ z => Z.after z t1)⟩
  have t12 := t1.trans t2
  refine ⟨sg, S2, Φ2, ρ2, env.mono sim t12, s2, Out.wp_mono (Out.wp_bind q) (fun hi S3 _ q Φ3 ρ3 H3 t3 s3 => ?_) (fun _ _ z => Z.after z t12)⟩
  have t13 := t12.trans t3
  exact ⟨Φ3, ρ3, S3, r, H, s3, r1.mono s1 (t2.trans t3), Out.wp_mono q (fun r S4 _ q => PostE.after q t13) (fun _ _ z => Z.after z t13)⟩
end
end Dl
namespace Dl
open PySem PySem.Spec PyProof.Rows L2

/-! ### tests -/
def truD : D → Bool
  | .none => false
  | .bool b => b
  | .int i => i != 0
  | .str x => x.length != 0
  | .list xs => !xs.isEmpty
  | .tuple xs => !xs.isEmpty
  | .dict kvs => !kvs.isEmpty
def okD : D → Bool
  | .str x => decide (x.length ≤ lim)
  | _ => true
def fTru (f : FE) : FT := fun sg S => (f sg S).bind fun r S1 => match pk S1 r with
  | some d => gate (okD d) (.ok (truD d) S1)
  | none => .stuck
def fBoo (f : FE) : FT := fun sg S => (f sg S).bind fun r S1 => match r with
  | .d (.bool b) => .ok b S1
  | _ => .stuck
def fAndT (f g : FT) : FT := fun sg S => (f sg S).bind fun b S1 => cond b (g sg S1) (.ok false S1)
def fOrT (f g : FT) : FT := fun sg S => (f sg S).bind fun b S1 => cond b (.ok true S1) (g sg S1)
def fNotT (f : FT) : FT := fun sg S => (f sg S).bind fun b S1 => .ok (!b) S1
def fAndV (f g : FE) : FE := fun sg S => (f sg S).bind fun r S1 => match pk S1 r with
  | some d => gate (okD d) (cond (truD d) (g sg S1) (.ok r S1))
  | none => .stuck
def fOrV (f g : FE) : FE := fun sg S => (f sg S).bind fun r S1 => match pk S1 r with
  | some d => gate (okD d) (cond (truD d) (.ok r S1) (g sg S1))
  | none => .stuck
def fNotV (f : FE) : FE := fun sg S => (f sg S).bind fun r S1 => match pk S1 r with
  | some d => gate (okD d) (.ok (.d (.bool (!truD d))) S1)
  | none => .stuck
def fIf (c : FT) (f g : FE) : FE := fun sg S => (c sg S).bind fun b S1 => cond b (f sg S1) (g sg S1)
/-- a r b r' c, the second comparison only where the first one holds -/
def fChain (g g' : Sto → R → R → Out R) (fa fb fc : FE) : FE := fun sg S => (fa sg S).bind fun ra S1 => (fb sg S1).bind fun rb S2 => (g S2 ra rb).bind fun x S3 => match x with
  | .d (.bool true) => (fc sg S3).bind fun rc S4 => g' S4 rb rc
  | .d (.bool false) => .ok (.d (.bool false)) S3
  | _ => .stuck
section
variable {X : Cx} {Z : XZ} {K : PySem.W.Frag}
theorem isEmpty_len {α β : Type} {xs : List α} {ys : List β} (h : xs.length = ys.length) : xs.isEmpty = ys.isEmpty := by
  cases xs <;> cases ys <;> first | rfl | (simp at h)
theorem view_tru {Φ : Addr → Prop} {H : Hp} {v : V} {d : D} (r : View K Φ H v d) (h : okD d = true) : TruV K v H (truD d) := by
  cases d with
  | none => cases r; rfl
  | bool _ => cases r; rfl
  | int _ => cases r; rfl
  | str x =>
    cases r
    refine ⟨lim_le (of_dec h), ?_⟩
    show (x.length != 0) = ((x.length : Int) != 0)
    cases x.length <;> rfl
  | list ds =>
    obtain ⟨a, vs, rfl, h1, r1⟩ := r
    exact .inl ⟨vs, h1, by show (!ds.isEmpty) = _; rw [isEmpty_len r1.length]⟩
  | tuple ds =>
    obtain ⟨a, vs, rfl, h1, r1⟩ := r
    exact .inr (.inl ⟨vs, h1, by show (!ds.isEmpty) = _; rw [isEmpty_len r1.length]⟩)
  | dict _ => exact r.elim
theorem dt_tru {e : Expr} {f : FE} (h : DE X Z e f) (he : ∀ whole, isTrue e X.env whole = (do let v ← whole; standAt e.pos; holding [v] (truthy v)) := by intro _; rfl) : DT X Z e (fTru f) := by
  refine ⟨PT.imp (pt_truth h.pe he) fun σ H Q q => ?_⟩
  obtain ⟨sg, S, Φ, ρ, env, sim, q⟩ := q
  refine ⟨sg, S, Φ, ρ, env, sim, Out.wp_mono (Out.wp_bind q) (fun r S1 _ q Φ1 ρ1 H1 v t1 s1 r1 => ?_) (fun _ _ z => z)⟩
  split at q
  · rename_i d e1
    obtain ⟨hl, q⟩ := gate_wp q
    exact ⟨truD d, view_tru (pk_ok r1 s1 e1) hl, q _ _ _ t1 s1⟩
  · exact q.elim
theorem dt_boo {e : Expr} {f : FE} (h : DE X Z e f) (he : ∀ whole, isTrue e X.env whole = (do let v ← whole; standAt e.pos; holding [v] (truthy v)) := by intro _; rfl) : DT X Z e (fBoo f) := by
  refine ⟨PT.imp (pt_val h.pe he) fun σ H Q q => ?_⟩
  obtain ⟨sg, S, Φ, ρ, env, sim, q⟩ := q
  refine ⟨sg, S, Φ, ρ, env, sim, Out.wp_mono (Out.wp_bind q) (fun r S1 _ q Φ1 ρ1 H1 v t1 s1 r1 => ?_) (fun _ _ z => z)⟩
  split at q
  · cases r1
    exact ⟨_, rfl, q _ _ _ t1 s1⟩
  · exact q.elim
theorem dt_cmp {a b : Expr} {op : CmpOp} {pos : Pos} {fa fb : FE} {g : Sto → R → R → Out R} (ho : OpR X (compareOp op) (rG X.K Z g)) (ha : DE X Z a fa) (hb : DE X Z b fb) (hm : behindInMarks op b = false := by first | exact nomark _ | rfl) : DT X Z (.Compare a [op] [b] pos) (fBoo (fBin g fa fb)) := by
  refine ⟨PT.imp (pt_cmpR ho ha.pe hb.pe hm) fun σ H Q q => ?_⟩
  refine bin_imp (Z := Z) ?_
  obtain ⟨sg, S, Φ, ρ, env, sim, q⟩ := q
  refine ⟨sg, S, Φ, ρ, env, sim, Out.wp_mono (Out.wp_bind q) (fun r S1 _ q Φ1 ρ1 H1 v t1 s1 r1 => ?_) (fun _ _ z => z)⟩
  split at q
  · cases r1
    exact ⟨_, rfl, q _ _ _ t1 s1⟩
  · exact q.elim
theorem chain_imp {g g' : Sto → R → R → Out R} {fa fb fc : FE} {σ : L2.St} {H : Hp} {Q : VK} (q : tE K Z (fChain g g' fa fb fc) σ H Q) : tChain (rG K Z g) (rG K Z g') (tE K Z fa) (tE K Z fb) (tE K Z fc) σ H Q := by
  obtain ⟨sg, S, Φ, ρ, env, sim, q⟩ := q
  refine ⟨sg, S, Φ, ρ, env, sim, Out.wp_mono (Out.wp_bind q) (fun ra S1 _ q Φ1 ρ1 H1 x t1 s1 r1 => ?_) (fun _ _ z => z)⟩
  refine ⟨sg, S1, Φ1, ρ1, env.mono sim t1, s1, Out.wp_mono (Out.wp_bind q) (fun rb S2 _ q Φ2 ρ2 H2 y t2 s2 r2 => ?_) (fun _ _ z => Z.after z t1)⟩
  have t := t1.trans t2
  refine ⟨Φ2, ρ2, S2, ra, rb, H, H1, s2, r1.mono s1 t2, r2, Out.wp_mono (Out.wp_bind q) (fun r S3 _ q Φ3 ρ3 H3 z t3 s3 r3 => ?_) (fun _ _ z => Z.after z t)⟩
  have t13 := t.trans t3
  split at q
  · cases r3
    refine ⟨true, rfl, ?_⟩
    rw [if_pos rfl]
    refine ⟨sg, S3, Φ3, ρ3, env.mono sim t13, s3, Out.wp_mono (Out.wp_bind q) (fun rc S4 _ q Φ4 ρ4 H4 u t4 s4 r4 => ?_) (fun _ _ z => Z.after z t13)⟩
    have t14 := t13.trans t4
    exact ⟨Φ4, ρ4, S4, rb, rc, H1, H3, s4, r2.mono s2 (t3.trans t4), r4, Out.wp_mono q (fun r S5 _ q => PostE.after q t14) (fun _ _ z => Z.after z t14)⟩
  · cases r3
    refine ⟨false, rfl, ?_⟩
    rw [if_neg Bool.false_ne_true]
    exact q _ _ _ _ t13 s3 (.bl false)
  · exact q.elim
theorem de_chain {a b c : Expr} {op op' : CmpOp} {pos : Pos} {fa fb fc : FE} {g g' : Sto → R → R → Out R} (ho : OpR X (compareOp op) (rG X.K Z g)) (ho' : OpR X (compareOp op') (rG X.K Z g')) (ha : DE X Z a fa) (hb : DE X Z b fb) (hc : DE X Z c fc)
    (hm : lastMarks [op, op'] [b, c] = false := by with_unfolding_all rfl) : DE X Z (.Compare a [op, op'] [b, c] pos) (fChain g g' fa fb fc) :=
  ⟨PE.imp (pe_chain ho ho' ha.pe hb.pe hc.pe hm) fun _ _ _ q => chain_imp q⟩
theorem dt_chain {a b c : Expr} {op op' : CmpOp} {pos : Pos} {fa fb fc : FE} {g g' : Sto → R → R → Out R} (ho : OpR X (compareOp op) (rG X.K Z g)) (ho' : OpR X (compareOp op') (rG X.K Z g')) (ha : DE X Z a fa) (hb : DE X Z b fb) (hc : DE X Z c fc)
    (hm : lastMarks [op, op'] [b, c] = false := by with_unfolding_all rfl) : DT X Z (.Compare a [op, op'] [b, c] pos) (fBoo (fChain g g' fa fb fc)) := by
  refine ⟨PT.imp (pt_chain ho ho' ha.pe hb.pe hc.pe hm) fun σ H Q q => ?_⟩
  refine chain_imp (Z := Z) ?_
  obtain ⟨sg, S, Φ, ρ, env, sim, q⟩ := q
  refine ⟨sg, S, Φ, ρ, env, sim, Out.wp_mono (Out.wp_bind q) (fun r S1 _ q Φ1 ρ1 H1 v t1 s1 r1 => ?_) (fun _ _ z => z)⟩
  split at q
  · cases r1
    exact ⟨_, rfl, q _ _ _ t1 s1⟩
  · exact q.elim
theorem DW.dt {e : Expr} {f : FT} (h : DW X Z e f) : DT X Z e f := ⟨h.pw.pt⟩
theorem dw_and1 {a : Expr} {pos : Pos} {f : FT} (h : DT X Z a f) : DW X Z (.BoolOp .And [a] pos) f := ⟨pw_and1 h.pt⟩
theorem dw_or1 {a : Expr} {pos : Pos} {f : FT} (h : DT X Z a f) : DW X Z (.BoolOp .Or [a] pos) f := ⟨pw_or1 h.pt⟩
theorem dw_and {a b : Expr} {rest : List Expr} {pos : Pos} {f g : FT} (h : DT X Z a f) (k : DW X Z (.BoolOp .And (b :: rest) pos) g) : DW X Z (.BoolOp .And (a :: b :: rest) pos) (fAndT f g) := by
  refine ⟨PW.imp (pw_and h.pt k.pw) fun σ H Q q => ?_⟩
  obtain ⟨sg, S, Φ, ρ, env, sim, q⟩ := q
  refine ⟨sg, S, Φ, ρ, env, sim, Out.wp_mono (Out.wp_bind q) (fun c S1 _ q Φ1 ρ1 H1 t1 s1 => ?_) (fun _ _ z => z)⟩
  cases c with
  | true =>
    rw [if_pos rfl]
    exact ⟨sg, S1, Φ1, ρ1, env.mono sim t1, s1, Out.wp_mono q (fun _ _ _ q => PostT.after q t1) (fun _ _ z => Z.after z t1)⟩
  | false =>
    rw [if_neg Bool.false_ne_true]
    exact q _ _ _ t1 s1
theorem dw_or {a b : Expr} {rest : List Expr} {pos : Pos} {f g : FT} (h : DT X Z a f) (k : DW X Z (.BoolOp .Or (b :: rest) pos) g) : DW X Z (.BoolOp .Or (a :: b :: rest) pos) (fOrT f g) := by
  refine ⟨PW.imp (pw_or h.pt k.pw) fun σ H Q q => ?_⟩
  obtain ⟨sg, S, Φ, ρ, env, sim, q⟩ := q
  refine ⟨sg, S, Φ, ρ, env, sim, Out.wp_mono (Out.wp_bind q) (fun c S1 _ q Φ1 ρ1 H1 t1 s1 => ?_) (fun _ _ z => z)⟩
  cases c with
  | true =>
    rw [if_pos rfl]
    exact q _ _ _ t1 s1
  | false =>
    rw [if_neg Bool.false_ne_true]
    exact ⟨sg, S1, Φ1, ρ1, env.mono sim t1, s1, Out.wp_mono q (fun _ _ _ q => PostT.after q t1) (fun _ _ z => Z.after z t1)⟩
theorem dt_not {a : Expr} {pos : Pos} {f : FT} (h : DT X Z a f) : DT X Z (.UnaryOp .Not a pos) (fNotT f) := by
  refine ⟨PT.imp (pt_not h.pt) fun σ H Q q => ?_⟩
  obtain ⟨sg, S, Φ, ρ, env, sim, q⟩ := q
  exact ⟨sg, S, Φ, ρ, env, sim, Out.wp_mono (Out.wp_bind q) (fun c S1 _ q Φ1 ρ1 H1 t1 s1 => q _ _ _ t1 s1) (fun _ _ z => z)⟩
theorem de_one {op} {a : Expr} {pos : Pos} {f : FE} (h : DE X Z a f) : DE X Z (.BoolOp op [a] pos) f := ⟨pe_one h.pe⟩
theorem de_and {a b : Expr} {rest : List Expr} {pos : Pos} {f g : FE} (h : DE X Z a f) (k : DE X Z (.BoolOp .And (b :: rest) pos) g) : DE X Z (.BoolOp .And (a :: b :: rest) pos) (fAndV f g) := by
  refine ⟨PE.imp (pe_andT h.pe k.pe) fun σ H Q q => ?_⟩
  obtain ⟨sg, S, Φ, ρ, env, sim, q⟩ := q
  refine ⟨sg, S, Φ, ρ, env, sim, Out.wp_mono (Out.wp_bind q) (fun r S1 _ q Φ1 ρ1 H1 v t1 s1 r1 => ?_) (fun _ _ z => z)⟩
  split at q
  · rename_i d e1
    obtain ⟨hl, q⟩ := gate_wp q
    refine ⟨truD d, view_tru (pk_ok r1 s1 e1) hl, ?_⟩
    cases hd : truD d with
    | true =>
      rw [hd] at q
      rw [if_pos rfl]
      exact ⟨sg, S1, Φ1, ρ1, env.mono sim t1, s1, Out.wp_mono q (fun _ _ _ q => PostE.after q t1) (fun _ _ z => Z.after z t1)⟩
    | false =>
      rw [hd] at q
      rw [if_neg Bool.false_ne_true]
      exact q _ _ _ _ t1 s1 r1
  · exact q.elim
theorem de_or {a b : Expr} {rest : List Expr} {pos : Pos} {f g : FE} (h : DE X Z a f) (k : DE X Z (.BoolOp .Or (b :: rest) pos) g) : DE X Z (.BoolOp .Or (a :: b :: rest) pos) (fOrV f g) := by
  refine ⟨PE.imp (pe_orT h.pe k.pe) fun σ H Q q => ?_⟩
  obtain ⟨sg, S, Φ, ρ, env, sim, q⟩ := q
  refine ⟨sg, S, Φ, ρ, env, sim, Out.wp_mono (Out.wp_bind q) (fun r S1 _ q Φ1 ρ1 H1 v t1 s1 r1 => ?_) (fun _ _ z => z)⟩
  split at q
  · rename_i d e1
    obtain ⟨hl, q⟩ := gate_wp q
    refine ⟨truD d, view_tru (pk_ok r1 s1 e1) hl, ?_⟩
    cases hd : truD d with
    | true =>
      rw [hd] at q
      rw [if_pos rfl]
      exact q _ _ _ _ t1 s1 r1
    | false =>
      rw [hd] at q
      rw [if_neg Bool.false_ne_true]
      exact ⟨sg, S1, Φ1, ρ1, env.mono sim t1, s1, Out.wp_mono q (fun _ _ _ q => PostE.after q t1) (fun _ _ z => Z.after z t1)⟩
  · exact q.elim
theorem de_not {a : Expr} {pos : Pos} {f : FE} (h : DE X Z a f) : DE X Z (.UnaryOp .Not a pos) (fNotV f) := by
  refine ⟨PE.imp (pe_notT h.pe) fun σ H Q q => ?_⟩
  obtain ⟨sg, S, Φ, ρ, env, sim, q⟩ := q
  refine ⟨sg, S, Φ, ρ, env, sim, Out.wp_mono (Out.wp_bind q) (fun r S1 _ q Φ1 ρ1 H1 v t1 s1 r1 => ?_) (fun _ _ z => z)⟩
  split at q
  · rename_i d e1
    obtain ⟨hl, q⟩ := gate_wp q
    exact ⟨truD d, view_tru (pk_ok r1 s1 e1) hl, q _ _ _ _ t1 s1 (.bl _)⟩
  · exact q.elim
theorem de_if {c a b : Expr} {pos : Pos} {fc : FT} {f g : FE} (hc : DT X Z c fc) (ha : DE X Z a f) (hb : DE X Z b g) : DE X Z (.IfExp c a b pos) (fIf fc f g) := by
  refine ⟨PE.imp (pe_ifExp hc.pt ha.pe hb.pe) fun σ H Q q => ?_⟩
  obtain ⟨sg, S, Φ, ρ, env, sim, q⟩ := q
  refine ⟨sg, S, Φ, ρ, env, sim, Out.wp_mono (Out.wp_bind q) (fun c S1 _ q Φ1 ρ1 H1 t1 s1 => ?_) (fun _ _ z => z)⟩
  cases c with
  | true =>
    rw [if_pos rfl]
    exact ⟨sg, S1, Φ1, ρ1, env.mono sim t1, s1, Out.wp_mono q (fun _ _ _ q => PostE.after q t1) (fun _ _ z => Z.after z t1)⟩
  | false =>
    rw [if_neg Bool.false_ne_true]
    exact ⟨sg, S1, Φ1, ρ1, env.mono sim t1, s1, Out.wp_mono q (fun _ _ _ q => PostE.after q t1) (fun _ _ z => Z.after z t1)⟩
end

/-! ### built-ins that read their arguments -/
def viewsOf (S : Sto) : List Wv → Option (List D)
  | [] => some []
  | w :: ws => match pkW S w, viewsOf S ws with
    | some d, some ds => some (d :: ds)
    | _, _ => none
abbrev Views (K : PySem.W.Frag) (Φ : Addr → Prop) (H : Hp) : List V → List D → Prop := Paired (View K Φ H)
theorem viewsOf_ok {K : PySem.W.Frag} {Φ : Addr → Prop} {ρ : List Addr} {S : Sto} {H : Hp} (s : Sim K Φ ρ H S) : ∀ {vs : List V} {ws : List Wv} {ds : List D}, RepWs K Φ ρ H vs ws → viewsOf S ws = some ds → Views K Φ H vs ds
  | _, _, _, .nil, e => by cases e; exact .nil
  | _, _, _, .cons r t, e => by
    unfold viewsOf at e
    split at e
    · rename_i d ds' e1 e2
      cases e
      exact .cons (pkW_ok r s e1) (viewsOf_ok s t e2)
    · cases e
def onA (S : Sto) (ws : List Wv) (g : List D → Out R) : Out R := match viewsOf S ws with
  | some ds => g ds
  | none => .stuck
def fCB (g : Sto → List D → Out R) (fa : FA) : FE := fun sg S => (fa sg S).bind fun ws S1 => onA S1 ws (g S1)
def rCG (K : PySem.W.Frag) (Z : XZ) (g : Sto → List D → Out R) : List V → Hp → VK → Prop := fun vs H Q => ∃ Φ ρ S ws, Sim K Φ ρ H S ∧ RepWs K Φ ρ H vs ws ∧ (onA S ws (g S)).wp (fun r S' => PostE K Φ ρ S H r S' Q) (fun e S' => Z.p Φ ρ S H e S')
section
variable {X : Cx} {Z : XZ} {K : PySem.W.Frag}
theorem cg_of {f : Value} {g : Sto → List D → Out R}
    (h : ∀ Φ ρ S H vs ds Q, Sim X.K Φ ρ H S → Views X.K Φ H vs ds → (g S ds).wp (fun r S' => PostE X.K Φ ρ S H r S' Q) (fun e S' => Z.p Φ ρ S H e S') → ∃ r : List V → Hp → VK → Prop, CallR X f r ∧ r vs H Q) : CallR X f (rCG X.K Z g) :=
  CallR.case fun vs H Q q => by
    obtain ⟨Φ, ρ, S, ws, s, r1, q⟩ := q
    unfold onA at q
    split at q
    · rename_i ds e1
      exact h Φ ρ S H vs ds Q s (viewsOf_ok s r1 e1) q
    · exact q.elim
theorem cb_imp {g : Sto → List D → Out R} {fa : FA} {σ : L2.St} {H : Hp} {Q : VK} (q : tE K Z (fCB g fa) σ H Q) : tCB (rCG K Z g) (tA K Z fa) σ H Q := by
  obtain ⟨sg, S, Φ, ρ, env, sim, q⟩ := q
  refine ⟨sg, S, Φ, ρ, env, sim, Out.wp_mono (Out.wp_bind q) (fun ws S1 _ q Φ1 ρ1 H1 vs t1 s1 r1 => ?_) (fun _ _ z => z)⟩
  exact ⟨Φ1, ρ1, S1, ws, s1, r1, Out.wp_mono q (fun r S3 _ q => PostE.after q t1) (fun _ _ z => Z.after z t1)⟩
theorem de_callB {x : Str} {p pos : Pos} {e : Expr} {es : List Expr} {fa : FA} {id : String} {g : Sto → List D → Out R} (hc : CallR X (.builtin id) (rCG X.K Z g)) (hg : Gl X x) (hm : X.mg x = none) (hv : bootBuiltins x = some (.builtin id)) (ha : DA X Z (e :: es) fa)
    (hn : x ≠ "__name__" := by decide) (hdb : (x == ("__debug__" : Str)) = false := by decide)
    (he : starEach (e :: es) X.env = (false, eval e X.env) :: starEach es X.env := by rfl) (hpl : (backTo pos (starEach es X.env)).any (·.1) = false := by rfl) : DE X Z (.Call (.Name x p) (e :: es) [] pos) (fCB g fa) :=
  ⟨PE.imp (pe_callB hc hg hm hv ha.pa hn hdb he hpl) fun _ _ _ q => cb_imp q⟩
theorem de_callTy {x : Str} {p pos : Pos} {e : Expr} {es : List Expr} {fa : FA} {T : String} {g : Sto → List D → Out R} (hc : CallR X (.type T) (rCG X.K Z g)) (hg : Gl X x) (hm : X.mg x = none) (hv : bootBuiltins x = some (.type T)) (ha : DA X Z (e :: es) fa)
    (hn : x ≠ "__name__" := by decide) (hdb : (x == ("__debug__" : Str)) = false := by decide)
    (he : starEach (e :: es) X.env = (false, eval e X.env) :: starEach es X.env := by rfl) (hpl : (backTo pos (starEach es X.env)).any (·.1) = false := by rfl) : DE X Z (.Call (.Name x p) (e :: es) [] pos) (fCB g fa) :=
  ⟨PE.imp (pe_callTy hc hg hm hv ha.pa hn hdb he hpl) fun _ _ _ q => cb_imp q⟩


theorem views1 {Φ : Addr → Prop} {H : Hp} {vs : List V} {d : D} (r : Views K Φ H vs [d]) : ∃ v, vs = [v] ∧ View K Φ H v d := by
  cases r with
  | cons a t => cases t; exact ⟨_, rfl, a⟩
theorem views2 {Φ : Addr → Prop} {H : Hp} {vs : List V} {d e : D} (r : Views K Φ H vs [d, e]) : ∃ v w, vs = [v, w] ∧ View K Φ H v d ∧ View K Φ H w e := by
  cases r with
  | cons a t =>
    obtain ⟨w, rfl, b⟩ := views1 t
    exact ⟨_, _, rfl, a, b⟩
def gLen (S : Sto) : List D → Out R
  | [.list xs] => .ok (.d (.int xs.length)) S
  | [.tuple xs] => .ok (.d (.int xs.length)) S
  | [.str z] => gate (decide (z.length ≤ lim)) (.ok (.d (.int z.length)) S)
  | _ => .stuck
theorem cg_len : CallR X (.builtin "len") (rCG X.K Z gLen) := cg_of fun Φ ρ S H vs ds Q s r q => by
  unfold gLen at q
  split at q
  · obtain ⟨v, rfl, a, ws, rfl, h1, r1⟩ := views1 r
    refine ⟨_, call_len, _, ws.length, rfl, .inl ⟨ws, h1, rfl⟩, ?_⟩
    rw [r1.length]
    exact post_d s q (.int _)
  · obtain ⟨v, rfl, a, ws, rfl, h1, r1⟩ := views1 r
    refine ⟨_, call_len, _, ws.length, rfl, .inr ⟨ws, h1, rfl⟩, ?_⟩
    rw [r1.length]
    exact post_d s q (.int _)
  · obtain ⟨v, rfl, h⟩ := views1 r
    cases h
    obtain ⟨hl, q⟩ := gate_wp q
    exact ⟨_, call_len, _, _, rfl, ⟨lim_le (of_dec hl), rfl⟩, post_d s q (.int _)⟩
  · exact q.elim
def gAbs (S : Sto) : List D → Out R
  | [.int i] => .ok (.d (.int (if i < 0 then -i else i))) S
  | _ => .stuck
theorem cg_abs : CallR X (.builtin "abs") (rCG X.K Z gAbs) := cg_of fun Φ ρ S H vs ds Q s r q => by
  unfold gAbs at q
  split at q
  · obtain ⟨v, rfl, h⟩ := views1 r
    cases h
    exact ⟨_, call_abs, _, rfl, post_d s q (.int _)⟩
  · exact q.elim
def gInt (S : Sto) : List D → Out R
  | [.int i] => .ok (.d (.int i)) S
  | [.bool b] => .ok (.d (.int (if b then 1 else 0))) S
  | _ => .stuck
theorem cg_int : CallR X (.type "int") (rCG X.K Z gInt) := cg_of fun Φ ρ S H vs ds Q s r q => by
  unfold gInt at q
  split at q
  · obtain ⟨v, rfl, h⟩ := views1 r
    cases h
    exact ⟨_, call_int1, .inl ⟨_, rfl, post_d s q (.int _)⟩⟩
  · obtain ⟨v, rfl, h⟩ := views1 r
    cases h
    exact ⟨_, call_int1, .inr ⟨_, rfl, post_d s q (.int _)⟩⟩
  · exact q.elim
def gStr (S : Sto) : List D → Out R
  | [.int i] => gate (decide (i.natAbs < 2 ^ 256)) (.ok (.d (.str (toString i))) S)
  | _ => .stuck
theorem cg_str : CallR X (.type "str") (rCG X.K Z gStr) := cg_of fun Φ ρ S H vs ds Q s r q => by
  unfold gStr at q
  split at q
  · obtain ⟨v, rfl, h⟩ := views1 r
    cases h
    obtain ⟨hl, q⟩ := gate_wp q
    refine ⟨_, call_str_int, _, rfl, Nat.lt_of_lt_of_le (PySem.Flt.log2_lt_of (by decide) (of_dec hl)) (by decide), post_d s q (.str _)⟩
  · exact q.elim
def gList (S : Sto) : List D → Out R
  | [.list xs] => .ok (.new xs) S
  | [.tuple xs] => .ok (.new xs) S
  | _ => .stuck
theorem cg_list : CallR X (.type "list") (rCG X.K Z gList) := cg_of fun Φ ρ S H vs ds Q s r q => by
  unfold gList at q
  split at q
  · obtain ⟨v, rfl, a, ws, rfl, h1, r1⟩ := views1 r
    exact ⟨_, call_list_of, a, ws, rfl, .inl h1, fun l hl => post_new s q r1 l hl⟩
  · obtain ⟨v, rfl, a, ws, rfl, h1, r1⟩ := views1 r
    exact ⟨_, call_list_of, a, ws, rfl, .inr h1, fun l hl => post_new s q r1 l hl⟩
  · exact q.elim
def gTuple (S : Sto) : List D → Out R
  | [.list xs] => .ok (.d (.tuple xs)) S
  | [.tuple xs] => .ok (.d (.tuple xs)) S
  | _ => .stuck
theorem cg_tuple : CallR X (.type "tuple") (rCG X.K Z gTuple) := cg_of fun Φ ρ S H vs ds Q s r q => by
  unfold gTuple at q
  split at q
  · obtain ⟨v, rfl, a, ws, rfl, h1, r1⟩ := views1 r
    exact ⟨_, call_tuple_of, a, ws, rfl, .inl ⟨h1, fun l hl => post_tup s q r1 l hl⟩⟩
  · obtain ⟨v, rfl, a, ws, rfl, h1, r1⟩ := views1 r
    exact ⟨_, call_tuple_of, a, ws, rfl, .inr ⟨h1, post_d s q (.tup h1 r1)⟩⟩
  · exact q.elim
/-! bools and ints of a list -/
def boolsOf : List D → Option (List Bool)
  | [] => some []
  | .bool b :: ds => match boolsOf ds with
    | some bs => some (b :: bs)
    | none => none
  | _ :: _ => none
def intsOf : List D → Option (List Int)
  | [] => some []
  | .int b :: ds => match intsOf ds with
    | some bs => some (b :: bs)
    | none => none
  | _ :: _ => none
theorem boolsOf_ok {Φ : Addr → Prop} {H : Hp} : ∀ {vs : List V} {ds : List D} {bs : List Bool}, RepA K Φ H vs ds → boolsOf ds = some bs → vs = bs.map V.bl
  | _, _, _, .nil, e => by cases e; rfl
  | _, _, _, .cons a t, e => by
    unfold boolsOf at e
    split at e
    · rename_i h; cases h
    · rename_i b ds' h
      cases h
      split at e
      · rename_i bs' e2
        cases e
        have ih := boolsOf_ok t e2
        cases a
        rw [ih]
        rfl
      · cases e
    · cases e
theorem intsOf_ok {Φ : Addr → Prop} {H : Hp} : ∀ {vs : List V} {ds : List D} {bs : List Int}, RepA K Φ H vs ds → intsOf ds = some bs → vs = bs.map V.int
  | _, _, _, .nil, e => by cases e; rfl
  | _, _, _, .cons a t, e => by
    unfold intsOf at e
    split at e
    · rename_i h; cases h
    · rename_i b ds' h
      cases h
      split at e
      · rename_i bs' e2
        cases e
        have ih := intsOf_ok t e2
        cases a
        rw [ih]
        rfl
      · cases e
    · cases e
theorem boolsOf_map (bs : List Bool) : boolsOf (bs.map PyData.bool) = some bs := by
  induction bs with
  | nil => rfl
  | cons b bs ih => simp [boolsOf, ih]
theorem intsOf_map (bs : List Int) : intsOf (bs.map PyData.int) = some bs := by
  induction bs with
  | nil => rfl
  | cons b bs ih => simp [intsOf, ih]
theorem repInts {Φ : Addr → Prop} {H : Hp} : ∀ ns : List Int, RepA K Φ H (ns.map V.int) (ns.map PyData.int)
  | [] => .nil
  | n :: ns => .cons (.int n) (repInts ns)
def gAll (S : Sto) : List D → Out R
  | [.list xs] => match boolsOf xs with
    | some bs => .ok (.d (.bool (bs.all id))) S
    | none => .stuck
  | _ => .stuck
def gAny (S : Sto) : List D → Out R
  | [.list xs] => match boolsOf xs with
    | some bs => .ok (.d (.bool (bs.any id))) S
    | none => .stuck
  | _ => .stuck
theorem cg_all (hc : X.calm = true) : CallR X (.builtin "all") (rCG X.K Z gAll) := cg_of fun Φ ρ S H vs ds Q s r q => by
  unfold gAll at q
  split at q
  · obtain ⟨v, rfl, a, ws, rfl, h1, r1⟩ := views1 r
    split at q
    · rename_i bs e
      rw [boolsOf_ok r1 e] at h1
      exact ⟨_, cr_all hc, a, bs, rfl, h1, post_d s q (.bl _)⟩
    · exact q.elim
  · exact q.elim
theorem cg_any (hc : X.calm = true) : CallR X (.builtin "any") (rCG X.K Z gAny) := cg_of fun Φ ρ S H vs ds Q s r q => by
  unfold gAny at q
  split at q
  · obtain ⟨v, rfl, a, ws, rfl, h1, r1⟩ := views1 r
    split at q
    · rename_i bs e
      rw [boolsOf_ok r1 e] at h1
      exact ⟨_, cr_any hc, a, bs, rfl, h1, post_d s q (.bl _)⟩
    · exact q.elim
  · exact q.elim
def gSum (S : Sto) : List D → Out R
  | [.list xs] => match intsOf xs with
    | some ns => .ok (.d (.int ns.sum)) S
    | none => .stuck
  | _ => .stuck
theorem cg_sum (hc : X.calm = true) : CallR X (.builtin "sum") (rCG X.K Z gSum) := cg_of fun Φ ρ S H vs ds Q s r q => by
  unfold gSum at q
  split at q
  · obtain ⟨v, rfl, a, ws, rfl, h1, r1⟩ := views1 r
    split at q
    · rename_i bs e
      rw [intsOf_ok r1 e] at h1
      exact ⟨_, cr_sum hc, a, bs, rfl, h1, post_d s q (.int _)⟩
    · exact q.elim
  · exact q.elim
/-! the greatest of some ints -/
def maxI : Int → List Int → Int
  | a, [] => a
  | a, b :: r => maxI (if a < b then b else a) r
theorem alike_ints (ns : List Int) : PySem.W.AlikeAll (ns.map PyData.int) := by
  refine ⟨fun x hx y hy => ?_, fun x hx => ?_⟩
  · obtain ⟨i, _, rfl⟩ := List.mem_map.mp hx
    obtain ⟨j, _, rfl⟩ := List.mem_map.mp hy
    rfl
  · obtain ⟨i, _, rfl⟩ := List.mem_map.mp hx
    intro h; cases h
theorem maxD_ints : ∀ (a : Int) (ns : List Int), PySem.W.maxD (.int a) (ns.map PyData.int) = .int (maxI a ns)
  | a, [] => rfl
  | a, b :: r => by
    unfold PySem.W.maxD
    rw [List.map_cons, List.foldl_cons]
    have e : (if PySem.W.dataLt (.int a) (.int b) = true then PyData.int b else .int a) = .int (if a < b then b else a) := by
      have z : PySem.W.dataLt (.int a) (.int b) = decide (a < b) := PySem.W.dataLt_int a b
      rw [z]
      by_cases h : a < b
      · rw [if_pos h, if_pos (decide_eq_true h)]
      · rw [if_neg h, if_neg (by simpa using h)]
    rw [e]
    exact maxD_ints _ r
theorem depth_ints : ∀ ns : List Int, PyData.depthAll (ns.map PyData.int) = 0
  | [] => rfl
  | n :: ns => by
    rw [List.map_cons]
    show max 0 (PyData.depthAll (ns.map PyData.int)) = 0
    rw [depth_ints ns]
    rfl
theorem reads_ints {h : Heap} : ∀ {us : List Value} {ns : List Int}, Vals (ns.map V.int) us → ∃ as, ReadsAll h us (ns.map PyData.int) as
  | _, [], .nil => ⟨[], .nil⟩
  | _, n :: ns, .cons r t => by
    obtain ⟨k, rfl⟩ := r
    obtain ⟨as, q⟩ := reads_ints (h := h) t
    exact ⟨[] ++ as, .cons (.int n k) q⟩

/-- max of a tuple of ints -/
theorem cr_maxT (hc : X.calm = true) (hu : X.A.units + 64 < cLine) : CallR X (.builtin "max") (fun vs H Q => ∃ (a : Addr) (n : Int) (ns : List Int), vs = [V.ref a] ∧ SqT X.K H a ((n :: ns).map V.int) ∧ Q (.int (maxI n ns)) H) := by
  intro pins s σ H vs us Q I r h
  obtain ⟨a, n, ns, rfl, hs, q⟩ := h
  obtain ⟨its, rv, ht, _⟩ := I.tuple hs
  rw [Vals.ref1 r]
  obtain ⟨as, hr⟩ := reads_ints (h := s.heap) rv
  refine PySem.W.max_tuple_data (I.ok.hd hc) (show s.heap.IsTuple a its.toArray from ht) (x := .int n) (xs := ns.map PyData.int) (as := as) (by simpa using hr) (alike_ints (n :: ns)) ?_ fun i v h' tk bs hv hrd hk => ?_
  · have e := depth_ints (n :: ns)
    rw [List.map_cons] at e
    rw [e]
    omega
  · rw [maxD_ints] at hrd
    cases hrd
    exact ⟨.int _, H, I.kept hk, ⟨_, rfl⟩, q⟩
theorem maxI_mem : ∀ (a : Int) (ns : List Int), maxI a ns ∈ a :: ns
  | a, [] => List.mem_cons_self
  | a, b :: r => by
    unfold maxI
    by_cases h : a < b
    · rw [if_pos h]
      exact List.mem_cons_of_mem _ (maxI_mem b r)
    · rw [if_neg h]
      rcases List.mem_cons.mp (maxI_mem a r) with e | e
      · rw [e]; exact List.mem_cons_self
      · exact List.mem_cons_of_mem _ (List.mem_cons_of_mem _ e)
theorem maxI_ge : ∀ (a : Int) (ns : List Int), ∀ y ∈ a :: ns, y ≤ maxI a ns
  | a, [], y, h => by simp at h; subst h; exact Int.le_refl _
  | a, b :: r, y, h => by
    unfold maxI
    by_cases hab : a < b
    · rw [if_pos hab]
      have ih := maxI_ge b r
      rcases List.mem_cons.mp h with e | e
      · subst e
        have := ih b List.mem_cons_self
        omega
      · exact ih y e
    · rw [if_neg hab]
      have ih := maxI_ge a r
      rcases List.mem_cons.mp h with e | e
      · subst e
        exact ih y List.mem_cons_self
      · rcases List.mem_cons.mp e with e | e
        · subst e
          have := ih a List.mem_cons_self
          omega
        · exact ih y (List.mem_cons_of_mem _ e)
def gMax (S : Sto) : List D → Out R
  | [.int i, .int j] => .ok (.d (.int (if j > i then j else i))) S
  | [.list xs] => match intsOf xs with
    | some (n :: ns) => .ok (.d (.int (maxI n ns))) S
    | _ => .stuck
  | [.tuple xs] => match intsOf xs with
    | some (n :: ns) => .ok (.d (.int (maxI n ns))) S
    | _ => .stuck
  | _ => .stuck
theorem cg_max (hc : X.calm = true) (hu : X.A.units + 64 < cLine) : CallR X (.builtin "max") (rCG X.K Z gMax) := cg_of fun Φ ρ S H vs ds Q s r q => by
  unfold gMax at q
  split at q
  · obtain ⟨v, w, rfl, h1, h2⟩ := views2 r
    cases h1; cases h2
    exact ⟨_, call_max2 hc, _, _, rfl, post_d s q (.int _)⟩
  · obtain ⟨v, rfl, a, ws, rfl, h1, r1⟩ := views1 r
    split at q
    · rename_i n ns e
      rw [intsOf_ok r1 e] at h1
      refine ⟨_, cr_max hc, a, n :: ns, rfl, h1, Nat.succ_pos _, fun m hm hge => ?_⟩
      have e1 : m = maxI n ns := Int.le_antisymm (maxI_ge n ns m hm) (hge _ (maxI_mem n ns))
      subst e1
      exact post_d s q (.int _)
    · exact q.elim
  · obtain ⟨v, rfl, a, ws, rfl, h1, r1⟩ := views1 r
    split at q
    · rename_i n ns e
      rw [intsOf_ok r1 e] at h1
      exact ⟨_, cr_maxT hc hu, a, n, ns, rfl, h1, post_d s q (.int _)⟩
    · exact q.elim
  · exact q.elim
/-! ### isinstance(x, T), T a built-in class -/
def kindD : D → String
  | .none => "NoneType"
  | .bool _ => "bool"
  | .int _ => "int"
  | .str _ => "str"
  | .list _ => "list"
  | .tuple _ => "tuple"
  | .dict _ => "dict"
theorem view_ty {Φ : Addr → Prop} {H : Hp} {v : V} {d : D} (r : View K Φ H v d) : TyX K H v (.type (kindD d)) := by
  cases d with
  | none => cases r; exact .base .non
  | bool b => cases r; exact .base (.bl b)
  | int b => cases r; exact .base (.int b)
  | str b => cases r; exact .base (.str b)
  | list ds =>
    obtain ⟨a, vs, rfl, h, _⟩ := r
    rcases h with (h | ⟨o, h⟩) | ⟨o, its, n, h1, h2, _⟩
    · exact .base (.lst h)
    · exact .base (.frz h)
    · exact .kList h1 h2
  | tuple ds =>
    obtain ⟨a, vs, rfl, h, _⟩ := r
    rcases h with (h | ⟨o, h⟩) | ⟨o, its, n, h1, h2, _⟩
    · exact .base (.tup h)
    · exact .fTuple h
    · exact .kTuple h1 h2
  | dict _ => exact r.elim
def isTup : D → Bool
  | .tuple _ => true
  | _ => false
def isLst : D → Bool
  | .list _ => true
  | _ => false
def isStr : D → Bool
  | .str _ => true
  | _ => false
def isInt : D → Bool
  | .int _ => true
  | .bool _ => true
  | _ => false
def isBool : D → Bool
  | .bool _ => true
  | _ => false
theorem kit_tup : ∀ d : D, kitB (kindD d) "tuple" = some (isTup d) := by
  intro d; cases d <;> (show kitB _ "tuple" = some _; simp only [kindD, isTup]; decide +kernel)
theorem kit_lst : ∀ d : D, kitB (kindD d) "list" = some (isLst d) := by
  intro d; cases d <;> (show kitB _ "list" = some _; simp only [kindD, isLst]; decide +kernel)
theorem kit_str : ∀ d : D, kitB (kindD d) "str" = some (isStr d) := by
  intro d; cases d <;> (show kitB _ "str" = some _; simp only [kindD, isStr]; decide +kernel)
theorem kit_int : ∀ d : D, kitB (kindD d) "int" = some (isInt d) := by
  intro d; cases d <;> (show kitB _ "int" = some _; simp only [kindD, isInt]; decide +kernel)
theorem kit_bool : ∀ d : D, kitB (kindD d) "bool" = some (isBool d) := by
  intro d; cases d <;> (show kitB _ "bool" = some _; simp only [kindD, isBool]; decide +kernel)
def fIsi (b : D → Bool) (f : FE) : FE := fun sg S => (f sg S).bind fun r S1 => match pk S1 r with
  | some d => .ok (.d (.bool (b d))) S1
  | none => .stuck
theorem de_isi {x T : Str} {p p2 pos : Pos} {e : Expr} {f : FE} {T' : String} {b : D → Bool} (hg : Gl X x) (hm : X.mg x = none) (hx : bootBuiltins x = some (.builtin "isinstance")) (hk : ∀ d, kitB (kindD d) T' = some (b d)) (hg2 : Gl X T) (hm2 : X.mg T = none) (hv2 : bootBuiltins T = some (.type T')) (h : DE X Z e f)
    (hn : x ≠ "__name__" := by decide) (hdb : (x == ("__debug__" : Str)) = false := by decide) (hn2 : T ≠ "__name__" := by decide) (hdb2 : (T == ("__debug__" : Str)) = false := by decide)
    (he : starEach [e, .Name T p2] X.env = (false, eval e X.env) :: starEach [.Name T p2] X.env := by rfl) (he2 : starEach [.Name T p2] X.env = (false, eval (.Name T p2) X.env) :: starEach [] X.env := by rfl) (hpl : (backTo pos (starEach [.Name T p2] X.env)).any (·.1) = false := by rfl) :
    DE X Z (.Call (.Name x p) [e, .Name T p2] [] pos) (fIsi b f) := by
  refine ⟨PE.imp (pe_callB call_isi hg hm hx (pa_cons h.pe (pa_cons (pe_bltn (v := .ty T') hg2 hm2 hv2 rfl hn2 hdb2) pa_nil he2) he) hn hdb he hpl) fun σ H Q q => ?_⟩
  obtain ⟨sg, S, Φ, ρ, env, sim, q⟩ := q
  refine ⟨sg, S, Φ, ρ, env, sim, Out.wp_mono (Out.wp_bind q) (fun r S1 _ q Φ1 ρ1 H1 v t1 s1 r1 => ?_) (fun _ _ z => z)⟩
  split at q
  · rename_i d e1
    exact ⟨v, .ty T', _, _, b d, rfl, .ty T', view_ty (pk_ok r1 s1 e1), kit_ty (hk d), q _ _ _ _ t1 s1 (.bl _)⟩
  · exact q.elim
end
end Dl
namespace Dl
open PySem PySem.Spec PyProof.Rows L2

/-! ### calls of own defs -/
abbrev FD := List Wv → Sto → Out R
def noX {α : Type} (o : Out α) : Out α := match o with
  | .ok a S => .ok a S
  | _ => .stuck
@[simp] theorem noX_ok {α : Type} (a : α) (S : Sto) : noX (Out.ok a S) = .ok a S := rfl
theorem noX_wp {α : Type} {o : Out α} {p : α → Sto → Prop} {q : Exc → Sto → Prop} (h : (noX o).wp p q) : o.wp p (fun _ _ => False) := by
  cases o <;> exact h
def spD (K : PySem.W.Frag) (n : Nat) (F : FD) : Sp := fun vs H Q _ => ∃ ws S Φ ρ, ws.length = n ∧ RepWs K Φ ρ H vs ws ∧ Sim K Φ ρ H S ∧ (F ws S).wp (fun r S' => PostE K Φ ρ S H r S' Q) (fun _ _ => False)
def fCall (n : Nat) (F : FD) (fa : FA) : FE := fun sg S => (fa sg S).bind fun ws S1 => gate (decide (ws.length = n)) (noX (F ws S1))
theorem FnOk.mirror {P : Program} {w : World} {K : PySem.W.Frag} {mg : Str → Option Value} {base : Heap} {CX : CXT} {k n : Nat} {f : Addr} {fd : FuncData} {ps : List Str} {F G : FD} (h : FnOk P w K mg base CX k f fd ps (spD K n F)) (hG : ∀ ws S r S', ws.length = n → G ws S = .ok r S' → F ws S = .ok r S') :
    FnOk P w K mg base CX k f fd ps (spD K n G) := h.imp fun vs H Q E ⟨ws, S, Φ, ρ, hl, r, s, q⟩ => ⟨ws, S, Φ, ρ, hl, r, s, by
      cases e : G ws S with
      | ok a S' =>
        rw [e] at q
        rw [hG ws S a S' hl e]
        exact q
      | exc x S' => rw [e] at q; exact q.elim
      | stuck => rw [e] at q; exact q.elim⟩
section
variable {X : Cx} {Z : XZ} {K : PySem.W.Frag}
theorem de_call {k n : Nat} {f : Addr} {fd : FuncData} {ps : List Str} {F : FD} {x : Str} {p pos : Pos} {e : Expr} {es : List Expr} {fa : FA} (h : FnOk X.prog X.w X.K X.mg X.base CX0 k f fd ps (spD X.K n F)) (hr : Room k X.A) (hg : Gl X x) (hm : X.mg x = some (.ref f)) (hk : PySem.W.keepIn X.K (.ref f) = true) (hb : Binds X.K fd ps [])
    (ha : DA X Z (e :: es) fa) (hdb : (x == ("__debug__" : Str)) = false := by decide) (he : starEach (e :: es) X.env = (false, eval e X.env) :: starEach es X.env := by rfl) (hpl : (backTo pos (starEach es X.env)).any (·.1) = false := by rfl) :
    DE X Z (.Call (.Name x p) (e :: es) [] pos) (fCall n F fa) := by
  refine ⟨PE.imp (pe_call h hr hg hm hk hb .nil pass0 ha.pa hdb he hpl) fun σ H Q q => ?_⟩
  obtain ⟨sg, S, Φ, ρ, env, sim, q⟩ := q
  refine ⟨sg, S, Φ, ρ, env, sim, Out.wp_mono (Out.wp_bind q) (fun ws S1 _ q Φ1 ρ1 H1 vs t1 s1 r1 => ?_) (fun _ _ z => z)⟩
  obtain ⟨hl, q⟩ := gate_wp q
  refine ⟨ws, S1, Φ1, ρ1, of_dec hl, by rw [List.append_nil]; exact r1, s1, Out.wp_mono (noX_wp q) (fun r S2 _ q => PostE.after q t1) (fun _ _ z => z)⟩
end

/-! ### statements -/
inductive Fl where
  | nx (g : Sg)
  | rt (r : R)
  | bk (g : Sg)
  | ct (g : Sg)
abbrev FS := Sg → Sto → Out Fl
def PostS (K : PySem.W.Frag) (Φ : Addr → Prop) (ρ : List Addr) (S : Sto) (H : Hp) (fl : Fl) (S' : Sto) (D : Ends) : Prop := match fl with
  | .nx g => ∀ Φ' ρ' H' σ', Tr Φ ρ S H Φ' ρ' S' H' → Sim K Φ' ρ' H' S' → EnvR K Φ' ρ' H' σ' g → D.nx σ' H'
  | .bk g => ∀ Φ' ρ' H' σ', Tr Φ ρ S H Φ' ρ' S' H' → Sim K Φ' ρ' H' S' → EnvR K Φ' ρ' H' σ' g → D.bk σ' H'
  | .ct g => ∀ Φ' ρ' H' σ', Tr Φ ρ S H Φ' ρ' S' H' → Sim K Φ' ρ' H' S' → EnvR K Φ' ρ' H' σ' g → D.ct σ' H'
  | .rt r => ∀ Φ' ρ' H' v, Tr Φ ρ S H Φ' ρ' S' H' → Sim K Φ' ρ' H' S' → RepR K Φ' ρ' S' H' H v r → D.rt v H'
theorem PostS.after {K : PySem.W.Frag} {Φ Φ1 : Addr → Prop} {ρ ρ1 : List Addr} {S S1 S' : Sto} {H H1 : Hp} {fl : Fl} {D : Ends} (h : PostS K Φ ρ S H fl S' D) (t : Tr Φ ρ S H Φ1 ρ1 S1 H1) : PostS K Φ1 ρ1 S1 H1 fl S' D := by
  cases fl with
  | nx g => exact fun Φ' ρ' H' σ' u s e => h Φ' ρ' H' σ' (t.trans u) s e
  | bk g => exact fun Φ' ρ' H' σ' u s e => h Φ' ρ' H' σ' (t.trans u) s e
  | ct g => exact fun Φ' ρ' H' σ' u s e => h Φ' ρ' H' σ' (t.trans u) s e
  | rt r => exact fun Φ' ρ' H' v u s q => h Φ' ρ' H' v (t.trans u) s (q.early t.there)
def tS (K : PySem.W.Frag) (Z : XZ) (f : FS) : TS := fun D σ H => ∃ sg S Φ ρ, EnvR K Φ ρ H σ sg ∧ Sim K Φ ρ H S ∧ (f sg S).wp (fun fl S' => PostS K Φ ρ S H fl S' D) (fun e S' => Z.p Φ ρ S H e S')
structure DS (X : Cx) (Z : XZ) (st : Stmt) (f : FS) : Prop where
  ps : PS X st (tS X.K Z f)
structure DSs (X : Cx) (Z : XZ) (st : List Stmt) (f : FS) : Prop where
  ps : PSs X st (tS X.K Z f)
def fNext : FS := fun sg S => .ok (.nx sg) S
def fSeq (f g : FS) : FS := fun sg S => (f sg S).bind fun fl S1 => match fl with
  | .nx sg1 => g sg1 S1
  | _ => .ok fl S1
section
variable {X : Cx} {Z : XZ} {K : PySem.W.Frag}
theorem dss_nil : DSs X Z [] fNext := by
  refine ⟨PSs.imp pss_nil fun D σ H q => ?_⟩
  obtain ⟨sg, S, Φ, ρ, env, sim, q⟩ := q
  exact q _ _ _ _ .refl sim env
theorem dss_cons {st : Stmt} {rest : List Stmt} {f g : FS} (h : DS X Z st f) (k : DSs X Z rest g) : DSs X Z (st :: rest) (fSeq f g) := by
  refine ⟨PSs.imp (pss_cons h.ps k.ps) fun D σ H q => ?_⟩
  obtain ⟨sg, S, Φ, ρ, env, sim, q⟩ := q
  refine ⟨sg, S, Φ, ρ, env, sim, Out.wp_mono (Out.wp_bind q) (fun fl S1 _ q => ?_) (fun _ _ z => z)⟩
  cases fl with
  | nx g1 => exact fun Φ1 ρ1 H1 σ1 t1 s1 e1 => ⟨g1, S1, Φ1, ρ1, e1, s1, Out.wp_mono q (fun _ _ _ q => PostS.after q t1) (fun _ _ z => Z.after z t1)⟩
  | bk g1 => exact q
  | ct g1 => exact q
  | rt r => exact q
theorem dss_one {st : Stmt} {f : FS} (h : DS X Z st f) : DSs X Z [st] f := ⟨pss_one h.ps⟩
theorem ds_pass {pos} : DS X Z (.Pass pos) fNext := by
  refine ⟨PS.imp ps_pass fun D σ H q => ?_⟩
  obtain ⟨sg, S, Φ, ρ, env, sim, q⟩ := q
  exact q _ _ _ _ .refl sim env
def fBreak : FS := fun sg S => .ok (.bk sg) S
def fCont : FS := fun sg S => .ok (.ct sg) S
theorem ds_break {pos} : DS X Z (.Break pos) fBreak := by
  refine ⟨PS.imp ps_break fun D σ H q => ?_⟩
  obtain ⟨sg, S, Φ, ρ, env, sim, q⟩ := q
  exact q _ _ _ _ .refl sim env
theorem ds_continue {pos} : DS X Z (.Continue pos) fCont := by
  refine ⟨PS.imp ps_continue fun D σ H q => ?_⟩
  obtain ⟨sg, S, Φ, ρ, env, sim, q⟩ := q
  exact q _ _ _ _ .refl sim env
def fDrop (f : FE) : FS := fun sg S => (f sg S).bind fun _ S1 => .ok (.nx sg) S1
theorem ds_expr {e : Expr} {pos : Pos} {f : FE} (h : DE X Z e f) (hs : swapsWith e none pos.line X.env = pure false := by rfl) : DS X Z (.Expr e pos) (fDrop f) := by
  refine ⟨PS.imp (ps_expr h.pe hs) fun D σ H q => ?_⟩
  obtain ⟨sg, S, Φ, ρ, env, sim, q⟩ := q
  exact ⟨sg, S, Φ, ρ, env, sim, Out.wp_mono (Out.wp_bind q) (fun r S1 _ q Φ1 ρ1 H1 v t1 s1 r1 => q _ _ _ _ t1 s1 (env.mono sim t1)) (fun _ _ z => z)⟩
def fRet (f : FE) : FS := fun sg S => (f sg S).bind fun r S1 => .ok (.rt r) S1
theorem ds_ret {e : Expr} {pos : Pos} {f : FE} (h : DE X Z e f) : DS X Z (.Return (some e) pos) (fRet f) := by
  refine ⟨PS.imp (ps_ret h.pe) fun D σ H q => ?_⟩
  obtain ⟨sg, S, Φ, ρ, env, sim, q⟩ := q
  exact ⟨sg, S, Φ, ρ, env, sim, Out.wp_mono (Out.wp_bind q) (fun r S1 _ q Φ1 ρ1 H1 v t1 s1 r1 => q _ _ _ _ t1 s1 r1) (fun _ _ z => z)⟩
def fRetN : FS := fun _ S => .ok (.rt (.d .none)) S
theorem ds_retN {pos : Pos} : DS X Z (.Return none pos) fRetN := by
  refine ⟨PS.imp ps_retN fun D σ H q => ?_⟩
  obtain ⟨sg, S, Φ, ρ, env, sim, q⟩ := q
  exact q _ _ _ _ .refl sim .non
def fIfS (c : FT) (f g : FS) : FS := fun sg S => (c sg S).bind fun b S1 => cond b (f sg S1) (g sg S1)
theorem ds_if {c : Expr} {a b : List Stmt} {pos : Pos} {fc : FT} {f g : FS} (hc : DT X Z c fc) (ha : DSs X Z a f) (hb : DSs X Z b g) : DS X Z (.If c a b pos) (fIfS fc f g) := by
  refine ⟨PS.imp (ps_if hc.pt ha.ps hb.ps) fun D σ H q => ?_⟩
  obtain ⟨sg, S, Φ, ρ, env, sim, q⟩ := q
  refine ⟨sg, S, Φ, ρ, env, sim, Out.wp_mono (Out.wp_bind q) (fun c S1 _ q Φ1 ρ1 H1 t1 s1 => ?_) (fun _ _ z => z)⟩
  cases c with
  | true =>
    rw [if_pos rfl]
    exact ⟨sg, S1, Φ1, ρ1, env.mono sim t1, s1, Out.wp_mono q (fun _ _ _ q => PostS.after q t1) (fun _ _ z => Z.after z t1)⟩
  | false =>
    rw [if_neg Bool.false_ne_true]
    exact ⟨sg, S1, Φ1, ρ1, env.mono sim t1, s1, Out.wp_mono q (fun _ _ _ q => PostS.after q t1) (fun _ _ z => Z.after z t1)⟩

/-! ### names set -/
/-- as a datum (a new list changes no more) -/
def fSet (i : Nat) (f : FE) : FS := fun sg S => (f sg S).bind fun r S1 => (toW r S1).bind fun w S2 => .ok (.nx (sg.set i (some w))) S2
/-- a new list becomes a cell -/
def fSetM (i : Nat) (f : FE) : FS := fun sg S => (f sg S).bind fun r S1 => match r with
  | .new xs => .ok (.nx (sg.set i (some (.ref S1.length)))) (S1 ++ [.lst xs])
  | .d x => .ok (.nx (sg.set i (some (.d x)))) S1
  | .newd kvs => .ok (.nx (sg.set i (some (.ref S1.length)))) (S1 ++ [.dct kvs])
  | .ref k => .ok (.nx (sg.set i (some (.ref k)))) S1
theorem set_imp {i : Nat} {f : FE} {D : Ends} {σ : L2.St} {H : Hp} (q : tS K Z (fSet i f) D σ H) : tAsg (tE K Z f) (gName i) D σ H := by
  obtain ⟨sg, S, Φ, ρ, env, sim, q⟩ := q
  refine ⟨sg, S, Φ, ρ, env, sim, Out.wp_mono (Out.wp_bind q) (fun r S1 _ q Φ1 ρ1 H1 v t1 s1 r1 => ?_) (fun _ _ z => z)⟩
  obtain ⟨w, S2, Φ2, ρ2, q, t2, s2, w2⟩ := toW_wp r1 s1 (Out.wp_bind q)
  have t12 := t1.take t2 fun _ h => h
  exact q _ _ _ _ t12 s2 ((env.mono sim t12).set i w2)
theorem setM_imp {i : Nat} {f : FE} {D : Ends} {σ : L2.St} {H : Hp} (q : tS K Z (fSetM i f) D σ H) : tAsg (tE K Z f) (gName i) D σ H := by
  obtain ⟨sg, S, Φ, ρ, env, sim, q⟩ := q
  refine ⟨sg, S, Φ, ρ, env, sim, Out.wp_mono (Out.wp_bind q) (fun r S1 _ q Φ1 ρ1 H1 v t1 s1 r1 => ?_) (fun _ _ z => z)⟩
  cases r with
  | d x => exact q _ _ _ _ t1 s1 ((env.mono sim t1).set i (w := .d x) r1)
  | ref k => exact q _ _ _ _ t1 s1 ((env.mono sim t1).set i (w := .ref k) r1)
  | new xs =>
    obtain ⟨a, ws, rfl, h1, h2, h3, h4, h5⟩ := r1
    obtain ⟨t2, s2, e2⟩ := adopt s1 (c := .lst xs) ⟨ws, h1, h2, h3⟩ rfl h4 h5 trivial
    have t12 := t1.take t2 fun _ h => h
    exact q _ _ _ _ t12 s2 ((env.mono sim t12).set i (w := .ref S1.length) ⟨a, rfl, e2⟩)
  | newd xs =>
    obtain ⟨a, ws, rfl, h1, h2, h3, h4, h5⟩ := r1
    obtain ⟨t2, s2, e2⟩ := adopt s1 (c := .dct xs) ⟨ws, h1, h2, h3⟩ rfl h4 h5 trivial
    have t12 := t1.take t2 fun _ h => h
    exact q _ _ _ _ t12 s2 ((env.mono sim t12).set i (w := .ref S1.length) ⟨a, rfl, e2⟩)
theorem ds_set {i : Nat} {x : Str} {e : Expr} {pos pos' : Pos} {f : FE} (hN : X.N.Nodup) (hi : X.N[i]? = some x) (hx : Loc X.env.scope x) (h : DE X Z e f) (hs : swapsWith e (some (.Name x pos')) pos.line X.env = pure false := by rfl) (hf : X.fn x = true ∨ X.env.scope.names.lookup x = some .local := by first | exact .inl rfl | exact .inr rfl) :
    DS X Z (.Assign [.Name x pos'] e pos) (fSet i f) := ⟨PS.imp (ps_set hN hi hx h.pe hs hf) fun _ _ _ q => set_imp q⟩
theorem ds_setM {i : Nat} {x : Str} {e : Expr} {pos pos' : Pos} {f : FE} (hN : X.N.Nodup) (hi : X.N[i]? = some x) (hx : Loc X.env.scope x) (h : DE X Z e f) (hs : swapsWith e (some (.Name x pos')) pos.line X.env = pure false := by rfl) (hf : X.fn x = true ∨ X.env.scope.names.lookup x = some .local := by first | exact .inl rfl | exact .inr rfl) :
    DS X Z (.Assign [.Name x pos'] e pos) (fSetM i f) := ⟨PS.imp (ps_set hN hi hx h.pe hs hf) fun _ _ _ q => setM_imp q⟩

/-! ### targets -/
abbrev FB := D → Sg → Option Sg
def tG (K : PySem.W.Frag) (vs : List Nat) (b : FB) : TG := fun v σ H Q => ∃ d sg Φ ρ, EnvR K Φ ρ H σ sg ∧ Rep K Φ H v d ∧ match b d sg with
  | some sg' => ∀ σ', EnvR K Φ ρ H σ' sg' → wipe σ' vs = wipe σ vs → Q σ' H
  | none => False
structure DG (X : Cx) (tg : Expr) (vs : List Nat) (b : FB) : Prop where
  pg : PG X tg (tG X.K vs b)
theorem PG.imp {X : Cx} {e : Expr} {t t' : TG} (h : PG X e t) (k : ∀ v σ H Q, t' v σ H Q → t v σ H Q) : PG X e t' := ⟨fun p s σ H v u Q I r q => h.run p s σ H v u Q I r (k v σ H Q q)⟩
theorem wipe_get (σ : L2.St) (j : Nat) : ∀ vs : List Nat, (wipe σ vs)[j]? = if j ∈ vs ∧ j < σ.length then some none else σ[j]?
  | [] => by simp [wipe]
  | v :: vs => by
    unfold wipe
    by_cases hv : v = j
    · subst hv
      by_cases hl : v < σ.length
      · rw [List.getElem?_set_self (by rw [wipe_length]; exact hl), if_pos ⟨List.mem_cons_self, hl⟩]
      · rw [List.getElem?_eq_none (by simp [wipe_length]; omega), if_neg (fun h => hl h.2), List.getElem?_eq_none (by omega)]
    · rw [List.getElem?_set_ne hv, wipe_get σ j vs]
      have e : (j ∈ v :: vs) ↔ j ∈ vs := by simp [Ne.symm hv]
      simp only [e]
theorem wipe_set {σ : L2.St} {i : Nat} {x : Option V} {vs : List Nat} (h : i ∈ vs) : wipe (σ.set i x) vs = wipe σ vs := by
  apply List.ext_getElem?
  intro j
  rw [wipe_get, wipe_get, List.length_set]
  by_cases hj : j ∈ vs ∧ j < σ.length
  · rw [if_pos hj, if_pos hj]
  · rw [if_neg hj, if_neg hj]
    by_cases hij : i = j
    · subst hij
      rw [List.getElem?_eq_none (by simp; exact Nat.le_of_not_lt fun z => hj ⟨h, z⟩), List.getElem?_eq_none (Nat.le_of_not_lt fun z => hj ⟨h, z⟩)]
    · rw [List.getElem?_set_ne hij]
theorem wipe_wipe (σ : L2.St) (vs : List Nat) : wipe (wipe σ vs) vs = wipe σ vs := by
  apply List.ext_getElem?
  intro j
  rw [wipe_get, wipe_length]
  by_cases hj : j ∈ vs ∧ j < σ.length
  · rw [if_pos hj, wipe_get, if_pos hj]
  · rw [if_neg hj]
def bName (i : Nat) : FB := fun d sg => some (sg.set i (some (.d d)))
theorem dg_name {i : Nat} {x : Str} {pos : Pos} {vs : List Nat} (hN : X.N.Nodup) (hi : X.N[i]? = some x) (hx : Loc X.env.scope x) (hv : i ∈ vs) (hf : X.fn x = true ∨ X.env.scope.names.lookup x = some .local := by first | exact .inl rfl | exact .inr rfl) : DG X (.Name x pos) vs (bName i) := by
  refine ⟨PG.imp (pg_name hN hi hx hf) fun v σ H Q q => ?_⟩
  obtain ⟨d, sg, Φ, ρ, env, r, q⟩ := q
  exact q _ (env.set i (w := .d d) r) (wipe_set hv)
def bAll : List Nat → List D → Sg → Option Sg
  | [], [], sg => some sg
  | i :: is, d :: ds, sg => bAll is ds (sg.set i (some (.d d)))
  | _, _, _ => none
def bTup (is : List Nat) : FB := fun d sg => match d with
  | .tuple ds => bAll is ds sg
  | _ => none
/-- names in a row -/
inductive NamesAt (X : Cx) : List Expr → List Nat → Prop
  | nil : NamesAt X [] []
  | cons {i : Nat} {x : Str} {pos : Pos} {es : List Expr} {is : List Nat} (hi : X.N[i]? = some x) (hx : Loc X.env.scope x) (hf : X.fn x = true ∨ X.env.scope.names.lookup x = some .local) : NamesAt X es is → NamesAt X (.Name x pos :: es) (i :: is)
def gAllN : List Nat → TGs
  | [] => gNil
  | i :: is => gCons (gName i) (gAllN is)
theorem pgs_names (hN : X.N.Nodup) : ∀ {es : List Expr} {is : List Nat}, NamesAt X es is → PGs X es (gAllN is)
  | _, _, .nil => pgs_nil
  | _, _, .cons hi hx hf t => pgs_cons (pg_name hN hi hx hf) (pgs_names hN t) (by rfl)
theorem gAllN_ok {Φ : Addr → Prop} {ρ : List Addr} {H : Hp} {Q : L2.St → Hp → Prop} {vs : List Nat} : ∀ {is : List Nat} {ws : List V} {ds : List D} {σ σ0 : L2.St} {sg sg' : Sg}, RepA K Φ H ws ds → EnvR K Φ ρ H σ sg → bAll is ds sg = some sg' → (∀ i ∈ is, i ∈ vs) → wipe σ vs = wipe σ0 vs →
    (∀ σ', EnvR K Φ ρ H σ' sg' → wipe σ' vs = wipe σ0 vs → Q σ' H) → gAllN is ws σ H Q
  | [], _, _, σ, σ0, sg, sg', .nil, env, e, _, hw, q => by
    cases e
    exact ⟨rfl, q σ env hw⟩
  | [], _, _, _, _, _, _, .cons _ _, _, e, _, _, _ => by cases e
  | _ :: _, _, _, _, _, _, _, .nil, _, e, _, _, _ => by cases e
  | i :: is, _, _, σ, σ0, sg, sg', .cons (v := v) (d := d) r t, env, e, hi, hw, q =>
    ⟨v, _, rfl, gAllN_ok t (env.set i (w := .d d) r) e (fun j hj => hi j (List.mem_cons_of_mem _ hj)) ((wipe_set (hi i List.mem_cons_self)).trans hw) q⟩
theorem names_len : ∀ {es : List Expr} {is : List Nat}, NamesAt X es is → (assignEach es X.env).length = is.length
  | _, _, .nil => rfl
  | _, _, .cons _ _ _ t => by
    have := names_len t
    show (assignEach _ X.env).length + 1 = _
    rw [this]
    rfl
theorem names_star : ∀ {es : List Expr} {is : List Nat}, NamesAt X es is → (assignEach es X.env).findIdx? (·.1) = none
  | _, _, .nil => rfl
  | _, _, .cons _ _ _ t => by
    have ih := names_star t
    rw [List.findIdx?_eq_none_iff] at ih ⊢
    intro y hy
    rcases List.mem_cons.mp hy with e | e
    · rw [e]
    · exact ih y e
theorem bAll_len : ∀ {is : List Nat} {ds : List D} {sg sg' : Sg}, bAll is ds sg = some sg' → ds.length = is.length
  | [], [], _, _, _ => rfl
  | [], _ :: _, _, _, e => by cases e
  | _ :: _, [], _, _, e => by cases e
  | i :: is, d :: ds, sg, sg', e => by
    have := bAll_len (is := is) (ds := ds) e
    simp [this]
theorem dg_tup {es : List Expr} {is vs : List Nat} {k : Nat} {pos : Pos} (hc : X.calm = true) (hN : X.N.Nodup) (h : NamesAt X es is) (hv : ∀ i ∈ is, i ∈ vs) : DG X (.Tuple es k pos) vs (bTup is) := by
  refine ⟨PG.imp (pg_tup hc (pgs_names hN h) rfl (names_star h)) fun v σ H Q q => ?_⟩
  obtain ⟨d, sg, Φ, ρ, env, r, q⟩ := q
  unfold bTup at q
  split at q
  · rename_i sg' e
    split at e
    · rename_i ds
      cases r with
      | tup hq ra =>
        refine ⟨_, _, rfl, hq, ?_, gAllN_ok ra env e hv rfl q⟩
        rw [ra.length, bAll_len e, names_len h]
    · cases e
  · exact q.elim
/-- a, b = e -/
def fAsgT (b : FB) (f : FE) : FS := fun sg S => (f sg S).bind fun r S1 => (toD r S1).bind fun d S2 => match b d sg with
  | some sg' => .ok (.nx sg') S2
  | none => .stuck
theorem ds_asgT {tg e : Expr} {pos : Pos} {vs : List Nat} {b : FB} {f : FE} (h : DE X Z e f) (hg : DG X tg vs b) (hs : swapsWithSole [tg] e pos.line X.env = pure false := by rfl) (hw : swappedStores [tg] e X.env = pure none := by rfl)
    (h1 : (assignEach [tg] X.env).map (·.2) = [assign tg X.env] := by rfl) : DS X Z (.Assign [tg] e pos) (fAsgT b f) := by
  refine ⟨PS.imp (ps_asg h.pe hg.pg hs hw h1) fun D σ H q => ?_⟩
  obtain ⟨sg, S, Φ, ρ, env, sim, q⟩ := q
  refine ⟨sg, S, Φ, ρ, env, sim, Out.wp_mono (Out.wp_bind q) (fun r S1 _ q Φ1 ρ1 H1 v t1 s1 r1 => ?_) (fun _ _ z => z)⟩
  have q := Out.wp_bind q
  cases e1 : toD r S1 with
  | ok d S2 =>
    rw [e1] at q
    obtain ⟨Φ2, t2, s2, r2⟩ := toD_ok r1 s1 e1
    have t12 := t1.take t2 fun _ h => h
    have q : (match b d sg with | some sg' => Out.ok (Fl.nx sg') S2 | none => Out.stuck).wp (fun fl S' => PostS X.K Φ ρ S H fl S' D) (fun e S' => Z.p Φ ρ S H e S') := q
    refine ⟨d, sg, Φ2, ρ1, env.mono sim t12, r2, ?_⟩
    split at q
    · exact fun σ' e' _ => q _ _ _ _ t12 s2 e'
    · exact q.elim
  | exc e S2 =>
    exfalso
    cases r with
    | newd x => cases e1
    | d x => cases e1
    | new xs => cases e1
    | ref k =>
      cases hc : S1[k]? with
      | none => simp only [toD, hc] at e1; cases e1
      | some c => cases c <;> (simp only [toD, hc] at e1; cases e1)
  | stuck => rw [e1] at q; exact q.elim
end
end Dl
namespace Dl
open PySem PySem.Spec PyProof.Rows L2

theorem toD_noexc {r : R} {S S' : Sto} {e : Exc} : toD r S ≠ .exc e S' := by
  intro e1
  cases r with
  | d x => cases e1
  | new xs => cases e1
  | newd xs => cases e1
  | ref k =>
    cases hc : S[k]? with
    | none => simp only [toD, hc] at e1; cases e1
    | some c => cases c <;> (simp only [toD, hc] at e1; cases e1)
section
variable {X : Cx} {Z : XZ} {K : PySem.W.Frag} {Φ : Addr → Prop} {ρ : List Addr} {S : Sto} {H H0 : Hp}
theorem toD_wp {v : V} {r : R} {p : D → Sto → Prop} {q : Exc → Sto → Prop} (r1 : RepR K Φ ρ S H H0 v r) (s : Sim K Φ ρ H S) (h : (toD r S).wp p q) :
    ∃ d S' Φ', p d S' ∧ TrA (fun b => H0 b = none) Φ ρ S H Φ' ρ S' H ∧ Sim K Φ' ρ H S' ∧ Rep K Φ' H v d := by
  cases e : toD r S with
  | ok d S' =>
    rw [e] at h
    obtain ⟨Φ', t, s', r'⟩ := toD_ok r1 s e
    exact ⟨d, S', Φ', h, t, s', r'⟩
  | exc e' S' => exact (toD_noexc e).elim
  | stuck => rw [e] at h; exact h.elim
/-- a cell is another one -/
theorem put_cell {k : Nat} {a : Addr} {c c' : Cell} {o : HO} (s : Sim K Φ ρ H S) (hk : ρ[k]? = some a) (hc : S[k]? = some c) (hm : c.mut = true) (hm' : c'.mut = true)
    (q : Tr Φ ρ S H Φ ρ (S.set k c') (upd H a o) → CellOk K Φ ρ (upd H a o) a c') (ho : OrdC k c') (hi : ∀ C dx us, H a = some (.ins C dx us) → ∃ C' dx' us', o = .ins C' dx' us') :
    Tr Φ ρ S H Φ ρ (S.set k c') (upd H a o) ∧ Sim K Φ ρ (upd H a o) (S.set k c') := by
  have m : MutAt ρ S a := ⟨k, c, hk, hc, hm⟩
  have hkl : k < S.length := (List.getElem?_eq_some_iff.mp hc).1
  have back : ∀ (j : Nat) (d : Cell), (S.set k c')[j]? = some d → d.mut = true → ∃ e : Cell, S[j]? = some e ∧ e.mut = true := fun j d e h => by
    by_cases hj : k = j
    · subst hj; exact ⟨c, hc, hm⟩
    · rw [List.getElem?_set_ne hj] at e; exact ⟨d, e, h⟩
  have nPhi : ∀ b d, CellOk K Φ ρ H b d → d.mut = true → ¬ Φ b := fun b d q e => by
    cases d with
    | lst xs => obtain ⟨_, _, _, n⟩ := q; exact n
    | val x => cases e
    | dct kvs => obtain ⟨_, _, _, n⟩ := q; exact n
    | ins C id fs => obtain ⟨_, _, _, _, n, _⟩ := q; exact n
    | dead => cases e
    | lck _ => cases e
  have t : Tr Φ ρ S H Φ ρ (S.set k c') (upd H a o) := ⟨fun b o e n => by
      rw [upd_ne (by rintro rfl; exact n m)]; exact e, fun b e => by
      unfold upd
      split
      · simp
      · exact e, fun _ e => e, fun _ e => .inl e, ⟨[], by simp⟩, fun b ⟨j, d, e1, e2, e3⟩ => by
      obtain ⟨e, e4, e5⟩ := back j d e2 e3
      exact .inl ⟨j, e, e1, e4, e5⟩⟩
  refine ⟨t, ⟨by simp [s.len], fun j b d e1 e2 => ?_, fun i j b d e e1 e2 e3 e4 e5 e6 => ?_, fun j d e1 => ?_, fun b e => t.there b (s.phi b e)⟩⟩
  · by_cases hj : k = j
    · subst hj
      rw [List.getElem?_set_self hkl] at e2
      cases e2
      rw [hk] at e1; cases e1
      exact q t
    · rw [List.getElem?_set_ne hj] at e2
      have q := s.cell j b d e1 e2
      refine q.mono s t (fun e3 => ⟨nPhi b d q e3, upd_ne ?_⟩) fun C dx us e _ => ?_
      · rintro rfl
        exact hj (s.inj k j _ _ _ hk e1 hc e2 hm e3)
      · by_cases hb : b = a
        · subst hb
          obtain ⟨C', dx', us', rfl⟩ := hi C dx us e
          exact ⟨C', dx', us', upd_same⟩
        · exact ⟨C, dx, us, by rw [upd_ne hb]; exact e⟩
  · obtain ⟨z1, e7, e8⟩ := back i d e3 e5
    obtain ⟨z2, e9, e10⟩ := back j e e4 e6
    exact s.inj i j b _ _ e1 e2 e7 e9 e8 e10
  · by_cases hj : k = j
    · subst hj
      rw [List.getElem?_set_self hkl] at e1
      cases e1
      exact ho
    · rw [List.getElem?_set_ne hj] at e1
      exact s.ord j d e1
/-- a cell's list is another one -/
theorem set_cell {k : Nat} {a : Addr} {xs ys : List D} {ws : List V} (s : Sim K Φ ρ H S) (hk : ρ[k]? = some a) (hc : S[k]? = some (Cell.lst xs)) (r : RepA K Φ H ws ys) :
    Tr Φ ρ S H Φ ρ (S.set k (.lst ys)) (upd H a (.lst ws)) ∧ Sim K Φ ρ (upd H a (.lst ws)) (S.set k (.lst ys)) := by
  obtain ⟨vs, h1, h2, h3⟩ := s.cell k a _ hk hc
  exact put_cell s hk hc rfl rfl (fun t => ⟨ws, upd_same, RepA.mono s t r, h3⟩) trivial (fun _ _ _ e => by rw [h1] at e; cases e)
/-- a cell's dict is another one -/
theorem set_dct {k : Nat} {a : Addr} {xs ys : List (Key × D)} {ws : List (Key × V)} (s : Sim K Φ ρ H S) (hk : ρ[k]? = some a) (hc : S[k]? = some (Cell.dct xs)) (r : RepKV K Φ H ws ys) :
    Tr Φ ρ S H Φ ρ (S.set k (.dct ys)) (upd H a (.dK ws)) ∧ Sim K Φ ρ (upd H a (.dK ws)) (S.set k (.dct ys)) := by
  obtain ⟨vs, h1, h2, h3⟩ := s.cell k a _ hk hc
  exact put_cell s hk hc rfl rfl (fun t => ⟨ws, upd_same, r.mono s t, h3⟩) trivial (fun _ _ _ e => by rw [h1] at e; cases e)
end
/-- a key of a dict -/
def keyD : D → Option Key
  | .int i => some (.inl i)
  | .str x => some (.inr x)
  | _ => none
/-- a dict's item; a dict with an item put -/
def dGet {β : Type} (kvs : List (Key × β)) (k : Key) : Option β := (kvs.find? fun kv => decide (kv.1 = k)).map (·.2)
def dPut {β : Type} (kvs : List (Key × β)) (k : Key) (v : β) : List (Key × β) :=
  if (kvs.any fun kv => decide (kv.1 = k)) = true then kvs.map (fun kv => if kv.1 = k then (kv.1, v) else kv) else kvs ++ [(k, v)]
theorem dGet_pos {β : Type} {p : Key × β} {r : List (Key × β)} {k : Key} (e : p.1 = k) : dGet (p :: r) k = some p.2 := by simp [dGet, List.find?_cons, e]
theorem dGet_neg {β : Type} {p : Key × β} {r : List (Key × β)} {k : Key} (e : ¬ p.1 = k) : dGet (p :: r) k = dGet r k := by simp [dGet, List.find?_cons, e]
/-- a cell behind o[i] = d -/
def putSub : Cell → D → D → Option Cell
  | .lst xs, .int n, d => (ixN xs.length n).map fun j => .lst (xs.set j d)
  | .dct kvs, i, d => match keyD i with
    | some k => if kvs.length < lim then some (.dct (dPut kvs k d)) else none
    | none => none
  | _, _, _ => none
/-- o[i] = e, o a cell -/
def fSetSub (fo fi fe : FE) : FS := fun sg S => (fe sg S).bind fun r S1 => (toD r S1).bind fun d S2 => (fo sg S2).bind fun o S3 => (fi sg S3).bind fun ix S4 => match o, pk S4 ix with
  | .ref k, some i => match S4[k]? with
    | some c => match putSub c i d with
      | some c' => .ok (.nx sg) (S4.set k c')
      | none => .stuck
    | none => .stuck
  | _, _ => .stuck
/-- o.m(..), o a cell: its list by the arguments -/
def fUpd (g : List D → List D → Option (List D)) (fo : FE) (fa : FA) : FS := fun sg S => (fo sg S).bind fun o S1 => match o with
  | .ref k => match S1[k]? with
    | some (.lst _) => (fa sg S1).bind fun ws S2 => (wsD ws S2).bind fun ds S3 => match S3[k]? with
      | some (.lst xs) => match g xs ds with
        | some ys => .ok (.nx sg) (S3.set k (.lst ys))
        | none => .stuck
      | _ => .stuck
    | _ => .stuck
  | _ => .stuck
def uAppend : List D → List D → Option (List D)
  | xs, [d] => if xs.length < lim then some (xs ++ [d]) else none
  | _, _ => none
def uInsert : List D → List D → Option (List D)
  | xs, [.int i, d] => if xs.length < lim ∧ 0 ≤ i ∧ i.natAbs ≤ 1000000 then some (xs.take i.toNat ++ [d] ++ xs.drop i.toNat) else none
  | _, _ => none
section
variable {X : Cx} {Z : XZ} {K : PySem.W.Frag}
theorem keyD_view {Φ : Addr → Prop} {H : Hp} {v : V} {d : D} {k : Key} (h : View K Φ H v d) (e : keyD d = some k) : v = kV k := by
  cases d with
  | int i => cases e; cases h; rfl
  | str i => cases e; cases h; rfl
  | _ => cases e
theorem RepKV.get {Φ : Addr → Prop} {H : Hp} {k : Key} : ∀ {ws : List (Key × V)} {kvs : List (Key × D)}, RepKV K Φ H ws kvs → match dGet kvs k with
    | some d => ∃ v, valV ws k = some v ∧ Rep K Φ H v d
    | none => valV ws k = none
  | [], [], _ => rfl
  | [], _ :: _, h => by cases h.1
  | _ :: _, [], h => by cases h.1
  | p :: ws, q :: kvs, ⟨h1, h2⟩ => by
    simp only [List.map_cons, List.cons.injEq] at h1
    cases h2 with
    | cons a t =>
      have ih := RepKV.get (k := k) (ws := ws) (kvs := kvs) ⟨h1.2, t⟩
      by_cases e : q.1 = k
      · rw [dGet_pos e, valV_pos (h1.1.trans e)]
        exact ⟨_, rfl, a⟩
      · rw [dGet_neg e, valV_neg (fun z => e (h1.1.symm.trans z))]
        exact ih
theorem RepKV.put {Φ : Addr → Prop} {H : Hp} {ws : List (Key × V)} {kvs : List (Key × D)} {v : V} {d : D} (h : RepKV K Φ H ws kvs) (k : Key) (r : Rep K Φ H v d) : RepKV K Φ H (putK ws k v) (dPut kvs k d) := by
  have key : ∀ {ws : List (Key × V)} {kvs : List (Key × D)}, RepKV K Φ H ws kvs → RepKV K Φ H (ws.map fun kv => if kv.1 = k then (kv.1, v) else kv) (kvs.map fun kv => if kv.1 = k then (kv.1, d) else kv) := by
    intro ws
    induction ws with
    | nil => intro kvs h; cases kvs with
      | nil => exact h
      | cons => cases h.1
    | cons p ws ih =>
      intro kvs h
      cases kvs with
      | nil => cases h.1
      | cons q kvs =>
        obtain ⟨h1, h2⟩ := h
        simp only [List.map_cons, List.cons.injEq] at h1
        cases h2 with
        | cons a t =>
          have q' := ih ⟨h1.2, t⟩
          simp only [RepKV, List.map_cons]
          by_cases e : q.1 = k
          · rw [if_pos e, if_pos (h1.1.trans e)]
            exact ⟨by rw [List.cons.injEq]; exact ⟨h1.1, q'.1⟩, .cons r q'.2⟩
          · rw [if_neg e, if_neg (fun z => e (h1.1.symm.trans z))]
            exact ⟨by rw [List.cons.injEq]; exact ⟨h1.1, q'.1⟩, .cons a q'.2⟩
  have same : ∀ {ws : List (Key × V)} {kvs : List (Key × D)}, ws.map (·.1) = kvs.map (·.1) → (ws.any fun kv => decide (kv.1 = k)) = kvs.any fun kv => decide (kv.1 = k) := fun {ws kvs} e => by
    have := congrArg (fun l => l.any fun x => decide (x = k)) e
    rw [List.any_map, List.any_map] at this
    exact this
  unfold putK dPut
  rw [same h.1]
  split
  · exact key h
  · refine ⟨?_, ?_⟩
    · rw [List.map_append, List.map_append, h.1]; rfl
    · rw [List.map_append, List.map_append]
      exact h.2.append (.cons r .nil)
theorem RepKV.len {Φ : Addr → Prop} {H : Hp} {ws : List (Key × V)} {kvs : List (Key × D)} (h : RepKV K Φ H ws kvs) : ws.length = kvs.length := by
  have := congrArg List.length h.1
  simpa using this
/-- o[i] = v, by values: a list or a dict -/
def rSetS : TSet := fun o i v H Q => rSetL o i v H Q ∨ rSetD o i v H Q
theorem set_sub (hu : X.A.units + 1 < cLine) : PSet X rSetS := fun pins s σ H o i v ov iv u Q I ro ri rv h => h.elim (set_list pins s σ H o i v ov iv u Q I ro ri rv) (set_dict hu pins s σ H o i v ov iv u Q I ro ri rv)
theorem ds_setSub {o i e : Expr} {pos pos' : Pos} {fo fi fe : FE} (hu : X.A.units + 1 < cLine) (ho : DE X Z o fo) (hi : DE X Z i fi) (he : DE X Z e fe) (hs : swapsWithSole [.Subscript o i pos'] e pos.line X.env = pure false := by rfl) (hw : swappedStores [.Subscript o i pos'] e X.env = pure none := by rfl)
    (h1 : (assignEach [.Subscript o i pos'] X.env).map (·.2) = [assign (.Subscript o i pos') X.env] := by rfl)
    (ha : ∀ v, assign (.Subscript o i pos') X.env v = (do
      let ov ← holding [v] (eval o X.env)
      let iv ← holding [v, ov] (eval i X.env)
      standAt pos'
      holding [v, ov, iv] (setItem ov iv v)
      release [v, ov, iv] []) := by intro _; rfl) : DS X Z (.Assign [.Subscript o i pos'] e pos) (fSetSub fo fi fe) := by
  refine ⟨PS.imp (ps_asg he.pe (pg_sub ho.pe hi.pe (set_sub hu) ha) hs hw h1) fun D σ H q => ?_⟩
  obtain ⟨sg, S, Φ, ρ, env, sim, q⟩ := q
  refine ⟨sg, S, Φ, ρ, env, sim, Out.wp_mono (Out.wp_bind q) (fun r S1 eoS1 q Φ1 ρ1 H1 v t1 s1 r1 => ?_) (fun _ _ z => z)⟩
  obtain ⟨d, S2, Φ2, q, t2, s2, r2⟩ := toD_wp r1 s1 (Out.wp_bind q)
  have t12 := t1.take t2 fun _ h => h
  refine ⟨sg, S2, Φ2, ρ1, env.mono sim t12, s2, Out.wp_mono (Out.wp_bind q) (fun o S3 eoS3 q Φ3 ρ3 H3 ov t3 s3 r3 => ?_) (fun _ _ z => Z.after z t12)⟩
  have t13 := t12.trans t3
  refine ⟨sg, S3, Φ3, ρ3, env.mono sim t13, s3, Out.wp_mono (Out.wp_bind q) (fun ix S4 eoS4 q Φ4 ρ4 H4 iv t4 s4 r4 => ?_) (fun _ _ z => Z.after z t13)⟩
  have t14 := t13.trans t4
  have t24 := t3.trans t4
  clear eoS1 eoS3
  cases o with
  | d x => exact q.elim
  | new xs => exact q.elim
  | newd xs => exact q.elim
  | ref k =>
  cases e1 : pk S4 ix with
  | none => rw [e1] at q; exact q.elim
  | some y =>
  rw [e1] at q
  dsimp only at q
  split at q
  · rename_i c e2
    split at q
    · rename_i c' e3
      obtain ⟨a, rfl, hk⟩ := r3.mono s3 t4
      have v4 := pk_ok r4 s4 e1
      have rd := Rep.mono s2 t24 r2
      unfold putSub at e3
      split at e3
      · rename_i xs n
        cases v4
        cases e4 : ixN xs.length n with
        | none => rw [e4] at e3; cases e3
        | some j =>
          rw [e4] at e3
          cases e3
          obtain ⟨vs, h5, h6, h7⟩ := s4.cell k a _ hk e2
          obtain ⟨t5, s5⟩ := set_cell s4 hk e2 (h6.set j rd)
          refine .inl ⟨a, vs, n, j, rfl, rfl, h5, by rw [h6.length]; exact e4, ?_⟩
          have t15 := t14.trans t5
          exact q _ _ _ _ t15 s5 (env.mono sim t15)
      · rename_i kvs _
        split at e3
        · rename_i key e4
          split at e3
          · rename_i hl
            cases e3
            obtain ⟨ws, h5, h6, h7⟩ := s4.cell k a _ hk e2
            obtain ⟨t5, s5⟩ := set_dct s4 hk e2 (h6.put key rd)
            have t15 := t14.trans t5
            refine .inr ⟨a, _, rfl, ?_, q _ _ _ _ t15 s5 (env.mono sim t15)⟩
            rw [keyD_view v4 e4]
            exact DPut.k h5 (lim_lt (by rw [h6.len]; exact hl))
          · cases e3
        · cases e3
      · cases e3
    · exact q.elim
  · exact q.elim
theorem upd_imp {g : List D → List D → Option (List D)} {fo : FE} {fa : FA} {r : V → List V → Hp → VK → Prop} {En : Ends} {σ : L2.St} {H : Hp}
    (hg : ∀ {Φ : Addr → Prop} {a : Addr} {xs ds ys : List D} {vs us : List V} {H : Hp} {Q : VK}, H a = some (.lst vs) → RepA K Φ H vs xs → RepA K Φ H us ds → g xs ds = some ys → (∀ ws, RepA K Φ H ws ys → Q .non (upd H a (.lst ws))) → r (.ref a) us H Q)
    (q : tS K Z (fUpd g fo fa) En σ H) : tDrop (tBM K "list" r (tE K Z fo) (tA K Z fa)) En σ H := by
  obtain ⟨sg, S, Φ, ρ, env, sim, q⟩ := q
  refine ⟨sg, S, Φ, ρ, env, sim, Out.wp_mono (Out.wp_bind q) (fun o S1 eoS1 q Φ1 ρ1 H1 v t1 s1 r1 => ?_) (fun _ _ z => z)⟩
  split at q
  · rename_i k
    split at q
    · rename_i xs0 e0
      obtain ⟨a, rfl, hk⟩ := r1
      obtain ⟨vs0, g1, _⟩ := s1.cell k a _ hk e0
      refine ⟨.inl ⟨rfl, _, SqL.of g1⟩, sg, S1, Φ1, ρ1, env.mono sim t1, s1, Out.wp_mono (Out.wp_bind q) (fun ws S2 eoS2 q Φ2 ρ2 H2 us t2 s2 r2 => ?_) (fun _ _ z => Z.after z t1)⟩
      have t12 := t1.trans t2
      obtain ⟨ds, S3, Φ3, q, t3, s3, r3⟩ := wsD_wp r2 s2 (Out.wp_bind q)
      have t13 := t12.trans t3
      split at q
      · rename_i xs e2
        split at q
        · rename_i ys e3
          have hk3 := t3.rho (t2.rho hk)
          obtain ⟨vs, h5, h6, h7⟩ := s3.cell k a _ hk3 e2
          refine hg h5 h6 r3 e3 fun us' ru => ?_
          obtain ⟨t5, s5⟩ := set_cell s3 hk3 e2 ru
          have t15 := t13.trans t5
          exact q _ _ _ _ t15 s5 (env.mono sim t15)
        · exact q.elim
      · exact q.elim
    · exact q.elim
  · exact q.elim
theorem ds_append {o e : Expr} {pos apos cpos : Pos} {fo fe : FE} (ho : DE X Z o fo) (he : DE X Z e fe)
    (hst : starEach [e] X.env = (false, eval e X.env) :: starEach [] X.env := by rfl)
    (hpe : ∀ {to : TE} {t : TA}, PE X o to → PA X [e] t → PE X (.Call (.Attribute o "append" apos) [e] [] cpos) (tBM X.K "list" rAppend to t) := by intro _ _ ho ha; exact pe_bm PySem.F.plainAttrs_list PySem.F.slot_list_append PySem.F.type_list_append mt_append ho ha)
    (hs : swapsWith (.Call (.Attribute o "append" apos) [e] [] cpos) none pos.line X.env = pure false := by rfl) : DS X Z (.Expr (.Call (.Attribute o "append" apos) [e] [] cpos) pos) (fUpd uAppend fo (fCons fe fNil)) := by
  refine ⟨PS.imp (ps_expr (hpe ho.pe (da_cons he da_nil hst).pa) hs) fun D σ H q => upd_imp (fun {Φ a xs ds ys vs us H Q} h1 h2 h3 e1 k => ?_) q⟩
  unfold uAppend at e1
  split at e1
  · rename_i d
    split at e1
    · rename_i hl
      cases e1
      cases h3 with
      | cons r t =>
        cases t
        exact ⟨_, _, _, rfl, rfl, h1, lim_lt (by rw [h2.length]; exact hl), k _ (h2.append (.cons r .nil))⟩
    · cases e1
  · cases e1
theorem ds_insert {o i e : Expr} {pos apos cpos : Pos} {fo fi fe : FE} (ho : DE X Z o fo) (hi : DE X Z i fi) (he : DE X Z e fe)
    (hst : starEach [i, e] X.env = (false, eval i X.env) :: starEach [e] X.env := by rfl) (hst2 : starEach [e] X.env = (false, eval e X.env) :: starEach [] X.env := by rfl)
    (hpe : ∀ {to : TE} {t : TA} {r : V → List V → Hp → VK → Prop}, MtR X "list.insert" r → PE X o to → PA X [i, e] t → PE X (.Call (.Attribute o "insert" apos) [i, e] [] cpos) (tBM X.K "list" r to t) := by intro _ _ _ hm ho ha; exact pe_bm PySem.F.plainAttrs_list PySem.F.slot_list_insert PySem.F.type_list_insert hm ho ha)
    (hs : swapsWith (.Call (.Attribute o "insert" apos) [i, e] [] cpos) none pos.line X.env = pure false := by rfl) : DS X Z (.Expr (.Call (.Attribute o "insert" apos) [i, e] [] cpos) pos) (fUpd uInsert fo (fCons fi (fCons fe fNil))) := by
  refine ⟨PS.imp (ps_expr (hpe mt_insert ho.pe (da_cons hi (da_cons he da_nil hst2) hst).pa) hs) fun D σ H q => upd_imp (fun {Φ a xs ds ys vs us H Q} h1 h2 h3 e1 k => ?_) q⟩
  unfold uInsert at e1
  split at e1
  · rename_i n d
    split at e1
    · rename_i hl
      cases e1
      cases h3 with
      | cons r0 t =>
        cases r0
        cases t with
        | cons r t =>
          cases t
          exact ⟨_, _, _, _, rfl, rfl, h1, lim_lt (by rw [h2.length]; exact hl.1), hl.2.1, by omega, k _ (((h2.take _).append (.cons r .nil)).append (h2.drop _))⟩
    · cases e1
  · cases e1
end

/-! ### what is walked -/
abbrev FI := Sg → Sto → Out (List D)
def WalkD (K : PySem.W.Frag) (Φ : Addr → Prop) (ρ : List Addr) (S : Sto) (H : Hp) (J : It) (xs : List D) : Prop := ∃ G Y, L2.Walk J xs.length G Y ∧ ∀ Φ2 ρ2 S2 H2, Tw Φ H Φ2 H2 → Sim K Φ2 ρ2 H2 S2 →
  G H2 ∧ ∀ i x H3, i < xs.length → Y i H2 x H3 → ∃ d, xs[i]? = some d ∧ Tr Φ2 ρ2 S2 H2 Φ2 ρ2 S2 H3 ∧ Sim K Φ2 ρ2 H3 S2 ∧ Rep K Φ2 H3 x d
def tI (K : PySem.W.Frag) (Z : XZ) (f : FI) : TI := fun σ H R => ∃ sg S Φ ρ, EnvR K Φ ρ H σ sg ∧ Sim K Φ ρ H S ∧ (f sg S).wp (fun xs S' => ∀ Φ' ρ' H' J, Tr Φ ρ S H Φ' ρ' S' H' → Sim K Φ' ρ' H' S' → WalkD K Φ' ρ' S' H' J xs → R J H') (fun e S' => Z.p Φ ρ S H e S')
structure DI (X : Cx) (Z : XZ) (tg iter : Expr) (f : FI) : Prop where
  pi : PI X tg iter (tI X.K Z f)
theorem PI.imp {X : Cx} {tg e : Expr} {t t' : TI} (h : PI X tg e t) (k : ∀ σ H Q, t' σ H Q → t σ H Q) : PI X tg e t' := ⟨fun p s σ H Q I q => h.run p s σ H Q I (k σ H Q q)⟩
def iSeq (K : PySem.W.Frag) (tl : TE) : TI := fun σ H R => tl σ H fun x H1 => ∃ a, x = .ref a ∧ (((∃ xs, SqL K H1 a xs) ∧ R (Itl K a) H1) ∨ ((∃ xs, SqT K H1 a xs) ∧ R (Itt K a) H1))
section
variable {X : Cx} {Z : XZ} {K : PySem.W.Frag}
theorem pi_seq {tg l : Expr} {tl : TE} (hl : PE X l tl) : PI X tg l (iSeq X.K tl) := by
  refine ⟨fun pins s σ H R I h => ?_⟩
  refine thn (hl.run pins s σ H _ I h) fun v s1 ⟨x, H1, I1, r1, q1⟩ => ?_
  obtain ⟨a, e, ⟨⟨xs, hq⟩, q⟩ | ⟨⟨xs, hq⟩, q⟩⟩ := q1
  · subst e
    cases r1
    obtain ⟨its, rv, p, hz⟩ := I1.list hq
    refine wpAny_pyIter_list p.isList ?_
    refine ⟨s1.heap.objs.size, [s1.heap.objs.size], _, _, H1, rfl, I1.kept (t' := s1.toks) fun b o e => Heap.get?_push_of_some _ e, turn_list a _, ⟨_, Heap.get?_push_size _ rfl, rfl, rfl⟩, fun b hb => ?_, q⟩
    have e : b = s1.heap.objs.size := by simpa using hb
    subst e
    exact I1.fpOk (Nat.le_refl _) (I1.hok.fresh (Nat.le_refl _))
  · subst e
    cases r1
    obtain ⟨its, rv, p, hz⟩ := I1.tuple hq
    refine wpAny_pyIter_tuple (show s1.heap.IsTuple a its.toArray from p) ?_
    refine ⟨s1.heap.objs.size, [s1.heap.objs.size], _, _, H1, rfl, I1.kept (t' := s1.toks) fun b o e => Heap.get?_push_of_some _ e, turn_tuple a _, ⟨_, Heap.get?_push_size _ rfl, rfl, rfl⟩, fun b hb => ?_, q⟩
    have e : b = s1.heap.objs.size := by simpa using hb
    subst e
    exact I1.fpOk (Nat.le_refl _) (I1.hok.fresh (Nat.le_refl _))
def fSeqI (f : FE) : FI := fun sg S => (f sg S).bind fun r S1 => (toD r S1).bind fun d S2 => match d with
  | .list xs => .ok xs S2
  | .tuple xs => .ok xs S2
  | _ => .stuck
theorem SqL.stay {Φ : Addr → Prop} {H : Hp} {a : Addr} {xs : List D} (r : Rep K Φ H (.ref a) (.list xs)) :
    ∃ vs, RepA K Φ H vs xs ∧ SqL K H a vs ∧ ∀ Φ' H', Tw Φ H Φ' H' → SqL K H' a vs := by
  cases r with
  | lst hp h r => exact ⟨_, r, SqL.of h, fun Φ' H' t => SqL.of (t.keep _ _ h (.inl hp))⟩
  | lstK h r => exact ⟨_, r, .inr h, fun _ _ _ => .inr h⟩
  | lstF h r => exact ⟨_, r, .inl (.inr ⟨_, h⟩), fun Φ' H' t => .inl (.inr ⟨_, t.keep _ _ h (.inr id)⟩)⟩
theorem di_seq {tg l : Expr} {f : FE} (h : DE X Z l f) : DI X Z tg l (fSeqI f) := by
  refine ⟨PI.imp (pi_seq h.pe) fun σ H Q q => ?_⟩
  obtain ⟨sg, S, Φ, ρ, env, sim, q⟩ := q
  refine ⟨sg, S, Φ, ρ, env, sim, Out.wp_mono (Out.wp_bind q) (fun r S1 eoS1 q Φ1 ρ1 H1 v t1 s1 r1 => ?_) (fun _ _ z => z)⟩
  obtain ⟨d, S2, Φ2, q, t2, s2, r2⟩ := toD_wp r1 s1 (Out.wp_bind q)
  have t12 := t1.take t2 fun _ h => h
  split at q
  · rename_i xs
    obtain ⟨a, rfl⟩ : ∃ a, v = .ref a := by cases r2 <;> exact ⟨_, rfl⟩
    obtain ⟨vs, ra, sq, st⟩ := SqL.stay r2
    refine ⟨a, rfl, .inl ⟨⟨vs, sq⟩, q _ _ _ _ t12 s2 ⟨_, _, ra.length ▸ walk_list, fun Φ3 ρ3 S3 H3 t3 s3 => ⟨st _ _ t3, fun i x H4 hi y => ?_⟩⟩⟩⟩
    obtain ⟨rfl, y⟩ := y
    obtain ⟨d, e1, e2⟩ := ra.get' y
    exact ⟨d, e1, .refl, s3, Rep.tw t3 e2⟩
  · rename_i xs
    cases r2 with
    | tup sq ra =>
      rename_i a vs
      refine ⟨a, rfl, .inr ⟨⟨vs, sq⟩, q _ _ _ _ t12 s2 ⟨_, _, ra.length ▸ walk_tup, fun Φ3 ρ3 S3 H3 t3 s3 => ⟨SqT.tw t3 sq, fun i x H4 hi y => ?_⟩⟩⟩⟩
      obtain ⟨rfl, y⟩ := y
      obtain ⟨d, e1, e2⟩ := ra.get' y
      exact ⟨d, e1, .refl, s3, Rep.tw t3 e2⟩
  · exact q.elim
/-- lo, lo + 1, .. (n of them) -/
def rngOk (j : Int) : Bool := decide (j.natAbs ≤ 1000000)
theorem rngOk_ok {j : Int} (h : rngOk j = true) : -(2 ^ 62) ≤ j ∧ j < 2 ^ 62 := by
  have h := of_dec h
  omega
def rangeD (lo : Int) (n : Nat) : List D := (List.range n).map fun (i : Nat) => .int (lo + i)
def fRange1 (fa : FA) : FI := fun sg S => (fa sg S).bind fun ws S1 => match viewsOf S1 ws with
  | some [.int j] => gate (rngOk j) (.ok (rangeD 0 j.toNat) S1)
  | _ => .stuck
def fRange2 (fa : FA) : FI := fun sg S => (fa sg S).bind fun ws S1 => match viewsOf S1 ws with
  | some [.int i, .int j] => gate (rngOk i && rngOk j) (.ok (rangeD i (j - i).toNat) S1)
  | _ => .stuck
theorem range_walkD {Φ : Addr → Prop} {ρ : List Addr} {S : Sto} {H : Hp} (lo : Int) (n : Nat) : WalkD K Φ ρ S H (Itr lo n) (rangeD lo n) := by
  have hl : (rangeD lo n).length = n := by simp [rangeD]
  refine ⟨_, _, (by rw [hl]; exact walk_range), fun Φ2 ρ2 S2 H2 t s => ⟨trivial, fun i x H3 hi y => ?_⟩⟩
  obtain ⟨rfl, rfl⟩ := y
  rw [hl] at hi
  exact ⟨.int (lo + i), by simp [rangeD, hi], .refl, s, .int _⟩
theorem di_range1 {tg a : Expr} {fa : FA} {p pos : Pos} (hg : Gl X "range") (hm : X.mg "range" = none) (ha : DA X Z [a] fa) (hs : starEach [a] X.env = [(false, eval a X.env)] := by rfl) : DI X Z tg (.Call (.Name "range" p) [a] [] pos) (fRange1 fa) := by
  refine ⟨PI.imp (pi_range1 hg hm ha.pa hs) fun σ H Q q => ?_⟩
  obtain ⟨sg, S, Φ, ρ, env, sim, q⟩ := q
  refine ⟨sg, S, Φ, ρ, env, sim, Out.wp_mono (Out.wp_bind q) (fun ws S1 eoS1 q Φ1 ρ1 H1 vs t1 s1 r1 => ?_) (fun _ _ z => z)⟩
  split at q
  · rename_i j e
    obtain ⟨hl, q⟩ := gate_wp q
    obtain ⟨v, rfl, h⟩ := views1 (viewsOf_ok s1 r1 e)
    cases h
    exact ⟨j, rfl, (rngOk_ok hl).1, (rngOk_ok hl).2, q _ _ _ _ t1 s1 (range_walkD 0 _)⟩
  · exact q.elim
theorem di_range2 {tg a b : Expr} {fa : FA} {p pos : Pos} (hg : Gl X "range") (hm : X.mg "range" = none) (ha : DA X Z [a, b] fa) (hs : starEach [a, b] X.env = [(false, eval a X.env), (false, eval b X.env)] := by rfl) (hs2 : starEach [b] X.env = [(false, eval b X.env)] := by rfl) : DI X Z tg (.Call (.Name "range" p) [a, b] [] pos) (fRange2 fa) := by
  refine ⟨PI.imp (pi_range2 hg hm ha.pa hs hs2) fun σ H Q q => ?_⟩
  obtain ⟨sg, S, Φ, ρ, env, sim, q⟩ := q
  refine ⟨sg, S, Φ, ρ, env, sim, Out.wp_mono (Out.wp_bind q) (fun ws S1 eoS1 q Φ1 ρ1 H1 vs t1 s1 r1 => ?_) (fun _ _ z => z)⟩
  split at q
  · rename_i i j e
    obtain ⟨hl, q⟩ := gate_wp q
    obtain ⟨v, w, rfl, h1, h2⟩ := views2 (viewsOf_ok s1 r1 e)
    cases h1; cases h2
    obtain ⟨g1, g2⟩ := Bool.and_eq_true_iff.mp hl
    exact ⟨i, j, rfl, ⟨(rngOk_ok g1).1, (rngOk_ok g1).2, (rngOk_ok g2).1, (rngOk_ok g2).2⟩, q _ _ _ _ t1 s1 (range_walkD i _)⟩
  · exact q.elim

/-! ### for -/
def forL (b : FB) (body : FS) : List D → Sg → Sto → Out Fl
  | [], sg, S => .ok (.nx sg) S
  | x :: xs, sg, S => match b x sg with
    | none => .stuck
    | some sg1 => (body sg1 S).bind fun fl S1 => match fl with
      | .nx g => forL b body xs g S1
      | .ct g => forL b body xs g S1
      | .bk g => .ok (.nx g) S1
      | .rt r => .ok (.rt r) S1
def fFor (fi : FI) (b : FB) (body : FS) : FS := fun sg S => (fi sg S).bind fun xs S1 => forL b body xs sg S1
theorem ds_for {tg iter : Expr} {body : List Stmt} {pos : Pos} {vs : List Nat} {fi : FI} {b : FB} {fb : FS} (hp : PassesOwn (model X.prog X.w) X.A X.env X.xe) (hc : X.calm = true) (hi : DI X Z tg iter fi) (hg : DG X tg vs b) (hb : DSs X Z body fb)
    (hs : ∀ x, foldedSetIterable iter X.env x = pure x := by intro _; rfl) : DS X Z (.For tg iter body [] pos) (fFor fi b fb) := by
  refine ⟨PS.imp (ps_for hp hc hi.pi hg.pg hb.ps hs) fun D σ H q => ?_⟩
  obtain ⟨sg, S, Φ, ρ, env, sim, q⟩ := q
  refine ⟨sg, S, Φ, ρ, env, sim, Out.wp_mono (Out.wp_bind q) (fun xs S1 eoS1 q Φ1 ρ1 H1 J t1 s1 wk => ?_) (fun _ _ z => z)⟩
  obtain ⟨G, Y, w, wk⟩ := wk
  refine for_it w (fun i σ' H' => ∃ sg S Φ ρ, Tr Φ1 ρ1 S1 H1 Φ ρ S H' ∧ Sim X.K Φ ρ H' S ∧ EnvR X.K Φ ρ H' σ' sg ∧ (forL b fb (xs.drop i) sg S).wp (fun fl S' => PostS X.K Φ ρ S H' fl S' D) (fun e S' => Z.p Φ ρ S H' e S'))
    ⟨sg, S1, Φ1, ρ1, .refl, s1, env.mono sim t1, Out.wp_mono q (fun _ _ _ q => PostS.after q t1) (fun _ _ z => Z.after z t1)⟩ (fun i σ' H' _ ⟨sg, S, Φ, ρ, t, s, _⟩ => (wk Φ ρ S H' (t.tw s1) s).1) ?_ ?_
  · rintro i x σ' H' H3 hi ⟨sg2, S2, Φ2, ρ2, t2, s2, env2, q⟩ y
    obtain ⟨d, hd, t3, s3, r3⟩ := (wk Φ2 ρ2 S2 H' (t2.tw s1) s2).2 i x H3 hi y
    have hdrop : xs.drop i = d :: xs.drop (i + 1) := by
      obtain ⟨h1, e1⟩ := List.getElem?_eq_some_iff.mp hd
      rw [List.drop_eq_getElem_cons h1, e1]
    rw [hdrop] at q
    unfold forL at q
    refine ⟨d, sg2, Φ2, ρ2, env2.mono s2 t3, r3, ?_⟩
    split at q
    · exact q.elim
    · rename_i sg3 e3
      rw [e3]
      intro σ3 env3 _
      refine ⟨sg3, S2, Φ2, ρ2, env3, s3, Out.wp_mono (Out.wp_bind q) (fun fl S4 _ q => ?_) (fun _ _ z => Z.after z t3)⟩
      have again : ∀ {g : Sg} {Φ4 ρ4 H4 σ4}, (forL b fb (xs.drop (i + 1)) g S4).wp (fun fl S' => PostS X.K Φ2 ρ2 S2 H' fl S' D) (fun e S' => Z.p Φ2 ρ2 S2 H' e S') → Tr Φ2 ρ2 S2 H3 Φ4 ρ4 S4 H4 → Sim X.K Φ4 ρ4 H4 S4 → EnvR X.K Φ4 ρ4 H4 σ4 g →
          ∃ sg S Φ ρ, Tr Φ1 ρ1 S1 H1 Φ ρ S H4 ∧ Sim X.K Φ ρ H4 S ∧ EnvR X.K Φ ρ H4 σ4 sg ∧ (forL b fb (xs.drop (i + 1)) sg S).wp (fun fl S' => PostS X.K Φ ρ S H4 fl S' D) (fun e S' => Z.p Φ ρ S H4 e S') :=
        fun {g Φ4 ρ4 H4 σ4} q t4 s4 env4 => ⟨g, S4, Φ4, ρ4, t2.trans (t3.trans t4), s4, env4, Out.wp_mono q (fun _ _ _ q => PostS.after q (t3.trans t4)) (fun _ _ z => Z.after z (t3.trans t4))⟩
      cases fl with
      | nx g => exact fun Φ4 ρ4 H4 σ4 t4 s4 env4 => again q t4 s4 env4
      | ct g => exact fun Φ4 ρ4 H4 σ4 t4 s4 env4 => again q t4 s4 env4
      | bk g => exact fun Φ4 ρ4 H4 σ4 t4 s4 env4 => q _ _ _ _ (t3.trans t4) s4 env4
      | rt r => exact fun Φ4 ρ4 H4 v t4 s4 r4 => q _ _ _ _ (t3.trans t4) s4 (r4.early t3.there)
  · rintro σ' H' ⟨sg2, S2, Φ2, ρ2, t2, s2, env2, q⟩
    rw [List.drop_length] at q
    exact q _ _ _ _ .refl s2 env2
end
end Dl
namespace Dl
open PySem PySem.Spec PyProof.Rows L2

/-! ### a tracked object that is nobody's: the list that a comprehension makes -/
section
variable {X : Cx} {Z : XZ} {K : PySem.W.Frag} {Φ Φ' : Addr → Prop} {ρ ρ' : List Addr} {S S' : Sto} {H H' H0 : Hp} {L : Addr} {o0 o1 : HO}
mutual
theorem Rep.updN (hL : H L = some o0) (hO : MutO o0) (hp : ¬ Φ L) : ∀ {v : V} {d : D}, Rep K Φ H v d → Rep K Φ (upd H L o1) v d
  | _, _, .non => .non
  | _, _, .bl b => .bl b
  | _, _, .int i => .int i
  | _, _, .str x => .str x
  | _, _, .lst q h r => .lst q (by rw [upd_ne (by rintro rfl; exact hp q)]; exact h) (RepA.updN hL hO hp r)
  | _, _, .lstK h r => .lstK h (RepA.updN hL hO hp r)
  | _, _, .lstF h r => .lstF (by rw [upd_ne (by rintro rfl; rw [hL] at h; cases h; exact hO)]; exact h) (RepA.updN hL hO hp r)
  | _, _, .tup h r => .tup (by
      rcases h with (h | ⟨o, h⟩) | h
      · exact .inl (.inl (by rw [upd_ne (by rintro rfl; rw [hL] at h; cases h; exact hO)]; exact h))
      · exact .inl (.inr ⟨o, by rw [upd_ne (by rintro rfl; rw [hL] at h; cases h; exact hO)]; exact h⟩)
      · exact .inr h) (RepA.updN hL hO hp r)
theorem RepA.updN (hL : H L = some o0) (hO : MutO o0) (hp : ¬ Φ L) : ∀ {vs : List V} {ds : List D}, RepA K Φ H vs ds → RepA K Φ (upd H L o1) vs ds
  | _, _, .nil => .nil
  | _, _, .cons a b => .cons (Rep.updN hL hO hp a) (RepA.updN hL hO hp b)
end
theorem RepW.updN (hL : H L = some o0) (hO : MutO o0) (hp : ¬ Φ L) {v : V} {w : Wv} (r : RepW K Φ ρ H v w) : RepW K Φ ρ (upd H L o1) v w := by
  cases w with
  | d x => exact Rep.updN hL hO hp r
  | ref k => exact r
theorem EnvR.updN {σ : L2.St} {sg : Sg} (hL : H L = some o0) (hO : MutO o0) (hp : ¬ Φ L) (e : EnvR K Φ ρ H σ sg) : EnvR K Φ ρ (upd H L o1) σ sg :=
  ⟨e.len, fun i w h => let ⟨v, h1, h2⟩ := e.get i w h; ⟨v, h1, RepW.updN hL hO hp h2⟩⟩
theorem Sim.updN (hL : H L = some o0) (hO : MutO o0) (hp : ¬ Φ L) (hI : ∀ C dx us, o0 ≠ .ins C dx us) (hm : ¬ MutAt ρ S L) (s : Sim K Φ ρ H S) : Sim K Φ ρ (upd H L o1) S := by
  refine ⟨s.len, fun k a c e1 e2 => ?_, s.inj, s.ord, fun a q => ?_⟩
  · have q := s.cell k a c e1 e2
    cases c with
    | lst xs =>
      obtain ⟨vs, h1, h2, h3⟩ := q
      exact ⟨vs, by rw [upd_ne (by rintro rfl; exact hm ⟨k, _, e1, e2, rfl⟩)]; exact h1, RepA.updN hL hO hp h2, h3⟩
    | val x => exact ⟨q.1, Rep.updN hL hO hp q.2⟩
    | dct kvs =>
      obtain ⟨vs, h1, h2, h3⟩ := q
      exact ⟨vs, by rw [upd_ne (by rintro rfl; exact hm ⟨k, _, e1, e2, rfl⟩)]; exact h1, ⟨h2.1, RepA.updN hL hO hp h2.2⟩, h3⟩
    | ins C id fs =>
      obtain ⟨dx, us, h1, h2, h3⟩ := q
      exact ⟨dx, us, by rw [upd_ne (by rintro rfl; exact hm ⟨k, _, e1, e2, rfl⟩)]; exact h1, ⟨h2.1, L2.Paired.mapP h2.2 fun _ _ r => RepW.updN hL hO hp r⟩, h3⟩
    | dead =>
      obtain ⟨C, dx, us, e⟩ := q
      refine ⟨C, dx, us, ?_⟩
      rw [upd_ne (by rintro rfl; rw [hL] at e; exact hI C dx us (Option.some.inj e))]
      exact e
    | lck kvs =>
      obtain ⟨o, ws, e, r⟩ := q
      exact ⟨o, ws, by rw [upd_ne (by rintro rfl; rw [hL] at e; cases e; exact hO)]; exact e, ⟨r.1, RepA.updN hL hO hp r.2⟩⟩
  · unfold upd
    split
    · simp
    · exact s.phi a q
/-- seen from a time ahead of L -/
theorem Tr.updN (t : Tr Φ ρ S H Φ' ρ' S' H') (hn : H L = none) (o : HO) : Tr Φ ρ S H Φ' ρ' S' (upd H' L o) :=
  ⟨fun a u e n => by rw [upd_ne (ne_of_none e hn)]; exact t.keep a u e n, fun a e => by
    unfold upd
    split
    · simp
    · exact t.there a e, t.phi, t.phi', t.pre, t.mt⟩
end

/-! ### comprehensions -/
structure DTs (X : Cx) (Z : XZ) (ifs : List Expr) (f : FT) : Prop where
  pt : PTs X ifs (tT X.K Z f)
theorem PTs.imp {X : Cx} {e : List Expr} {t t' : TT} (h : PTs X e t) (k : ∀ σ H Q, t' σ H Q → t σ H Q) : PTs X e t' := ⟨fun p s σ H Q I q => h.run p s σ H Q I (k σ H Q q)⟩
def fYes : FT := fun _ S => .ok true S
def wipeG (sg : Sg) : List Nat → Sg
  | [] => sg
  | v :: vs => (wipeG sg vs).set v none
def compL (sg : Sg) (b : FB) (ft : FT) (fe : FE) : List D → Sto → Out (List D)
  | [], S => .ok [] S
  | x :: xs, S => match b x sg with
    | none => .stuck
    | some sg1 => (noX (ft sg1 S)).bind fun c S1 => cond c
      ((noX (fe sg1 S1)).bind fun r S2 => (toD r S2).bind fun d S3 => (compL sg b ft fe xs S3).bind fun ds S4 => .ok (d :: ds) S4)
      (compL sg b ft fe xs S1)
def fComp (vs : List Nat) (fi : FI) (b : FB) (ft : FT) (fe : FE) : FE := fun sg S => (fi sg S).bind fun xs S1 => gate (decide (xs.length ≤ lim)) ((noX (compL (wipeG sg vs) b ft fe xs S1)).bind fun ys S2 => .ok (.new ys) S2)
section
variable {X : Cx} {Z : XZ} {K : PySem.W.Frag}
theorem dts_nil : DTs X Z [] fYes := by
  refine ⟨PTs.imp pts_nil fun σ H Q q => ?_⟩
  obtain ⟨sg, S, Φ, ρ, env, sim, q⟩ := q
  exact q _ _ _ .refl sim
theorem dts_one {c : Expr} {f : FT} (h : DT X Z c f) : DTs X Z [c] f := ⟨pts_one h.pt⟩
theorem EnvR.wipe {Φ : Addr → Prop} {ρ : List Addr} {H : Hp} {σ : L2.St} {sg : Sg} (e : EnvR K Φ ρ H σ sg) : ∀ vs : List Nat, EnvR K Φ ρ H (L2.wipe σ vs) (wipeG sg vs)
  | [] => e
  | v :: vs => (EnvR.wipe e vs).unset v
theorem comp_imp {vs : List Nat} {fi : FI} {b : FB} {ft : FT} {fe : FE} {σ : L2.St} {H : Hp} {Q : VK} (q : tE K Z (fComp vs fi b ft fe) σ H Q) : tLc (tI K Z fi) (tG K vs b) (tT K XZ.no ft) (tE K XZ.no fe) vs σ H Q := by
  obtain ⟨sg, S, Φ, ρ, env, sim, q⟩ := q
  refine ⟨sg, S, Φ, ρ, env, sim, Out.wp_mono (Out.wp_bind q) (fun xs S1 _ q Φ1 ρ1 H1 J t1 s1 wk => ?_) (fun _ _ z => z)⟩
  obtain ⟨hlen, q⟩ := gate_wp q
  have hlen := of_dec hlen
  obtain ⟨G, Y, w, wk⟩ := wk
  intro L hL
  have hH : H L = none := by
    cases e : H L with
    | none => rfl
    | some o => exact absurd hL (t1.there L (by rw [e]; simp))
  -- the turns' word
  refine lc_it w (fun i H' => ∃ S Φ ρ acc ds, Tr Φ1 ρ1 S1 H1 Φ ρ S H' ∧ Sim K Φ ρ H' S ∧ EnvR K Φ ρ H' (L2.wipe σ vs) (wipeG sg vs) ∧ H' L = some (.lst acc) ∧ RepA K Φ H' acc ds ∧ ¬ Φ L ∧ ¬ MutAt ρ S L ∧ ds.length ≤ i ∧
      (compL (wipeG sg vs) b ft fe (xs.drop i) S).wp (fun ys S' => ∀ Φ' ρ' H3 v, Tr Φ1 ρ1 S1 H1 Φ' ρ' S' H3 → Sim K Φ' ρ' H3 S' → RepR K Φ' ρ' S' H3 H v (.new (ds ++ ys)) → Q v H3) (fun _ _ => False)) ?_ (fun i H' _ ⟨S, Φ, ρ, _, _, t, s, _⟩ => (wk Φ ρ S H' (t.tw s1) s).1) ?_ ?_
  · have nm : ¬ MutAt ρ1 S1 L := fun m => by
      obtain ⟨vs, e, _⟩ := s1.mutl m
      rw [hL] at e; cases e
    have np : ¬ Φ1 L := fun e => s1.phi L e hL
    refine ⟨S1, Φ1, ρ1, [], [], Tr.newObj hL, s1.newObj hL, ((env.mono sim t1).mono s1 (A := fun _ => False) (Tr.newObj hL)).wipe vs, upd_same, .nil, np, nm, Nat.le_refl _, ?_⟩
    exact Out.wp_mono (noX_wp (Out.wp_bind q)) (fun ys S2 _ q Φ' ρ' H3 v t s r => q Φ' ρ' H3 v (t1.trans t) s r) (fun e S' z => z)
  · rintro i x H' H3 hi ⟨S2, Φ2, ρ2, acc, ds, t2, s2, env2, h2, ra, np, nm, hd, q⟩ y
    obtain ⟨d, hx, t3, s3, r3⟩ := (wk Φ2 ρ2 S2 H' (t2.tw s1) s2).2 i x H3 hi y
    have hdrop : xs.drop i = d :: xs.drop (i + 1) := by
      obtain ⟨h1, e1⟩ := List.getElem?_eq_some_iff.mp hx
      rw [List.drop_eq_getElem_cons h1, e1]
    rw [hdrop] at q
    unfold compL at q
    have t13 := t2.trans t3
    have h3 := t3.keep L _ h2 nm
    refine ⟨d, wipeG sg vs, Φ2, ρ2, env2.mono s2 t3, r3, ?_⟩
    split at q
    · exact q.elim
    · rename_i sg3 e3
      rw [e3]
      intro σ3 env3 hw
      refine ⟨hw.trans (wipe_wipe σ vs), sg3, S2, Φ2, ρ2, env3, s3, Out.wp_mono (noX_wp (Out.wp_bind q)) (fun c S4 _ q Φ4 ρ4 H4 t4 s4 => ?_) (fun _ _ z => z)⟩
      have t14 := t13.trans t4
      have t24 := t3.trans t4
      have h4 := t24.keep L _ h2 nm
      have np4 : ¬ Φ4 L := fun e => by
        rcases t24.phi' L e with z | z | z | z
        · exact np z
        · rw [h2] at z; cases z
        · exact nm z
        · exact z
      have nm4 := t24.noMut (by rw [h2]; simp) nm
      cases c with
      | false =>
        refine iteF ?_
        exact ⟨S4, Φ4, ρ4, acc, ds, t14, s4, env2.mono s2 t24, h4, RepA.mono s2 t24 ra, np4, nm4, Nat.le_succ_of_le hd, q⟩
      | true =>
        refine iteT ?_
        refine ⟨sg3, S4, Φ4, ρ4, env3.mono s3 t4, s4, Out.wp_mono (noX_wp (Out.wp_bind q)) (fun r S5 _ q Φ5 ρ5 H5 v t5 s5 r5 => ?_) (fun _ _ z => z)⟩
        obtain ⟨d', S6, Φ6, q, t6, s6, r6⟩ := toD_wp r5 s5 (Out.wp_bind q)
        have t46 := t5.take t6 fun _ h => h
        have t26 := t24.trans t46
        have t16 := t13.trans (t4.trans t46)
        have h6 := t26.keep L _ h2 nm
        have np6 : ¬ Φ6 L := fun e => by
          rcases t26.phi' L e with z | z | z | z
          · exact np z
          · rw [h2] at z; cases z
          · exact nm z
          · exact z
        have nm6 := t26.noMut (by rw [h2]; simp) nm
        have ra6 := RepA.mono s2 t26 ra
        refine ⟨acc, h6, lim_lt (by rw [ra6.length]; omega), S6, Φ6, ρ5, acc ++ [v], ds ++ [d'], t16.updN hL _, s6.updN h6 trivial np6 (fun _ _ _ e => nomatch e) nm6, (env2.mono s2 t26).updN h6 trivial np6, upd_same, RepA.updN h6 trivial np6 (ra6.append (.cons r6 .nil)), np6, nm6, by simp; omega, ?_⟩
        refine Out.wp_mono (Out.wp_bind q) (fun ys S7 _ q Φ' ρ' H7 v7 t7 s7 r7 => ?_) (fun _ _ z => z)
        refine q Φ' ρ' H7 v7 t7 s7 ?_
        have e : ds ++ [d'] ++ ys = ds ++ d' :: ys := by simp
        rw [e] at r7
        exact r7
  · rintro H' ⟨S2, Φ2, ρ2, acc, ds, t2, s2, env2, h2, ra, np, nm, hd, q⟩
    rw [List.drop_length] at q
    refine q Φ2 ρ2 H' _ t2 s2 ⟨L, acc, rfl, h2, ?_, np, nm, hH⟩
    rw [List.append_nil]
    exact ra
/-- a comprehension as a value -/
theorem de_comp {elt tg iter : Expr} {ifs : List Expr} {scope : Scope} {own : List (Str × Nat)} {pos : Pos} {fi : FI} {b : FB} {ft : FT} {fe : FE} (hc : X.calm = true) (hN : X.N.Nodup) (hi : DI X Z tg iter fi) (ok : blkC X.N X.env.scope scope own = true)
    (hg : ∀ (s : Shared) (H : Hp) (C : Addr) (cl : List (Str × Addr)) (fp : List Addr), DG (X.blk s H scope (compEnvC scope cl C X.env) fp) tg (own.map (·.2)) b)
    (ht : ∀ (s : Shared) (H : Hp) (C : Addr) (cl : List (Str × Addr)) (fp : List Addr), DTs (X.blk s H scope (compEnvC scope cl C X.env) fp) XZ.no ifs ft)
    (he : ∀ (s : Shared) (H : Hp) (C : Addr) (cl : List (Str × Addr)) (fp : List Addr), DE (X.blk s H scope (compEnvC scope cl C X.env) fp) XZ.no elt fe) (hs : ∀ x, foldedSetIterable iter X.env x = pure x := by intro _; rfl) :
    DE X Z (.ListComp elt [⟨tg, iter, ifs, 0⟩] scope pos) (fComp (own.map (·.2)) fi b ft fe) :=
  ⟨PE.imp (pe_lc hc hN hi.pi (blkOk_by ok) (fun s H C cl fp => (hg s H C cl fp).pg) (fun s H C cl fp => (ht s H C cl fp).pt) (fun s H C cl fp => (he s H C cl fp).pe) hs) fun _ _ _ q => comp_imp q⟩
theorem setC_of {vs : List Nat} {fi : FI} {b : FB} {ft : FT} {fe : FE} {i : Nat} {D : Ends} {σ : L2.St} {H : Hp} {M : Bool} (q : tS K Z (match M with | true => fSetM i (fComp vs fi b ft fe) | false => fSet i (fComp vs fi b ft fe)) D σ H) :
    tAsg (tLc (tI K Z fi) (tG K vs b) (tT K XZ.no ft) (tE K XZ.no fe) vs) (gName i) D σ H := by
  cases M with
  | true => exact comp_imp (Z := Z) (Q := fun x H1 => gName i x σ H1 D.nx) (setM_imp (K := K) (Z := Z) q)
  | false => exact comp_imp (Z := Z) (Q := fun x H1 => gName i x σ H1 D.nx) (set_imp (K := K) (Z := Z) q)
/-- name = [..] -/
theorem ds_setC {i : Nat} {y : Str} {py : Pos} {elt tg iter : Expr} {ifs : List Expr} {scope : Scope} {own : List (Str × Nat)} {pos spos : Pos} {fi : FI} {b : FB} {ft : FT} {fe : FE} (hc : X.calm = true) (hN : X.N.Nodup) (hy : X.N[i]? = some y) (hyl : X.env.scope.names.lookup y = some .local)
    (hsw : swapsWith (.ListComp elt [⟨tg, iter, ifs, 0⟩] scope pos) (some (.Name y py)) spos.line X.env = pure true) (hi : DI X Z tg iter fi) (ok : blkC X.N X.env.scope scope own = true)
    (hg : ∀ (s : Shared) (H : Hp) (C : Addr) (cl : List (Str × Addr)) (fp : List Addr), DG (X.blk s H scope (compEnvC scope cl C X.env) fp) tg (own.map (·.2)) b)
    (ht : ∀ (s : Shared) (H : Hp) (C : Addr) (cl : List (Str × Addr)) (fp : List Addr), DTs (X.blk s H scope (compEnvC scope cl C X.env) fp) XZ.no ifs ft)
    (he : ∀ (s : Shared) (H : Hp) (C : Addr) (cl : List (Str × Addr)) (fp : List Addr), DE (X.blk s H scope (compEnvC scope cl C X.env) fp) XZ.no elt fe) (hs : ∀ x, foldedSetIterable iter X.env x = pure x := by intro _; rfl) :
    DS X Z (.Assign [.Name y py] (.ListComp elt [⟨tg, iter, ifs, 0⟩] scope pos) spos) (fSet i (fComp (own.map (·.2)) fi b ft fe)) :=
  ⟨PS.imp (ps_setLc hc hN hy hyl hsw hi.pi (blkOk_by ok) (fun s H C cl fp => (hg s H C cl fp).pg) (fun s H C cl fp => (ht s H C cl fp).pt) (fun s H C cl fp => (he s H C cl fp).pe) hs) fun _ _ _ q => setC_of (M := false) q⟩
/-- name = [..], the name a cell -/
theorem ds_setCM {i : Nat} {y : Str} {py : Pos} {elt tg iter : Expr} {ifs : List Expr} {scope : Scope} {own : List (Str × Nat)} {pos spos : Pos} {fi : FI} {b : FB} {ft : FT} {fe : FE} (hc : X.calm = true) (hN : X.N.Nodup) (hy : X.N[i]? = some y) (hyl : X.env.scope.names.lookup y = some .local)
    (hsw : swapsWith (.ListComp elt [⟨tg, iter, ifs, 0⟩] scope pos) (some (.Name y py)) spos.line X.env = pure true) (hi : DI X Z tg iter fi) (ok : blkC X.N X.env.scope scope own = true)
    (hg : ∀ (s : Shared) (H : Hp) (C : Addr) (cl : List (Str × Addr)) (fp : List Addr), DG (X.blk s H scope (compEnvC scope cl C X.env) fp) tg (own.map (·.2)) b)
    (ht : ∀ (s : Shared) (H : Hp) (C : Addr) (cl : List (Str × Addr)) (fp : List Addr), DTs (X.blk s H scope (compEnvC scope cl C X.env) fp) XZ.no ifs ft)
    (he : ∀ (s : Shared) (H : Hp) (C : Addr) (cl : List (Str × Addr)) (fp : List Addr), DE (X.blk s H scope (compEnvC scope cl C X.env) fp) XZ.no elt fe) (hs : ∀ x, foldedSetIterable iter X.env x = pure x := by intro _; rfl) :
    DS X Z (.Assign [.Name y py] (.ListComp elt [⟨tg, iter, ifs, 0⟩] scope pos) spos) (fSetM i (fComp (own.map (·.2)) fi b ft fe)) :=
  ⟨PS.imp (ps_setLc hc hN hy hyl hsw hi.pi (blkOk_by ok) (fun s H C cl fp => (hg s H C cl fp).pg) (fun s H C cl fp => (ht s H C cl fp).pt) (fun s H C cl fp => (he s H C cl fp).pe) hs) fun _ _ _ q => setC_of (M := true) q⟩
end

/-! ### a def by its body -/
def finD (n : Nat) : Fl → Sto → Out R
  | .nx _, S => .ok (.d .none) (S.take n)
  | .rt (.d x), S => .ok (.d x) (S.take n)
  | .rt (.new xs), S => .ok (.new xs) (S.take n)
  | .rt (.newd xs), S => .ok (.newd xs) (S.take n)
  | .rt (.ref k), S => if k < n then .ok (.ref k) (S.take n) else match S[k]? with
    | some (.lst xs) => .ok (.new xs) (S.take n)
    | some (.val d) => .ok (.d d) (S.take n)
    | some (.dct kvs) => .ok (.newd kvs) (S.take n)
    | _ => .stuck
  | _, _ => .stuck
def startG (m : Nat) (ws : List Wv) : Sg := ws.map some ++ List.replicate (m - ws.length) none
def fDef (m : Nat) (fs : FS) : FD := fun ws S => (fs (startG m ws) S).bind (finD S.length)
section
variable {K : PySem.W.Frag} {Φ Φ' : Addr → Prop} {ρ ρ' : List Addr} {S S' : Sto} {H H' : Hp}
theorem RepWs.get : ∀ {vs : List V} {ws : List Wv} {i : Nat} {w : Wv}, RepWs K Φ ρ H vs ws → ws[i]? = some w → ∃ v, vs[i]? = some v ∧ RepW K Φ ρ H v w
  | _, _, _, _, .nil, e => by simp at e
  | _, _, 0, _, .cons a _, e => by simp at e; subst e; exact ⟨_, rfl, a⟩
  | _, _, i + 1, _, .cons _ b, e => by
    obtain ⟨v, h1, h2⟩ := RepWs.get (i := i) b (by simpa using e)
    exact ⟨v, by simpa using h1, h2⟩
theorem env_start {N : List Str} {vs : List V} {ws : List Wv} (r : RepWs K Φ ρ H vs ws) : EnvR K Φ ρ H (L2.start N vs) (startG N.length ws) := by
  have hl : vs.length = ws.length := Paired.length r
  refine ⟨by simp [L2.start, startG, hl], fun i w h => ?_⟩
  unfold startG at h
  by_cases hi : i < ws.length
  · rw [List.getElem?_append_left (by simpa using hi), List.getElem?_map] at h
    cases e : ws[i]? with
    | none => rw [e] at h; cases h
    | some w' =>
      rw [e] at h
      cases h
      obtain ⟨v, h1, h2⟩ := RepWs.get r e
      refine ⟨v, ?_, h2⟩
      unfold L2.start
      rw [List.getElem?_append_left (by simpa [hl] using hi), List.getElem?_map, h1]
      rfl
  · rw [List.getElem?_append_right (by simpa using hi), List.getElem?_replicate] at h
    split at h <;> cases h
/-- back in the caller: the callee's own cells are let go -/
theorem Tr.cut (s : Sim K Φ ρ H S) (t : Tr Φ ρ S H Φ' ρ' S' H') (s' : Sim K Φ' ρ' H' S') : Tr Φ ρ S H Φ' ρ (S'.take S.length) H' ∧ Sim K Φ' ρ H' (S'.take S.length) := by
  have hlen : S.length ≤ S'.length := by
    obtain ⟨m, e⟩ := t.pre
    have := s.len
    have := s'.len
    rw [e, List.length_append] at this
    omega
  have up : ∀ {k : Nat} {a : Addr}, ρ[k]? = some a → ρ'[k]? = some a := fun e => t.rho e
  have upS : ∀ {k : Nat} {c : Cell}, (S'.take S.length)[k]? = some c → S'[k]? = some c := fun {k c} e => by
    rw [List.getElem?_take] at e
    split at e
    · exact e
    · cases e
  have dn : ∀ {k : Nat} {a : Addr}, k < S.length → ρ'[k]? = some a → ρ[k]? = some a := fun {k a} hk e => by
    obtain ⟨m, e'⟩ := t.pre
    rw [e', List.getElem?_append_left (by rw [s.len]; exact hk)] at e
    exact e
  refine ⟨⟨t.keep, t.there, t.phi, t.phi', ⟨[], by simp⟩, fun a ⟨k, c, e1, e2, e3⟩ => t.mt a ⟨k, c, up e1, upS e2, e3⟩⟩, ⟨by simp [s.len]; omega, fun k a c e1 e2 => ?_, fun i j a c d e1 e2 e3 e4 => s'.inj i j a c d (up e1) (up e2) (upS e3) (upS e4), fun k c e1 => s'.ord k c (upS e1), s'.phi⟩⟩
  have q := s'.cell k a c (up e1) (upS e2)
  cases c with
  | lst xs => exact q
  | val x => exact q
  | dct kvs => exact q
  | dead => exact q
  | lck _ => exact q
  | ins C id fs =>
    obtain ⟨dx, us, h1, h2, h3, h4⟩ := q
    have ho := s'.ord k _ (upS e2)
    have hk : k < S.length := by
      have := (List.getElem?_eq_some_iff.mp e1).1
      rw [s.len] at this; exact this
    refine ⟨dx, us, h1, ⟨h2.1, ?_⟩, h3, dn (Nat.lt_of_le_of_lt ho.1 hk) h4⟩
    have key : ∀ {vs : List V} {ws : List Wv}, Paired (RepW K Φ' ρ' H') vs ws → (∀ j, Wv.ref j ∈ ws → j < S.length) → Paired (RepW K Φ' ρ H') vs ws := by
      intro vs ws h
      induction h with
      | nil => intro _; exact .nil
      | @cons v w vs ws r t ih =>
        intro hj
        refine .cons ?_ (ih fun j h => hj j (List.mem_cons_of_mem _ h))
        cases w with
        | d x => exact r
        | ref j =>
          obtain ⟨a, e, h⟩ := r
          exact ⟨a, e, dn (hj j List.mem_cons_self) h⟩
    exact key h2.2 fun j hj => Nat.lt_trans (ho.2 j hj) hk
theorem fin_ok {Q : VK} {fl : Fl} (s : Sim K Φ ρ H S) (h : (finD S.length fl S').wp (fun r S1 => PostE K Φ ρ S H r S1 Q) (fun _ _ => False)) : PostS K Φ ρ S H fl S' { nx := fun _ H' => Q .non H', rt := Q } := by
  cases fl with
  | bk g => exact h.elim
  | ct g => exact h.elim
  | nx g =>
    intro Φ' ρ' H' σ' t s' _
    obtain ⟨t1, s1⟩ := Tr.cut s t s'
    exact h _ _ _ _ t1 s1 .non
  | rt r =>
    intro Φ' ρ' H' v t s' r'
    obtain ⟨t1, s1⟩ := Tr.cut s t s'
    have gone : ∀ {a : Addr}, ¬ MutAt ρ' S' a → ¬ MutAt ρ (S'.take S.length) a := fun {a} h4 ⟨k, c, e1, e2, e3⟩ => by
      rw [List.getElem?_take] at e2
      split at e2
      · exact h4 ⟨k, c, t.rho e1, e2, e3⟩
      · cases e2
    cases r with
    | d x => exact h _ _ _ _ t1 s1 r'
    | new xs =>
      obtain ⟨a, vs, rfl, h1, h2, h3, h4, h5⟩ := r'
      exact h _ _ _ _ t1 s1 ⟨a, vs, rfl, h1, h2, h3, gone h4, h5⟩
    | newd xs =>
      obtain ⟨a, vs, rfl, h1, h2, h3, h4, h5⟩ := r'
      exact h _ _ _ _ t1 s1 ⟨a, vs, rfl, h1, h2, h3, gone h4, h5⟩
    | ref k =>
      obtain ⟨a, rfl, hk⟩ := r'
      simp only [finD] at h
      by_cases hkn : k < S.length
      · rw [if_pos hkn] at h
        refine h _ _ _ _ t1 s1 ⟨a, rfl, ?_⟩
        obtain ⟨m, e⟩ := t.pre
        rw [e, List.getElem?_append_left (by rw [s.len]; exact hkn)] at hk
        exact hk
      · rw [if_neg hkn] at h
        cases hc : S'[k]? with
        | none => rw [hc] at h; exact h.elim
        | some c =>
          rw [hc] at h
          have fresh : c.mut = true → ¬ Φ' a → (∀ C dx us, H' a ≠ some (.ins C dx us)) → ¬ MutAt ρ (S'.take S.length) a ∧ H a = none := fun hm h3 hni => by
            refine ⟨fun ⟨j, d, e1, e2, e3⟩ => ?_, ?_⟩
            · rw [List.getElem?_take] at e2
              split at e2
              · rename_i hj
                have := s'.inj j k a d c (t.rho e1) hk e2 hc e3 hm
                omega
              · cases e2
            rcases t.mt a ⟨k, c, hk, hc, hm⟩ with z | z | z
            · exfalso
              obtain ⟨j, d, e1, e2, e3⟩ := z
              have hj : j < S.length := (List.getElem?_eq_some_iff.mp e2).1
              have hj' : j < S'.length := by
                have := s'.len
                obtain ⟨m, e⟩ := t.pre
                rw [e, List.length_append, s.len] at this
                omega
              have hcj : S'[j]? = some S'[j] := List.getElem?_eq_getElem hj'
              have e1' := t.rho e1
              cases hz : (S'[j]).mut with
              | true =>
                have := s'.inj j k a _ c e1' hk hcj hc hz hm
                omega
              | false =>
                have q := s'.cell j a _ e1' hcj
                cases hz' : S'[j] with
                | val d => rw [hz'] at q; exact h3 q.1
                | lst _ => rw [hz'] at hz; cases hz
                | dct _ => rw [hz'] at hz; cases hz
                | ins _ _ _ => rw [hz'] at hz; cases hz
                | dead => rw [hz'] at q; obtain ⟨C, dx, us, e⟩ := q; exact hni C dx us e
                | lck _ => rw [hz'] at q; obtain ⟨o, ws, e, _⟩ := q; exact s'.notMut e id ⟨k, c, hk, hc, hm⟩
            · exact z
            · exact z.elim
          cases c with
          | val d => exact h _ _ _ _ t1 s1 (s'.cell k a _ hk hc).2
          | lst xs =>
            obtain ⟨vs, h1, h2, h3⟩ := s'.cell k a _ hk hc
            obtain ⟨g1, g2⟩ := fresh rfl h3 (fun _ _ _ e => by rw [h1] at e; cases e)
            exact h _ _ _ _ t1 s1 ⟨a, vs, rfl, h1, h2, h3, g1, g2⟩
          | dct kvs =>
            obtain ⟨vs, h1, h2, h3⟩ := s'.cell k a _ hk hc
            obtain ⟨g1, g2⟩ := fresh rfl h3 (fun _ _ _ e => by rw [h1] at e; cases e)
            exact h _ _ _ _ t1 s1 ⟨a, vs, rfl, h1, h2, h3, g1, g2⟩
          | ins _ _ _ => exact h.elim
          | dead => exact h.elim
          | lck _ => exact h.elim
end
end Dl
namespace PySem
set_option maxHeartbeats 1000000 in
theorem dl_enum_newT (l : Addr) (items : Array Value) :
    Meets (Builtin.«enumerate.__new__» ⟨[.type "enumerate", .ref l], []⟩) (fun _ R s => s.heap.IsTuple l items ∧
      R (.ok (.ret (.ref (s.heap.push { cls := .type "tuple_iterator", data := .fields #[.ref l, .int 0 0] }).objs.size)))
        { s with heap := (s.heap.push { cls := .type "tuple_iterator", data := .fields #[.ref l, .int 0 0] }).push { cls := .type "enumerate", data := .fields #[.none, .bool false, .ref s.heap.objs.size, rawInt 0, .none, .none] } }) :=
  .of_wp fun prog w A R s h => by
    obtain ⟨hp, g, d, tk, os⟩ := s; obtain ⟨h1, h⟩ := h
    have hsub := sub_enumerate
    have q1 : ∀ {A' : Around} {E : Value → Shared → Prop} {Q : Value → Shared → Prop}, Q (.ref hp.objs.size) ⟨hp.push { cls := .type "tuple_iterator", data := .fields #[.ref l, .int 0 0] }, g, d, tk, os⟩ → wpAny (model prog w) A' (pyIter (.ref l)) Q E ⟨hp, g, d, tk, os⟩ :=
      fun q => wpAny_pyIter_tuple (s := ⟨hp, g, d, tk, os⟩) h1 q
    wp_walk using q1
    refine wpAny_stack_any fun st => wpAny_pure ?_
    split
    · rename_i c _ _ _ _ _
      cases (c == Value.type "enumerate")
      · wp_walk using q1
        exact ⟨_, rfl, h⟩
      · wp_walk using q1
        exact ⟨_, rfl, h⟩
    · wp_walk using q1
      exact ⟨_, rfl, h⟩
theorem dl_call_enumT {prog : Program} {w : World} {A : Around} {E : Value → Shared → Prop} {s : Shared} {l : Addr} {items : Array Value} {Q : Value → Shared → Prop} (hL : s.heap.IsTuple l items)
    (h : ∀ h', IsEnum h' (s.heap.objs.size + 1) s.heap.objs.size 0 .none → h'.IsTupleIter s.heap.objs.size l 0 → h'.objs.size = s.heap.objs.size + 2 →
      (∀ b o, s.heap.get? b = some o → h'.get? b = some o) → Q (.ref (s.heap.objs.size + 1)) { s with heap := h' }) :
    wpAny (model prog w) A (call (.type "enumerate") [.ref l]) Q E s := by
  refine callType_new F.called_enumerate (by decide) (F.typeCall_enumerate_1 _) (F.newCall_enumerate_1 _) (fun obj => F.args_object_init_2 obj _) F.entry_enumerate_new
    (dl_enum_newT l items) ⟨hL, ?_⟩
  have hz : (s.heap.push { cls := .type "tuple_iterator", data := .fields #[.ref l, .int 0 0] }).objs.size = s.heap.objs.size + 1 := Heap.size_push ..
  show _ ∧ _
  rw [hz]
  have he : IsEnum ((s.heap.push { cls := .type "tuple_iterator", data := .fields #[.ref l, .int 0 0] }).push
      { cls := .type "enumerate", data := .fields #[.none, .bool false, .ref s.heap.objs.size, rawInt 0, .none, .none] }) (s.heap.objs.size + 1) s.heap.objs.size 0 .none := by
    have := Heap.get?_push_size (s.heap.push { cls := .type "tuple_iterator", data := .fields #[.ref l, .int 0 0] })
      (o := { cls := .type "enumerate", data := .fields #[.none, .bool false, .ref s.heap.objs.size, rawInt 0, .none, .none] }) rfl
    rw [hz] at this; exact this
  refine ⟨⟨_, he, rfl⟩, h _ he ⟨_, Heap.get?_push_of_some _ (Heap.get?_push_size _ rfl), rfl, rfl⟩ (by rw [Heap.size_push, hz]) fun b o x => Heap.get?_push_of_some _ (Heap.get?_push_of_some _ x)⟩
end PySem
namespace Dl
open PySem PySem.Spec PyProof.Rows L2

def IteT (K : PySem.W.Frag) (a : Addr) : It :=
  ⟨fun i H => ∃ (xs : List V) (x : V), SqT K H a xs ∧ xs[i]? = some x, fun i H v H' => ∃ T x, v = .ref T ∧ H T = none ∧ H' = upd H T (.tup [.int (i : Nat), x]) ∧ ∀ xs, SqT K H a xs → xs[i]? = some x, fun i H => ∃ xs : List V, SqT K H a xs ∧ xs.length = i⟩
theorem fp_ne {X : Cx} {pins : List (Addr × Obj)} {σ : L2.St} {H : Hp} {s : Shared} {a b : Addr} {xs : List V} (I : Inv X pins σ H s) (hq : SqT X.K H a xs) (hf : FpOk X pins H b) : b ≠ a := by
  rintro rfl
  obtain ⟨f0, f1, f2, f3, f4, f5⟩ := hf
  rcases hq with (h | ⟨o, h⟩) | ⟨o, its, n, h, _⟩
  · rw [f0] at h; cases h
  · rw [f0] at h; cases h
  · have e := I.mod.kin b o h
    rcases f3 with z | z
    · exact I.ok.noex b o e z
    · exact absurd (Nat.lt_of_lt_of_le (Heap.lt_size (I.ok.bs b o e).1) z) (Nat.lt_irrefl _)
theorem turn_enumT {P : Program} {w : World} {K : PySem.W.Frag} {elts : List Expr} {kk : Nat} {tpos : Pos} (a e it : Addr) :
    Turn P w K (.Tuple elts kk tpos) (IteT K a) [e, it] e (fun i h => (∃ old, IsEnum h e it ((i : Nat) : Int) old) ∧ h.IsTupleIter it a i ∧ e ≠ it) where
  mem := by simp
  obj := fun i h st b hb => by
    obtain ⟨⟨old, he⟩, ⟨o, ho, hc, hd⟩, _⟩ := st
    have e' : b = e ∨ b = it := by simpa using hb
    rcases e' with z | z
    · rw [z]; exact ⟨_, he, fun v q => nomatch q⟩
    · rw [z]; exact ⟨o, ho, fun v q => by rw [hd] at q; cases q⟩
  keep := fun i h h' st k => let ⟨⟨old, he⟩, hi, hne⟩ := st; ⟨⟨old, k e (by simp) _ he⟩, hi.at fun o q => k it (by simp) o q, hne⟩
  item := by
    intro X hP hw hK hc i pins s σ H E I hf st hg
    subst hP hw hK
    obtain ⟨⟨old, he⟩, hit, hne⟩ := st
    obtain ⟨xs, x, hq, hx⟩ := hg
    obtain ⟨its, rv, p, hz⟩ := I.tuple hq
    obtain ⟨u, hu, ru⟩ := rv.get hx
    have hel : e < s.heap.objs.size := Heap.lt_size he
    have hil : it < s.heap.objs.size := by obtain ⟨_, q, _⟩ := hit; exact Heap.lt_size q
    have nit : a ≠ it := Ne.symm (fp_ne I hq (hf it (by simp)))
    have ne' : e ≠ a := fp_ne I hq (hf e (by simp))
    have hlt : i < its.toArray.size := by
      rw [List.size_toArray]; exact (List.getElem?_eq_some_iff.mp hu).1
    refine wpAny_pyNext_enum_itemD (Draws.tuple (prog := X.prog) (w := X.w) (A := X.A.in1) (show X.A.in1.handled = none from I.ok.hd hc) it a nit its.toArray) he ⟨hit, p⟩ hlt hne (by simp [hne, ne']) fun x' h' tk hx' ho hst hT hsz hk => ?_
    have ex : x' = u := by
      have z : its.toArray[i]? = some u := by simpa using hu
      rw [z] at hx'
      exact (Option.some.inj hx').symm
    subst ex
    obtain ⟨hit', _⟩ := hst
    refine ⟨_, rfl, wpAny_letOwnedTupleGo_enum (s := { s with heap := h', toks := tk + 1 }) ho fun h'' he' sb => ?_⟩
    have hT2 : h''.get? s.heap.objs.size = some { cls := .type "tuple", data := .seq #[.int i tk, x'] } := (sb.2 _ (Nat.ne_of_gt hel)).trans hT
    have new : ObjOk X.prog X.w (upd H s.heap.objs.size (.tup [.int (i : Nat), x])) h'' s.heap.objs.size (.tup [.int (i : Nat), x]) :=
      ⟨by show 2 ≤ sizeLine; decide, [.int i tk, x'], .cons ⟨_, rfl⟩ (.cons ru .nil), ⟨_, hT2, rfl, _, rfl⟩⟩
    have I1 : Inv X pins σ (upd H s.heap.objs.size (.tup [.int (i : Nat), x])) { s with heap := h'', toks := tk + 1 } :=
      I.turnedNew (ch := [e, it]) (fun b ob hb q => (sb.2 b (fun z => hb (by simp [z]))).trans (hk b ob (fun z => hb (by simp [z])) (fun z => hb (by simp [z])) q)) hf (Nat.le_refl _) new
    refine ⟨.ref s.heap.objs.size, _, I1, rfl, ⟨_, x, rfl, I.hok.fresh (Nat.le_refl _), rfl, fun ys hy => by rw [I.tuple_inj hy hq]; exact hx⟩, ⟨⟨x', ?_⟩, hit'.at fun o q => (sb.2 it (Ne.symm hne)).trans q, hne⟩, fun b hb => ?_⟩
    · have e1 : ((i + 1 : Nat) : Int) = (i : Int) + 1 := by omega
      rw [e1]; exact he'
    · have hb' : b < s.heap.objs.size := by
        have e' : b = e ∨ b = it := by simpa using hb
        rcases e' with z | z
        · rw [z]; exact hel
        · rw [z]; exact hil
      rw [upd_ne (Nat.ne_of_lt hb')]
      exact (hf b hb).1
  done := by
    intro X hP hw hK hc i pins s σ H E I hf st hg
    subst hP hw hK
    obtain ⟨⟨old, he⟩, hit, hne⟩ := st
    obtain ⟨xs, hq, hx⟩ := hg
    obtain ⟨its, rv, p, hz⟩ := I.tuple hq
    obtain ⟨f0, f1, f2, f3, f4, f5⟩ := hf it (by simp)
    have hl := rv.length
    have nit : a ≠ it := Ne.symm (fp_ne I hq (hf it (by simp)))
    have ei : i = its.toArray.size := by rw [List.size_toArray]; omega
    subst ei
    exact wpAny_pyNext_enum_endD (Draws.tuple (prog := X.prog) (w := X.w) (A := X.A.in1) (show X.A.in1.handled = none from I.ok.hd hc) it a nit its.toArray) he ⟨hit, p⟩ fun h' eb => ⟨rfl, I.turned (t' := s.toks) (fun b o hb q => eb b o hb q) f0 f1 f3 f4 f5⟩
  self := fun A i s Q E st h => let ⟨⟨_, he⟩, _⟩ := st; wpAny_pyIter_enum he h
theorem walk_enumT {K : PySem.W.Frag} {a : Addr} {xs : List V} : L2.Walk (IteT K a) xs.length (fun H => SqT K H a xs) (YPair (fun i => some (.int (i : Nat))) (fun i => xs[i]?)) := by
  refine ⟨fun i _ hi q => ⟨xs, xs[i], q, by simp [hi]⟩, fun _ q => ⟨xs, q, rfl⟩, fun i H v H' _ q y => ?_⟩
  obtain ⟨T, x, h1, h2, h3, h4⟩ := y
  exact ⟨T, .int (i : Nat), x, h1, h2, h3, rfl, h4 xs q⟩
def iEnumS (K : PySem.W.Frag) (ta : TA) : TI := fun σ H R => ta σ H fun vs H1 => ∃ a xs, vs = [.ref a] ∧ ((SqL K H1 a xs ∧ R (Ite K a) H1) ∨ (SqT K H1 a xs ∧ R (IteT K a) H1))
theorem pi_enumS {X : Cx} {e : Expr} {ta : TA} {p pos tpos : Pos} {elts : List Expr} {kk : Nat} (hg : Gl X "enumerate") (hm : X.mg "enumerate" = none) (ha : PA X [e] ta) (hs : starEach [e] X.env = [(false, eval e X.env)] := by rfl) :
    PI X (.Tuple elts kk tpos) (.Call (.Name "enumerate" p) [e] [] pos) (iEnumS X.K ta) := by
  refine ⟨fun pins s σ H R I h => ?_⟩
  refine Call_ (ld_blt I hg hm boot_enumerate (PyProof.Rows.callWith_type1 (thn (ha.run pos pins s σ H _ I h) fun us s1 ⟨vs, H1, I1, r1, q1⟩ => ?_) hs rfl))
  obtain ⟨a, xs, ex, q⟩ := q1
  subst ex
  cases r1 with
  | cons r rr =>
    cases rr
    cases r
    have fp : ∀ b ∈ [s1.heap.objs.size + 1, s1.heap.objs.size], FpOk X pins H1 b := fun b hb => by
      have e' : b = s1.heap.objs.size + 1 ∨ b = s1.heap.objs.size := by simpa using hb
      have hle : s1.heap.objs.size ≤ b := by
        rcases e' with z | z
        · rw [z]; exact Nat.le_add_right _ _
        · rw [z]; exact Nat.le_refl _
      exact I1.fpOk hle (I1.hok.fresh hle)
    rcases q with ⟨hq, q⟩ | ⟨hq, q⟩
    · obtain ⟨its, rv, p', hz⟩ := I1.list hq
      refine call_enumerate_list p'.isList fun h' he hit hsz hk => wpAny_pyIter_enum he ?_
      have I2 : Inv X pins σ H1 { s1 with heap := h' } := I1.kept (t' := s1.toks) hk
      exact ⟨s1.heap.objs.size + 1, [s1.heap.objs.size + 1, s1.heap.objs.size], _, _, H1, rfl, I2, turn_enum a (s1.heap.objs.size + 1) s1.heap.objs.size, ⟨⟨.none, he⟩, hit, Nat.succ_ne_self _⟩, fp, q⟩
    · obtain ⟨its, rv, p', hz⟩ := I1.tuple hq
      refine dl_call_enumT (show s1.heap.IsTuple a its.toArray from p') fun h' he hit hsz hk => wpAny_pyIter_enum he ?_
      have I2 : Inv X pins σ H1 { s1 with heap := h' } := I1.kept (t' := s1.toks) hk
      exact ⟨s1.heap.objs.size + 1, [s1.heap.objs.size + 1, s1.heap.objs.size], _, _, H1, rfl, I2, turn_enumT a (s1.heap.objs.size + 1) s1.heap.objs.size, ⟨⟨.none, he⟩, hit, Nat.succ_ne_self _⟩, fp, q⟩
/-- the pairs of places and items -/
def enumD : Nat → List D → List D
  | _, [] => []
  | n, x :: xs => .tuple [.int n, x] :: enumD (n + 1) xs
theorem enumD_len : ∀ (n : Nat) (xs : List D), (enumD n xs).length = xs.length
  | _, [] => rfl
  | n, x :: xs => by simp [enumD, enumD_len (n + 1) xs]
theorem enumD_get : ∀ (n : Nat) (xs : List D) (i : Nat) (x : D), xs[i]? = some x → (enumD n xs)[i]? = some (.tuple [.int (n + i : Nat), x])
  | _, [], _, _, h => by simp at h
  | n, y :: xs, 0, x, h => by simp at h; subst h; rfl
  | n, y :: xs, i + 1, x, h => by
    have := enumD_get (n + 1) xs i x (by simpa using h)
    simp only [enumD, List.getElem?_cons_succ, this]
    have e : n + 1 + i = n + (i + 1) := by omega
    rw [e]
def fEnum (f : FE) : FI := fun sg S => (f sg S).bind fun r S1 => (toD r S1).bind fun d S2 => match d with
  | .list xs => .ok (enumD 0 xs) S2
  | .tuple xs => .ok (enumD 0 xs) S2
  | _ => .stuck
section
variable {X : Cx} {Z : XZ} {K : PySem.W.Frag}
theorem pair_walkD {Φ Φ2 : Addr → Prop} {ρ ρ2 : List Addr} {S S2 : Sto} {H H2 H3 : Hp} {i : Nat} {x : V} {f g : Nat → Option V} {a b : D} (s : Sim K Φ2 ρ2 H2 S2) (y : YPair f g i H2 x H3) (ha : ∀ v, f i = some v → Rep K Φ2 H2 v a) (hb : ∀ v, g i = some v → Rep K Φ2 H2 v b) :
    Tr Φ2 ρ2 S2 H2 Φ2 ρ2 S2 H3 ∧ Sim K Φ2 ρ2 H3 S2 ∧ Rep K Φ2 H3 x (.tuple [a, b]) := by
  obtain ⟨T, u, v, rfl, hT, rfl, e1, e2⟩ := y
  exact ⟨Tr.newObj hT, s.newObj hT, Rep.newT s hT (.cons (ha u e1) (.cons (hb v e2) .nil))⟩
theorem di_enum {e : Expr} {f : FE} {p pos tpos : Pos} {elts : List Expr} {kk : Nat} (hg : Gl X "enumerate") (hm : X.mg "enumerate" = none) (h : DE X Z e f) (hs : starEach [e] X.env = [(false, eval e X.env)] := by rfl) (hst : starEach [e] X.env = (false, eval e X.env) :: starEach [] X.env := by rfl) :
    DI X Z (.Tuple elts kk tpos) (.Call (.Name "enumerate" p) [e] [] pos) (fEnum f) := by
  refine ⟨PI.imp (pi_enumS hg hm (pa_cons h.pe pa_nil hst) hs) fun σ H Q q => ?_⟩
  obtain ⟨sg, S, Φ, ρ, env, sim, q⟩ := q
  refine ⟨sg, S, Φ, ρ, env, sim, Out.wp_mono (Out.wp_bind q) (fun r S1 _ q Φ1 ρ1 H1 v t1 s1 r1 => ?_) (fun _ _ z => z)⟩
  obtain ⟨d, S2, Φ2, q, t2, s2, r2⟩ := toD_wp r1 s1 (Out.wp_bind q)
  have t12 := t1.take t2 fun _ h => h
  split at q
  · rename_i xs
    obtain ⟨a, rfl⟩ : ∃ a, v = .ref a := by cases r2 <;> exact ⟨_, rfl⟩
    obtain ⟨vs, ra, sq, st⟩ := SqL.stay r2
    have hl : (enumD 0 xs).length = vs.length := (enumD_len 0 xs).trans ra.length.symm
    refine ⟨a, vs, rfl, .inl ⟨sq, q _ _ _ _ t12 s2 ⟨_, _, (by rw [hl]; exact walk_enum), fun Φ3 ρ3 S3 H3 t3 s3 => ⟨st _ _ t3, fun i x H4 hi y => ?_⟩⟩⟩⟩
    rw [hl, ra.length] at hi
    have hx : xs[i]? = some xs[i] := List.getElem?_eq_getElem hi
    refine ⟨_, enumD_get 0 xs i _ hx, pair_walkD (Φ := Φ2) (ρ := ρ1) (S := S2) (H := H1) s3 y (fun v e => ?_) (fun v e => ?_)⟩
    · cases e; rw [Nat.zero_add]; exact .int _
    · obtain ⟨d, e1, e2⟩ := ra.get' e
      rw [hx] at e1; cases e1
      exact Rep.tw t3 e2
  · rename_i xs
    cases r2 with
    | tup sq ra =>
      rename_i a vs
      have hl : (enumD 0 xs).length = vs.length := (enumD_len 0 xs).trans ra.length.symm
      refine ⟨a, vs, rfl, .inr ⟨sq, q _ _ _ _ t12 s2 ⟨_, _, (by rw [hl]; exact walk_enumT), fun Φ3 ρ3 S3 H3 t3 s3 => ⟨SqT.tw t3 sq, fun i x H4 hi y => ?_⟩⟩⟩⟩
      rw [hl, ra.length] at hi
      have hx : xs[i]? = some xs[i] := List.getElem?_eq_getElem hi
      refine ⟨_, enumD_get 0 xs i _ hx, pair_walkD (Φ := Φ2) (ρ := ρ1) (S := S2) (H := H1) s3 y (fun v e => ?_) (fun v e => ?_)⟩
      · cases e; rw [Nat.zero_add]; exact .int _
      · obtain ⟨d, e1, e2⟩ := ra.get' e
        rw [hx] at e1; cases e1
        exact Rep.tw t3 e2
  · exact q.elim
end

/-! ### THE RULE for a def; the law's end -/
section
variable {P : Program} {w : World} {K : PySem.W.Frag} {mg : Str → Option Value} {base : Heap}
theorem fn_d {x qual : Str} {st : Stmt} {f : Addr} {fd : FuncData} {N ps : List Str} {k : Nat} {fs : FS} (F : Fun K x qual st f fd) (S : FnScope N ps (defScope st))
    (hbody : ∀ (cdv : Value) (A : Around) (outer : List Env) (s : Shared) (H : Hp) (E : XK), Room k (A.deeper (envOfC qual (defScope st) s.heap.objs.size f cdv)) → DSs (cxOf CX0 P w K mg base N qual (defScope st) f cdv A outer s H E).nox XZ.no (defBody st) fs) :
    FnOk P w K mg base CX0 (k + 1) f fd ps (spD K ps.length (fDef N.length fs)) := by
  refine F.ok S (fun vs H Q E h => ?_) (fun cdv A outer s H vs Q E hr h => ?_)
  · obtain ⟨ws, S, Φ, ρ, hl, r, _⟩ := h
    rw [Paired.length r, hl]
  · obtain ⟨ws, S, Φ, ρ, hl, r, sim, q⟩ := h
    exact ⟨_, (hbody cdv A outer s H E hr).ps, startG N.length ws, S, Φ, ρ, env_start r, sim, Out.wp_mono (Out.wp_bind q) (fun fl S' _ q => fin_ok sim q) (fun _ _ z => z)⟩
theorem repInts' {Φ : Addr → Prop} {H : Hp} (ns : List Int) : RepA K Φ H (ns.map V.int) (ns.map PyData.int) := repInts ns
/-- the law's promise -/
theorem law_sp {F : FD} (hF : ∀ ns : List Int, ns.length ≤ 63 → ∃ S', F [.d (.list (ns.map PyData.int))] [] = .ok (.d (.bool true)) S') {H : Hp} {a : Addr} {ns : List Int} (hl : ns.length ≤ 63) (hO : Only H) (hS : SqL K H a (ns.map V.int)) (E : XK) : spD K 1 F [.ref a] H (fun v _ => v = .bl true) E := by
  obtain ⟨S', e⟩ := hF ns hl
  refine ⟨[.d (.list (ns.map PyData.int))], [], fun _ => False, [], rfl, .cons ?_ .nil, ⟨rfl, fun k a c h => by simp at h, fun i j a xs ys h => by simp at h, fun k c h => by simp at h, fun a h => h.elim⟩, ?_⟩
  · rcases hS with (h | ⟨o, h⟩) | h
    · rcases hO a with z | ⟨o, xs, z⟩ <;> (rw [h] at z; cases z)
    · exact .lstF h (repInts ns)
    · exact .lstK h (repInts ns)
  · rw [e]
    intro Φ' ρ' H' v _ _ r
    cases r
    rfl
end
end Dl
namespace Dl
open PySem PySem.Spec PyProof.Rows L2

theorem bt_len : bootBuiltins ("len" : Str) = some (.builtin "len") := by decide +kernel
theorem bt_abs : bootBuiltins ("abs" : Str) = some (.builtin "abs") := by decide +kernel
theorem bt_all : bootBuiltins ("all" : Str) = some (.builtin "all") := by decide +kernel
theorem bt_any : bootBuiltins ("any" : Str) = some (.builtin "any") := by decide +kernel
theorem bt_sum : bootBuiltins ("sum" : Str) = some (.builtin "sum") := by decide +kernel
theorem bt_max : bootBuiltins ("max" : Str) = some (.builtin "max") := by decide +kernel
theorem bt_min : bootBuiltins ("min" : Str) = some (.builtin "min") := by decide +kernel
theorem bt_sorted : bootBuiltins ("sorted" : Str) = some (.builtin "sorted") := by decide +kernel
theorem bt_isinstance : bootBuiltins ("isinstance" : Str) = some (.builtin "isinstance") := by decide +kernel
theorem bt_int : bootBuiltins ("int" : Str) = some (.type "int") := by decide +kernel
theorem bt_bool : bootBuiltins ("bool" : Str) = some (.type "bool") := by decide +kernel
theorem bt_str : bootBuiltins ("str" : Str) = some (.type "str") := by decide +kernel
theorem bt_list : bootBuiltins ("list" : Str) = some (.type "list") := by decide +kernel
theorem bt_tuple : bootBuiltins ("tuple" : Str) = some (.type "tuple") := by decide +kernel

theorem _root_.L2.Room.u64 {k : Nat} {A : Around} (r : Room k A) : A.units + 64 < cLine := r.units
theorem _root_.L2.Room.u65 {k : Nat} {A : Around} (r : Room k A) : A.units + 65 < cLine := by have := r.un; omega

abbrev xAdd (fa fb : FE) : FE := fBin (fun S ra rb => on2 S ra rb (gAdd S)) fa fb
abbrev xSub (fa fb : FE) : FE := fBin (fun S ra rb => on2 S ra rb (gSub S)) fa fb
abbrev xMul (fa fb : FE) : FE := fBin (fun S ra rb => on2 S ra rb (gMul S)) fa fb
abbrev xDiv (fa fb : FE) : FE := fBin (fun S ra rb => on2 S ra rb (gDiv S)) fa fb
abbrev xMod (fa fb : FE) : FE := fBin (fun S ra rb => on2 S ra rb (gMod S)) fa fb
abbrev xPow (fa fb : FE) : FE := fBin (fun S ra rb => on2 S ra rb (gPow S)) fa fb
abbrev xShl (fa fb : FE) : FE := fBin (fun S ra rb => on2 S ra rb (gShl S)) fa fb
abbrev xShr (fa fb : FE) : FE := fBin (fun S ra rb => on2 S ra rb (gShr S)) fa fb
abbrev xAnd (fa fb : FE) : FE := fBin (fun S ra rb => on2 S ra rb (gBit Builtin.bitAnd S)) fa fb
abbrev xOr (fa fb : FE) : FE := fBin (fun S ra rb => on2 S ra rb (gBit Builtin.bitOr S)) fa fb
abbrev xXor (fa fb : FE) : FE := fBin (fun S ra rb => on2 S ra rb (gBit Builtin.bitXor S)) fa fb
abbrev xNeg (fa : FE) : FE := fUn (fun S ra => on1 S ra (gNeg S)) fa
abbrev kEq : Sto → R → R → Out R := fun S ra rb => on2 S ra rb (gEq S)
abbrev kNe : Sto → R → R → Out R := fun S ra rb => on2 S ra rb (gNe S)
abbrev kLt : Sto → R → R → Out R := fun S ra rb => on2 S ra rb (gLt S)
abbrev kGt : Sto → R → R → Out R := fun S ra rb => on2 S ra rb (gGt S)
abbrev kLe : Sto → R → R → Out R := fun S ra rb => on2 S ra rb (gLe S)
abbrev kGe : Sto → R → R → Out R := fun S ra rb => on2 S ra rb (gGe S)
abbrev kIn : Sto → R → R → Out R := fun S ra rb => on2 S ra rb (gIn false S)
abbrev kNotIn : Sto → R → R → Out R := fun S ra rb => on2 S ra rb (gIn true S)
abbrev kIs : Sto → R → R → Out R := fun S ra rb => on2 S ra rb (gIs false S)
abbrev kIsNot : Sto → R → R → Out R := fun S ra rb => on2 S ra rb (gIs true S)
abbrev xIx (fa fb : FE) : FE := fBin (fun S ra rb => on2 S ra rb (gIx S)) fa fb

theorem fn_stuck {P : Program} {w : World} {K : PySem.W.Frag} {mg : Str → Option Value} {base : Heap} {CX : CXT} {f : Addr} {fd : FuncData} {ps : List Str} : FnOk P w K mg base CX 0 f fd ps (spD K ps.length fun _ _ => .stuck) := by
  refine ⟨fun vs H Q E h => ?_, fun A outer s H args us vs Q E _ _ _ _ h => ?_⟩
  · obtain ⟨ws, S, Φ, ρ, hl, r, _⟩ := h
    rw [Paired.length r, hl]
  · obtain ⟨ws, S, Φ, ρ, hl, r, _, q⟩ := h
    exact q.elim
end Dl
namespace HT
open PySem PySem.Spec PyProof.Rows L2
section
variable {prog : Program} {w : World} {A : Around} {E : Value → Shared → Prop} {s : Shared}
theorem dl_adjust (n : Nat) : Builtin.Slice.sliceAdjust none none (-1) (n : Int) = ((n : Int) - 1, -1) := by
  unfold Builtin.Slice.sliceAdjust
  have h1 : ((-1 : Int) < 0) := by omega
  simp only [h1, if_true]
theorem dl_places (n : Nat) : Builtin.Slice.slicePlaces ((n : Int) - 1) (-1) (-1) = n := by
  unfold Builtin.Slice.slicePlaces
  have h1 : ¬ ((-1 : Int) > 0) := by omega
  have h2 : (- (-1) : Int) = 1 := by decide
  simp only [h1, if_false, h2, Int.ediv_one]
  split <;> omega
theorem dl_applied {sl : Addr} {vs : Value} {n : Nat} {Q : Int × Int × Nat → Shared → Prop} (hs : s.heap.IsSliceOf sl .none .none vs) (ps : IsPart vs (some (-1)))
    (h : Q ((n : Int) - 1, -1, n) s) : wpAny (model prog w) A (Builtin.Slice.sliceApplied (.ref sl) (pure (n : Int))) Q E s := by
  obtain ⟨os, hos, hcs, hds⟩ := id hs
  unfold Builtin.Slice.sliceApplied Builtin.Slice.sliceFields
  refine wpAny_bind (wpAny_bind (wpAny_field hos hds (x := .none) rfl (wpAny_bind (wpAny_field hos hds (x := .none) rfl (wpAny_bind (wpAny_field hos hds (x := vs) rfl (wpAny_pure ?_)))))))
  refine wpAny_bind (slicePart_ ps ?_)
  show wpAny _ _ (if ((-1 : Int) == 0) = true then _ else _) _ _ s
  rw [if_neg (by decide)]
  refine wpAny_bind (slicePart_none (wpAny_bind (slicePart_none (wpAny_bind (wpAny_pure ?_)))))
  show wpAny _ _ (match Builtin.Slice.sliceAdjust none none (-1) (n : Int) with | (lo, hi) => pure (lo, (-1 : Int), Builtin.Slice.slicePlaces lo hi (-1))) _ _ s
  rw [dl_adjust n]
  show wpAny _ _ (pure (((n : Int) - 1), (-1 : Int), Builtin.Slice.slicePlaces ((n : Int) - 1) (-1) (-1))) _ _ s
  rw [dl_places]
  exact wpAny_pure h
theorem dl_pick (xs : Array Value) : ((List.range xs.size).filterMap fun (m : Nat) => xs[((xs.size : Int) - 1 + (m : Int) * (-1)).toNat]?).toArray = xs.toList.reverse.toArray := by
  have e : ((List.range xs.size).filterMap fun (m : Nat) => xs[((xs.size : Int) - 1 + (m : Int) * (-1)).toNat]?) = ((List.range xs.size).map fun k => xs.size - 1 - k).filterMap (xs[·]?) := by
    have key : ∀ l : List Nat, (∀ k ∈ l, k < xs.size) → (l.filterMap fun (m : Nat) => xs[((xs.size : Int) - 1 + (m : Int) * (-1)).toNat]?) = (l.map fun k => xs.size - 1 - k).filterMap (xs[·]?) := by
      intro l
      induction l with
      | nil => intro _; rfl
      | cons k l ih =>
        intro h
        have hk := h k List.mem_cons_self
        have e : ((xs.size : Int) - 1 + (k : Int) * (-1)).toNat = xs.size - 1 - k := by omega
        rw [List.map_cons, List.filterMap_cons, List.filterMap_cons, ih fun j hj => h j (List.mem_cons_of_mem _ hj), e]
    exact key _ fun k hk => List.mem_range.mp hk
  rw [e, PySem.W.krv_range, List.filterMap_reverse, PySem.W.krv_all]
theorem getItem_tuple_rev {t sl : Addr} {items : Array Value} {vs : Value} {Q : Value → Shared → Prop} (ht : IsTup s.heap t items) (hs : s.heap.IsSliceOf sl .none .none vs) (ps : IsPart vs (some (-1)))
    (h : Q (.ref s.heap.objs.size) { s with heap := s.heap.push { cls := .type "tuple", data := .seq items.toList.reverse.toArray } })
    (hsz : items.size ≤ sizeLine) : wpAny (model prog w) A (getItem (.ref t) (.ref sl)) Q E s := by
  have htake : sizeOk (.seq items.toList.reverse.toArray) := by
    show items.toList.reverse.toArray.size ≤ sizeLine
    rw [List.size_toArray, List.length_reverse, Array.length_toList]
    exact hsz
  obtain ⟨os, hos, hcs, hds⟩ := id hs
  have hTs : s.TypeIs (.ref sl) "slice" := ⟨os, hos, hcs⟩
  unfold getItem
  try with_reducible refine wpAny_holding ?_
  first | refine wpAny_bind (wpAny_pure ?_) | skip
  refine wpAny_bind (wpAny_sequenceKey ht.typeIs (by decide) ?_)
  refine wpAny_bind (wpAny_callSpecial?_slot (name := Str.ofString "__getitem__") ht.typeIs PyProof.Rows.slot_tuple_getitem
    (wpAny_call_entry PyProof.Rows.slot_tuple_getitem ht.typeIs entry_tuple_getitem ?_ (args_tuple_getitem _ _)))
  show wpAny _ _ (Builtin.Tuple.tupleItemsOf (.ref t) >>= _) _ _ s
  refine wpAny_bind (tupleItemsOf_ ht ?_)
  refine wpAny_bind (wpAny_typeOf hTs ?_)
  rw [if_pos (by decide)]
  refine wpAny_bind (dl_applied hs ps ?_)
  have hno : ¬ (((items.size : Int) - 1 == 0 && (-1 : Int) == 1 && items.size == items.size) = true) := by
    intro q
    rw [Bool.and_eq_true, Bool.and_eq_true] at q
    exact absurd q.1.2 (by decide)
  show wpAny _ _ (if ((items.size : Int) - 1 == 0 && (-1 : Int) == 1 && items.size == items.size) = true then _ else _) _ _ s
  rw [if_neg hno, dl_pick]
  first
    | exact wpAny_bind (m := Builtin.Tuple.tupleExact _) (wpAny_newObj_type (wpAny_pure ⟨_, rfl, wpAny_pure h⟩) htake)
    | exact wpAny_bind (m := Builtin.Tuple.tupleExact _) (wpAny_newObj_type (wpAny_bind (wpAny_pure (wpAny_pure ⟨_, rfl, wpAny_pure h⟩))) htake)
    | exact wpAny_bind (wpAny_bind (m := Builtin.Tuple.tupleExact _) (wpAny_newObj_type (wpAny_pure (wpAny_pure ⟨_, rfl, wpAny_pure h⟩)) htake))
    | exact wpAny_bind (wpAny_bind (m := Builtin.Tuple.tupleExact _) (wpAny_newObj_type (wpAny_pure ⟨_, rfl, wpAny_pure h⟩) htake))
end
end HT
namespace Dl
open PySem PySem.Spec PyProof.Rows L2
/-- x[::-1] of a list or a tuple -/
def tRev (K : PySem.W.Frag) (te : TE) : TE := fun σ H Q => te σ H fun x H1 => ∃ a xs, x = .ref a ∧ ((SqL K H1 a xs ∧ ∀ p, H1 p = none → Q (.ref p) (upd H1 p (.lst xs.reverse))) ∨ (SqT K H1 a xs ∧ ∀ p, H1 p = none → Q (.ref p) (upd H1 p (.tup xs.reverse))))
theorem pe_rev {X : Cx} {e : Expr} {te : TE} {k : Nat} {p1 p2 p3 pos : Pos} (he : PE X e te) : PE X (.Subscript e (.Slice none none (some (.UnaryOp .USub (.Constant (.int 1) k p1) p2)) p3) pos) (tRev X.K te) := by
  refine ⟨fun pins s σ H Q I h => ?_⟩
  refine Subscript_ (thn (he.run pins s σ H _ I h) fun v s1 ⟨x, H1, I1, r1, q1⟩ => ?_)
  obtain ⟨a, xs, ex, q⟩ := q1
  subst ex
  cases r1
  have hst : PO X (some (.UnaryOp .USub (.Constant (.int 1) k p1) p2)) (tPart (tUn (rU fun i => .int (-i)) (tC (.int 1)))) := po_some (pe_un un_neg pe_int)
  refine wpAny_Slice (thn (po_none.run pins s1 σ H1 (fun o H2 => o = none ∧ H2 = H1) I1 ⟨rfl, rfl⟩) fun vl s2 ⟨l, H2, I2, pl, el, e2⟩ => ?_)
  subst el e2
  refine thn (po_none.run pins s2 σ H2 (fun o H3 => o = none ∧ H3 = H2) I2 ⟨rfl, rfl⟩) fun vu s3 ⟨u, H3, I3, pu, eu, e3⟩ => ?_
  subst eu e3
  refine thn (hst.run pins s3 σ H3 (fun o H4 => o = some (-1) ∧ H4 = H3) I3 ⟨1, rfl, -1, rfl, rfl, rfl⟩) fun vs s4 ⟨o, H4, I4, ps, eo, e4⟩ => ?_
  subst eo e4
  have I5 : Inv X pins σ H4 { s4 with heap := s4.heap.push { cls := .type "slice", data := .fields #[vl, vu, vs] } } := I4.kept (t' := s4.toks) fun b ob q => Heap.get?_push_of_some _ q
  show wpAny (model X.prog X.w) X.A (subscriptTail e (.Slice none none (some (.UnaryOp .USub (.Constant (.int 1) k p1) p2)) p3) (.ref a) (.ref s4.heap.objs.size)) (EP X pins σ Q) X.xe { s4 with heap := s4.heap.push { cls := .type "slice", data := .fields #[vl, vu, vs] } }
  rcases q with ⟨hx, q⟩ | ⟨hx, q⟩
  · obtain ⟨its, r, ht, hz⟩ := I5.list hx
    have hlen := r.length
    refine tail_any (ops := [.ref a, .ref s4.heap.objs.size]) ht.isList.typeIs (PySem.slot_list_getitem.lookup) ?_ (by with_unfolding_all rfl)
    refine wpAny_getItem_list_slice ht.isList (Heap.IsSliceOf.new _ vl vu vs) pl pu ps (by decide) ?_ (by rw [List.size_toArray]; omega)
    rw [PySem.W.krv_pick]
    refine ⟨.ref _, _, I5.laid (t' := s4.toks) (o := .lst xs.reverse) (fun b ob q => Heap.get?_push_of_some _ q) (Nat.le_refl _) ?_, rfl, q _ (I5.hok.fresh (Nat.le_refl _))⟩
    exact ⟨by rw [List.length_reverse]; exact hz, _, 0, r.reverse, Heap.get?_push_size _ rfl⟩
  · obtain ⟨its, r, ht, hz⟩ := I5.tuple hx
    have hlen := r.length
    refine tail_any (ops := [.ref a, .ref s4.heap.objs.size]) ht.typeIs (PyProof.Rows.slot_tuple_getitem.lookup) ?_ (by with_unfolding_all rfl)
    cases pl
    cases pu
    refine HT.getItem_tuple_rev ht (Heap.IsSliceOf.new _ .none .none vs) ps ?_ (by rw [List.size_toArray]; omega)
    refine ⟨.ref _, _, I5.laid (t' := s4.toks) (o := .tup xs.reverse) (fun b ob q => Heap.get?_push_of_some _ q) (Nat.le_refl _) ?_, rfl, q _ (I5.hok.fresh (Nat.le_refl _))⟩
    exact ⟨by rw [List.length_reverse]; exact hz, _, r.reverse, ⟨_, Heap.get?_push_size _ rfl, rfl, _, rfl⟩⟩
def gRev (S : Sto) : D → Out R
  | .list xs => .ok (.new xs.reverse) S
  | .tuple xs => .ok (.d (.tuple xs.reverse)) S
  | _ => .stuck
theorem de_rev {X : Cx} {Z : XZ} {e : Expr} {k : Nat} {p1 p2 p3 pos : Pos} {f : FE} (h : DE X Z e f) : DE X Z (.Subscript e (.Slice none none (some (.UnaryOp .USub (.Constant (.int 1) k p1) p2)) p3) pos) (fUn (fun S ra => on1 S ra (gRev S)) f) := by
  refine ⟨PE.imp (pe_rev h.pe) fun σ H Q q => ?_⟩
  obtain ⟨sg, S, Φ, ρ, env, sim, q⟩ := q
  refine ⟨sg, S, Φ, ρ, env, sim, Out.wp_mono (Out.wp_bind q) (fun r S1 _ q Φ1 ρ1 H1 v t1 s1 r1 => ?_) (fun _ _ z => z)⟩
  dsimp only [on1] at q
  split at q
  · rename_i a e1
    have va := pk_ok r1 s1 e1
    unfold gRev at q
    split at q
    · obtain ⟨p, vs, rfl, g1, ra⟩ := va
      exact ⟨p, vs, rfl, .inl ⟨g1, fun l hl => post_new s1 (PostE.after q t1) ra.reverse l hl⟩⟩
    · obtain ⟨p, vs, rfl, g1, ra⟩ := va
      exact ⟨p, vs, rfl, .inr ⟨g1, fun l hl => post_tup s1 (PostE.after q t1) ra.reverse l hl⟩⟩
    · exact q.elim
  · exact q.elim
abbrev xRev (f : FE) : FE := fUn (fun S ra => on1 S ra (gRev S)) f
end Dl
/-! Dl15: dicts. -/
namespace Dl
open PySem PySem.Spec PyProof.Rows L2
section
variable {X : Cx} {Z : XZ} {K : PySem.W.Frag}
/-- a dict's item by values -/
def rDGet : R2 := fun x y H Q => ∃ a v, x = .ref a ∧ DGet H a y (some v) ∧ Q v H
theorem ix_dct (hu : X.A.units + 1 < cLine) : IxR X rDGet := by
  intro value slice pins s σ H x y v u Q I rx ry h hs
  obtain ⟨a, z, rfl, g, q⟩ := h
  obtain rfl : v = Value.ref a := rx
  have hT := dict_typeIs I g
  unfold subscriptTail
  refine wpAny_bind ?_
  rw [getitemInPython_of_ne hT.not_modules]
  refine wpAny_bind (wpAny_specialOf hT PySem.F.slot_dict_getitem.lookup ?_)
  have fin : wpAny (model X.prog X.w) X.A (subscripted slice false (.ref a) u) (fun r s₃ => wpAny (model X.prog X.w) X.A (letTemporaryGo value (.ref a) r >>= fun _ => pure r) (EP X pins σ Q) X.xe s₃) X.xe s := by
    rw [hs]
    exact wpAny_operating (d_getItem hu I g ry fun w' s3 I3 rw' => wpAny_bind (wpAny_letTemporaryGo (wpAny_pure ⟨z, H, I3, rw', q⟩)))
  first
    | exact wpAny_pure (wpAny_bind fin)
    | exact wpAny_bind (wpAny_pure (wpAny_bind fin))
    | exact wpAny_bind fin
def rDIn (neg : Bool) : R2 := fun x y H Q => ∃ a o, y = .ref a ∧ DGet H a x o ∧ Q (.bl (xor neg o.isSome)) H
theorem or_din (hu : X.A.units + 1 < cLine) : OpR X (compareOp .In) (rDIn false) := by
  intro pins s σ H x y v u Q I rx ry h
  obtain ⟨a, o, rfl, g, q⟩ := h
  obtain rfl : u = Value.ref a := ry
  exact d_in hu I g rx fun s3 I3 => ⟨.bl o.isSome, H, I3, rfl, by simpa using q⟩
theorem or_dnotin (hu : X.A.units + 1 < cLine) : OpR X (compareOp .NotIn) (rDIn true) := by
  intro pins s σ H x y v u Q I rx ry h
  obtain ⟨a, o, rfl, g, q⟩ := h
  obtain rfl : u = Value.ref a := ry
  exact d_notIn hu I g rx fun s3 I3 => ⟨.bl (!o.isSome), H, I3, rfl, by simpa using q⟩
/-- x[i]: of a dict, of all else -/
def gSub2 (S : Sto) (ra rb : R) : Out R := match dk S ra with
  | some kvs => match pk S rb with
    | some i => match keyD i with
      | some k => match dGet kvs k with
        | some d => .ok (.d d) S
        | none => .stuck
      | none => .stuck
    | none => .stuck
  | none => on2 S ra rb (gIx S)
theorem ig_sub (hu : X.A.units + 1 < cLine) : IxR X (rG X.K Z gSub2) := IxR.case fun x y H Q q => by
  obtain ⟨Φ, ρ, S, ra, rb, Ha, Hb, s, r1, r2, q⟩ := q
  unfold gSub2 at q
  split at q
  · rename_i kvs e1
    obtain ⟨a, ws, rfl, h1, h2⟩ := dk_ok r1 s e1
    split at q
    · rename_i i e2
      split at q
      · rename_i k e3
        split at q
        · rename_i d e4
          have g := h2.get (k := k)
          rw [e4] at g
          obtain ⟨v, g1, g2⟩ := g
          refine ⟨_, ix_dct hu, a, v, rfl, ?_, post_d s q g2⟩
          rw [keyD_view (pk_ok r2 s e2) e3, ← g1]
          exact .inl ⟨ws, k, h1, rfl, rfl⟩
        · exact q.elim
      · exact q.elim
    · exact q.elim
  · exact ⟨_, ig_ix, Φ, ρ, S, ra, rb, Ha, Hb, s, r1, r2, q⟩
/-- x in y: of a dict, of all else -/
def gIn2 (neg : Bool) (S : Sto) (ra rb : R) : Out R := match dk S rb with
  | some kvs => match pk S ra with
    | some i => match keyD i with
      | some k => .ok (.d (.bool (xor neg (dGet kvs k).isSome))) S
      | none => .stuck
    | none => .stuck
  | none => on2 S ra rb (gIn neg S)
theorem din_q {neg : Bool} {Φ : Addr → Prop} {ρ : List Addr} {S : Sto} {H : Hp} {x y : V} {ra rb : R} {Ha Hb : Hp} {kvs : List (Key × D)} {i : D} {k : Key} {Q : VK} (s : Sim K Φ ρ H S) (r1 : RepR K Φ ρ S H Ha x ra) (r2 : RepR K Φ ρ S H Hb y rb)
    (e1 : dk S rb = some kvs) (e2 : pk S ra = some i) (e3 : keyD i = some k) (q : PostE K Φ ρ S H (.d (.bool (xor neg (dGet kvs k).isSome))) S Q) : rDIn neg x y H Q := by
  obtain ⟨a, ws, rfl, h1, h2⟩ := dk_ok r2 s e1
  have g := h2.get (k := k)
  have e : (valV ws k).isSome = (dGet kvs k).isSome := by
    cases e4 : dGet kvs k with
    | none => rw [e4] at g; rw [g]; rfl
    | some d => rw [e4] at g; obtain ⟨v, g1, _⟩ := g; rw [g1]; rfl
  refine ⟨a, valV ws k, rfl, ?_, ?_⟩
  · rw [keyD_view (pk_ok r1 s e2) e3]; exact .inl ⟨ws, k, h1, rfl, rfl⟩
  · rw [e]; exact post_d s q (.bl _)
theorem og_in2 (hu : X.A.units + 1 < cLine) (hu2 : X.A.units + 65 < cLine) : OpR X (compareOp .In) (rG X.K Z (gIn2 false)) := OpR.case fun x y H Q q => by
  obtain ⟨Φ, ρ, S, ra, rb, Ha, Hb, s, r1, r2, q⟩ := q
  unfold gIn2 at q
  split at q
  · rename_i kvs e1
    split at q
    · rename_i i e2
      split at q
      · rename_i k e3
        exact ⟨_, or_din hu, din_q s r1 r2 e1 e2 e3 q⟩
      · exact q.elim
    · exact q.elim
  · exact ⟨_, og_in hu2, Φ, ρ, S, ra, rb, Ha, Hb, s, r1, r2, q⟩
theorem og_notin2 (hu : X.A.units + 1 < cLine) (hu2 : X.A.units + 65 < cLine) : OpR X (compareOp .NotIn) (rG X.K Z (gIn2 true)) := OpR.case fun x y H Q q => by
  obtain ⟨Φ, ρ, S, ra, rb, Ha, Hb, s, r1, r2, q⟩ := q
  unfold gIn2 at q
  split at q
  · rename_i kvs e1
    split at q
    · rename_i i e2
      split at q
      · rename_i k e3
        exact ⟨_, or_dnotin hu, din_q s r1 r2 e1 e2 e3 q⟩
      · exact q.elim
    · exact q.elim
  · exact ⟨_, og_notin hu2, Φ, ρ, S, ra, rb, Ha, Hb, s, r1, r2, q⟩
abbrev yIx (fa fb : FE) : FE := fBin gSub2 fa fb
abbrev kIn2 : Sto → R → R → Out R := gIn2 false
abbrev kNotIn2 : Sto → R → R → Out R := gIn2 true

/-! ### d.get(k, x) -/
def fGet2 (fd fk fx : FE) : FE := fun sg S => (fd sg S).bind fun rd S1 => match rd with
  | .ref c => match S1[c]? with
    | some (.dct _) => (fk sg S1).bind fun rk S2 => (toW rk S2).bind fun wk S3 => (fx sg S3).bind fun rx S4 => match S4[c]?, pkW S4 wk, rx with
      | some (.dct kvs), some i, .d x => match keyD i with
        | some k => .ok (.d ((dGet kvs k).getD x)) S4
        | none => .stuck
      | _, _, _ => .stuck
    | _ => .stuck
  | _ => .stuck
theorem de_get2 {o e f : Expr} {apos cpos : Pos} {fo fe ff : FE} (hu : X.A.units + 1 < cLine) (ho : DE X Z o fo) (he : DE X Z e fe) (hf : DE X Z f ff) (m : M2 X o "get" apos e f cpos) : DE X Z (.Call (.Attribute o "get" apos) [e, f] [] cpos) (fGet2 fo fe ff) := by
  refine ⟨PE.imp (pe_dget2 hu ho.pe he.pe hf.pe m) fun σ H Q q => ?_⟩
  obtain ⟨sg, S, Φ, ρ, env, sim, q⟩ := q
  refine ⟨sg, S, Φ, ρ, env, sim, Out.wp_mono (Out.wp_bind q) (fun rd S1 eo1 q Φ1 ρ1 H1 v t1 s1 r1 => ?_) (fun _ _ z => z)⟩
  split at q
  · rename_i c
    split at q
    · rename_i kvs0 e0
      obtain ⟨a, rfl, hk⟩ := r1
      obtain ⟨ws0, g1, _⟩ := s1.cell c a _ hk e0
      refine ⟨a, rfl, .inl ⟨ws0, .inl g1⟩, sg, S1, Φ1, ρ1, env.mono sim t1, s1, Out.wp_mono (Out.wp_bind q) (fun rk S2 eo2 q Φ2 ρ2 H2 y t2 s2 r2 => ?_) (fun _ _ z => Z.after z t1)⟩
      obtain ⟨wk, S3, Φ3, ρ3, q, t3, s3, w3⟩ := toW_wp r2 s2 (Out.wp_bind q)
      have t23 := t2.take t3 fun _ h => h
      have t13 := t1.trans t23
      refine ⟨sg, S3, Φ3, ρ3, env.mono sim t13, s3, Out.wp_mono (Out.wp_bind q) (fun rx S4 eo4 q Φ4 ρ4 H4 z t4 s4 r4 => ?_) (fun _ _ z => Z.after z t13)⟩
      have t14 := t13.trans t4
      split at q
      · rename_i kvs i x e1 e2
        split at q
        · rename_i k e3
          have hk4 := t4.rho (t23.rho hk)
          obtain ⟨ws, g2, g3, _⟩ := s4.cell c a _ hk4 e1
          have g := g3.get (k := k)
          have q := PostE.after q t14
          refine ⟨valV ws k, ?_, ?_⟩
          · rw [keyD_view (pkW_ok (w3.mono s3 t4) s4 e2) e3]; exact DGet.k g2
          · cases e4 : dGet kvs k with
            | none =>
              rw [e4] at g q
              rw [g]
              exact post_d s4 q r4
            | some d =>
              rw [e4] at g q
              obtain ⟨v, g4, g5⟩ := g
              rw [g4]
              exact post_d s4 q g5
        · exact q.elim
      · exact q.elim
    · exact q.elim
  · exact q.elim
end
theorem _root_.L2.Room.u1 {k : Nat} {A : Around} (r : Room k A) : A.units + 1 < cLine := by have := r.u64; omega
end Dl
/-! Dl16: comprehensions of two clauses, extend, displays of dicts. -/
namespace Dl
open PySem PySem.Spec PyProof.Rows L2
theorem Out.wp_ok {α : Type} {o : Out α} {p : α → Sto → Prop} (h : o.wp p (fun _ _ => False)) : ∃ a S, o = .ok a S ∧ p a S := by
  cases o with
  | ok a S => exact ⟨a, S, rfl, h⟩
  | exc e S => exact h.elim
  | stuck => exact h.elim
def compL2 (sg0 : Sg) (b : FB) (ft : FT) (fi1 : FI) (vs1 : List Nat) (b1 : FB) (ft1 : FT) (fe : FE) : List D → Sto → Out (List D)
  | [], S => .ok [] S
  | x :: xs, S => match b x sg0 with
    | none => .stuck
    | some sg1 => (noX (ft sg1 S)).bind fun c S1 => cond c
      ((noX (fi1 sg1 S1)).bind fun ys S2 => (noX (compL (wipeG sg1 vs1) b1 ft1 fe ys S2)).bind fun ds S3 => (compL2 sg0 b ft fi1 vs1 b1 ft1 fe xs S3).bind fun es S4 => .ok (ds ++ es) S4)
      (compL2 sg0 b ft fi1 vs1 b1 ft1 fe xs S1)
def fComp2 (vs : List Nat) (fi : FI) (b : FB) (ft : FT) (fi1 : FI) (vs1 : List Nat) (b1 : FB) (ft1 : FT) (fe : FE) : FE := fun sg S => (fi sg S).bind fun xs S1 => (noX (compL2 (wipeG sg vs) b ft fi1 vs1 b1 ft1 fe xs S1)).bind fun ys S2 => gate (decide (ys.length ≤ lim)) (.ok (.new ys) S2)
/-- an inner walk of a comprehension -/
theorem lc_in {J : It} {n : Nat} {G : Hp → Prop} {Y : Nat → Hp → V → Hp → Prop} (w : Walk J n G Y) {H1 : Hp} {Qd : Hp → Prop} (Pv : Nat → Hp → Prop) {F : (Hp → Prop) → V → Hp → Prop} (h0 : Pv 0 H1) (hG : ∀ i H, i ≤ n → Pv i H → G H)
    (hs : ∀ i x H H', i < n → Pv i H → Y i H x H' → F (Pv (i + 1)) x H') (hd : ∀ H, Pv n H → Qd H) :
    ∃ W : Nat → Nat → Hp → Prop, (∃ m, W 0 m H1) ∧ ∀ i m H, W i m H →
      (J.stop i H ∧ Qd H) ∨ (J.go i H ∧ ∃ Nx : Hp → Prop, (∀ H', Nx H' → ∃ m', m' < m ∧ W (i + 1) m' H') ∧ ∀ x H', J.yld i H x H' → F Nx x H') := by
  refine ⟨fun i m H => m = n - i ∧ i ≤ n ∧ Pv i H, ⟨n, by simp, Nat.zero_le _, h0⟩, ?_⟩
  rintro i m H ⟨rfl, hi, p⟩
  have q := hG i H hi p
  by_cases hlt : i < n
  · refine .inr ⟨w.goes i H hlt q, Pv (i + 1), fun H' p' => ⟨n - (i + 1), by omega, rfl, hlt, p'⟩, fun x H' y => hs i x H H' hlt p (w.yields i H x H' hlt q y)⟩
  · have e : i = n := by omega
    subst e
    exact .inl ⟨w.stops H q, hd H p⟩
section
variable {X : Cx} {Z : XZ} {K : PySem.W.Frag}
/-- what a new list at L keeps over a step -/
theorem keepL {Φ Φ' : Addr → Prop} {ρ ρ' : List Addr} {S S' : Sto} {H H' : Hp} {L : Addr} {acc : List V} (t : Tr Φ ρ S H Φ' ρ' S' H') (h2 : H L = some (.lst acc)) (np : ¬ Φ L) (nm : ¬ MutAt ρ S L) : H' L = some (.lst acc) ∧ ¬ Φ' L ∧ ¬ MutAt ρ' S' L :=
  ⟨t.keep L _ h2 nm, t.newNot h2 np nm, t.noMut (by rw [h2]; simp) nm⟩
theorem comp2_imp {vs vs1 : List Nat} {fi fi1 : FI} {b b1 : FB} {ft ft1 : FT} {fe : FE} {σ : L2.St} {H : Hp} {Q : VK} (q : tE K Z (fComp2 vs fi b ft fi1 vs1 b1 ft1 fe) σ H Q) :
    tLc2 (tI K Z fi) (tG K vs b) (tT K XZ.no ft) (tI K XZ.no fi1) (tG K vs1 b1) (tT K XZ.no ft1) (tE K XZ.no fe) vs vs1 σ H Q := by
  obtain ⟨sg, S, Φ, ρ, env, sim, q⟩ := q
  refine ⟨sg, S, Φ, ρ, env, sim, Out.wp_mono (Out.wp_bind q) (fun xs S1 _ q Φ1 ρ1 H1 J t1 s1 wk => ?_) (fun _ _ z => z)⟩
  obtain ⟨G, Y, w, wk⟩ := wk
  intro L hL
  have hH : H L = none := by
    cases e : H L with
    | none => rfl
    | some o => exact absurd hL (t1.there L (by rw [e]; simp))
  have q := noX_wp (Out.wp_bind q)
  -- what is wanted of the whole list
  let P : List D → Sto → Prop := fun zs S' => zs.length ≤ lim ∧ ∀ Φ' ρ' H3 v, Tr Φ1 ρ1 S1 H1 Φ' ρ' S' H3 → Sim K Φ' ρ' H3 S' → RepR K Φ' ρ' S' H3 H v (.new zs) → Q v H3
  let St : Nat → Hp → Prop := fun i H' => ∃ S Φ ρ acc ds, Tr Φ1 ρ1 S1 H1 Φ ρ S H' ∧ Sim K Φ ρ H' S ∧ EnvR K Φ ρ H' (L2.wipe σ vs) (wipeG sg vs) ∧ H' L = some (.lst acc) ∧ RepA K Φ H' acc ds ∧ ¬ Φ L ∧ ¬ MutAt ρ S L ∧
      (compL2 (wipeG sg vs) b ft fi1 vs1 b1 ft1 fe (xs.drop i) S).wp (fun ys S' => P (ds ++ ys) S') (fun _ _ => False)
  refine lc_in w (Qd := Q (.ref L)) St (F := fun Nx x H' => tG K vs b x (wipe σ vs) H' fun σ2 H2 => wipe σ2 vs = wipe σ vs ∧ tT K XZ.no ft σ2 H2 fun bb H3 =>
    if bb = true then tI K XZ.no fi1 σ2 H3 fun J1 H4 => ∃ W1 : Nat → Nat → Hp → Prop, (∃ m, W1 0 m H4) ∧ ∀ j k H, W1 j k H →
      (J1.stop j H ∧ Nx H) ∨ (J1.go j H ∧ ∃ Nx1 : Hp → Prop, (∀ H', Nx1 H' → ∃ k', k' < k ∧ W1 (j + 1) k' H') ∧ ∀ x H', J1.yld j H x H' → tG K vs1 b1 x (wipe σ2 vs1) H' fun σ3 H5 => wipe σ3 vs1 = wipe σ2 vs1 ∧ tT K XZ.no ft1 σ3 H5 fun b H6 =>
        if b = true then tE K XZ.no fe σ3 H6 fun y H7 => ∃ acc, H7 L = some (.lst acc) ∧ acc.length < sizeLine ∧ Nx1 (upd H7 L (.lst (acc ++ [y]))) else Nx1 H6)
    else Nx H3) ?_ ?_ ?_ ?_
  · have nm : ¬ MutAt ρ1 S1 L := fun m => by
      obtain ⟨vs, e, _⟩ := s1.mutl m
      rw [hL] at e; cases e
    have np : ¬ Φ1 L := fun e => s1.phi L e hL
    refine ⟨S1, Φ1, ρ1, [], [], Tr.newObj hL, s1.newObj hL, ((env.mono sim t1).mono s1 (A := fun _ => False) (Tr.newObj hL)).wipe vs, upd_same, .nil, np, nm, ?_⟩
    refine Out.wp_mono q (fun ys S2 _ q => ?_) (fun e S' z => z)
    obtain ⟨hg, q⟩ := gate_wp q
    exact ⟨of_dec hg, fun Φ' ρ' H3 v t s r => q Φ' ρ' H3 v (t1.trans t) s r⟩
  · rintro i H' _ ⟨S, Φ, ρ, _, _, t, s, _⟩
    exact (wk Φ ρ S H' (t.tw s1) s).1
  · rintro i x H' H3 hi ⟨S2, Φ2, ρ2, acc, ds, t2, s2, env2, h2, ra, np, nm, q⟩ y
    obtain ⟨d, hx, t3, s3, r3⟩ := (wk Φ2 ρ2 S2 H' (t2.tw s1) s2).2 i x H3 hi y
    have hdrop : xs.drop i = d :: xs.drop (i + 1) := by
      obtain ⟨h1, e1⟩ := List.getElem?_eq_some_iff.mp hx
      rw [List.drop_eq_getElem_cons h1, e1]
    rw [hdrop] at q
    unfold compL2 at q
    have t13 := t2.trans t3
    refine ⟨d, wipeG sg vs, Φ2, ρ2, env2.mono s2 t3, r3, ?_⟩
    split at q
    · exact q.elim
    rename_i sg3 e3
    rw [e3]
    intro σ3 env3 hw
    refine ⟨hw.trans (wipe_wipe σ vs), sg3, S2, Φ2, ρ2, env3, s3, Out.wp_mono (noX_wp (Out.wp_bind q)) (fun c S4 _ q Φ4 ρ4 H4 t4 s4 => ?_) (fun _ _ z => z)⟩
    have t14 := t13.trans t4
    have t24 := t3.trans t4
    obtain ⟨h4, np4, nm4⟩ := keepL t24 h2 np nm
    cases c with
    | false =>
      refine iteF ?_
      exact ⟨S4, Φ4, ρ4, acc, ds, t14, s4, env2.mono s2 t24, h4, RepA.mono s2 t24 ra, np4, nm4, q⟩
    | true =>
      refine iteT ?_
      refine ⟨sg3, S4, Φ4, ρ4, env3.mono s3 t4, s4, Out.wp_mono (noX_wp (Out.wp_bind q)) (fun ys S5 _ q Φ5 ρ5 H5 J1 t5 s5 wk1 => ?_) (fun _ _ z => z)⟩
      obtain ⟨G1, Y1, w1, wk1⟩ := wk1
      have t25 := t24.trans t5
      have t15 := t14.trans t5
      have env5 := (env3.mono s3 t4).mono s4 t5
      obtain ⟨h5, np5, nm5⟩ := keepL t25 h2 np nm
      refine lc_in w1 (Qd := St (i + 1)) (fun j H' => ∃ S Φ ρ acc ds, Tr Φ1 ρ1 S1 H1 Φ ρ S H' ∧ Tw Φ5 H5 Φ H' ∧ Sim K Φ ρ H' S ∧ EnvR K Φ ρ H' (L2.wipe σ vs) (wipeG sg vs) ∧ EnvR K Φ ρ H' (L2.wipe σ3 vs1) (wipeG sg3 vs1) ∧ H' L = some (.lst acc) ∧ RepA K Φ H' acc ds ∧ ¬ Φ L ∧ ¬ MutAt ρ S L ∧
          (compL (wipeG sg3 vs1) b1 ft1 fe (ys.drop j) S).wp (fun zs S' => (compL2 (wipeG sg vs) b ft fi1 vs1 b1 ft1 fe (xs.drop (i + 1)) S').wp (fun es S'' => P (ds ++ (zs ++ es)) S'') (fun _ _ => False)) (fun _ _ => False))
        (F := fun Nx1 x H' => tG K vs1 b1 x (wipe σ3 vs1) H' fun σ4 H5 => wipe σ4 vs1 = wipe σ3 vs1 ∧ tT K XZ.no ft1 σ4 H5 fun b H6 =>
          if b = true then tE K XZ.no fe σ4 H6 fun y H7 => ∃ acc, H7 L = some (.lst acc) ∧ acc.length < sizeLine ∧ Nx1 (upd H7 L (.lst (acc ++ [y]))) else Nx1 H6) ?_ (fun j H' _ ⟨S, Φ, ρ, _, _, _, t, s, _⟩ => (wk1 Φ ρ S H' t s).1) ?_ ?_
      · refine ⟨S5, Φ5, ρ5, acc, ds, t15, ⟨fun _ h => h, fun _ _ e _ => e⟩, s5, env2.mono s2 t25, env5.wipe vs1, h5, RepA.mono s2 t25 ra, np5, nm5, ?_⟩
        refine Out.wp_mono (noX_wp (Out.wp_bind q)) (fun zs S6 _ q => ?_) (fun _ _ z => z)
        exact Out.wp_mono (Out.wp_bind q) (fun es S7 _ q => q) (fun _ _ z => z)
      · rintro j x1 H6 H7 hj ⟨S6, Φ6, ρ6, acc6, ds6, t6, w6, s6, envA, envB, h6, ra6, np6, nm6, q⟩ y1
        obtain ⟨d1, hx1, t7, s7, r7⟩ := (wk1 Φ6 ρ6 S6 H6 w6 s6).2 j x1 H7 hj y1
        have hdrop1 : ys.drop j = d1 :: ys.drop (j + 1) := by
          obtain ⟨h1, e1⟩ := List.getElem?_eq_some_iff.mp hx1
          rw [List.drop_eq_getElem_cons h1, e1]
        rw [hdrop1] at q
        unfold compL at q
        refine ⟨d1, wipeG sg3 vs1, Φ6, ρ6, envB.mono s6 t7, r7, ?_⟩
        split at q
        · exact q.elim
        rename_i sg4 e4
        rw [e4]
        intro σ4 env4 hw1
        refine ⟨hw1.trans (wipe_wipe σ3 vs1), sg4, S6, Φ6, ρ6, env4, s7, Out.wp_mono (noX_wp (Out.wp_bind q)) (fun c S8 _ q Φ8 ρ8 H8 t8 s8 => ?_) (fun _ _ z => z)⟩
        have t68 := t7.trans t8
        obtain ⟨h8, np8, nm8⟩ := keepL t68 h6 np6 nm6
        cases c with
        | false =>
          refine iteF ?_
          exact ⟨S8, Φ8, ρ8, acc6, ds6, t6.trans t68, w6.trans (t68.tw s6), s8, envA.mono s6 t68, envB.mono s6 t68, h8, RepA.mono s6 t68 ra6, np8, nm8, q⟩
        | true =>
          refine iteT ?_
          refine ⟨sg4, S8, Φ8, ρ8, env4.mono s7 t8, s8, Out.wp_mono (noX_wp (Out.wp_bind q)) (fun r S9 _ q Φ9 ρ9 H9 v t9 s9 r9 => ?_) (fun _ _ z => z)⟩
          obtain ⟨d', S10, Φ10, q, t10, s10, r10⟩ := toD_wp r9 s9 (Out.wp_bind q)
          have t810 := t9.take t10 fun _ h => h
          have t610 := t68.trans t810
          obtain ⟨h10, np10, nm10⟩ := keepL t610 h6 np6 nm6
          have ra10 := RepA.mono s6 t610 ra6
          have q := Out.wp_bind q
          have hlen : ds6.length < lim := by
            obtain ⟨zs, S11, _, q⟩ := Out.wp_ok q
            obtain ⟨zs', S12, ez, q⟩ := Out.wp_ok q
            cases ez
            obtain ⟨es, S13, _, q⟩ := Out.wp_ok q
            have := q.1
            simp only [List.length_append, List.length_cons] at this
            omega
          refine ⟨acc6, h10, lim_lt (by rw [ra10.length]; exact hlen), S10, Φ10, ρ9, acc6 ++ [v], ds6 ++ [d'], (t6.trans t610).updN hL _, (w6.trans (t610.tw s6)).trans (Tw.upd h10 trivial np10), s10.updN h10 trivial np10 (fun _ _ _ e => nomatch e) nm10, (envA.mono s6 t610).updN h10 trivial np10, (envB.mono s6 t610).updN h10 trivial np10, upd_same, RepA.updN h10 trivial np10 (ra10.append (.cons r10 .nil)), np10, nm10, ?_⟩
          refine Out.wp_mono q (fun zs S11 _ q => ?_) (fun _ _ z => z)
          refine Out.wp_mono q (fun es S12 _ q => ?_) (fun _ _ z => z)
          have e : ds6 ++ [d'] ++ (zs ++ es) = ds6 ++ ((d' :: zs) ++ es) := by simp
          rw [e]
          exact q
      · rintro H6 ⟨S6, Φ6, ρ6, acc6, ds6, t6, w6, s6, envA, envB, h6, ra6, np6, nm6, q⟩
        rw [List.drop_length] at q
        exact ⟨S6, Φ6, ρ6, acc6, ds6, t6, s6, envA, h6, ra6, np6, nm6, q⟩
  · rintro H' ⟨S2, Φ2, ρ2, acc, ds, t2, s2, env2, h2, ra, np, nm, q⟩
    rw [List.drop_length] at q
    obtain ⟨_, q⟩ := q
    refine q Φ2 ρ2 H' _ t2 s2 ⟨L, acc, rfl, h2, ?_, np, nm, hH⟩
    rw [List.append_nil]
    exact ra
theorem de_comp2 {elt tg iter tg1 iter1 : Expr} {ifs ifs1 : List Expr} {scope : Scope} {own : List (Str × Nat)} {vs1 : List Nat} {pos : Pos} {fi fi1 : FI} {b b1 : FB} {ft ft1 : FT} {fe : FE} (hc : X.calm = true) (hN : X.N.Nodup) (hi : DI X Z tg iter fi) (ok : blkC X.N X.env.scope scope own = true) (hv : ∀ i ∈ vs1, i ∈ own.map (·.2))
    (hg : ∀ (s : Shared) (H : Hp) (C : Addr) (cl : List (Str × Addr)) (fp : List Addr), DG (X.blk s H scope (compEnvC scope cl C X.env) fp) tg (own.map (·.2)) b)
    (ht : ∀ (s : Shared) (H : Hp) (C : Addr) (cl : List (Str × Addr)) (fp : List Addr), DTs (X.blk s H scope (compEnvC scope cl C X.env) fp) XZ.no ifs ft)
    (hi1 : ∀ (s : Shared) (H : Hp) (C : Addr) (cl : List (Str × Addr)) (fp : List Addr), DI (X.blk s H scope (compEnvC scope cl C X.env) fp) XZ.no tg1 iter1 fi1)
    (hg1 : ∀ (s : Shared) (H : Hp) (C : Addr) (cl : List (Str × Addr)) (fp : List Addr), DG (X.blk s H scope (compEnvC scope cl C X.env) fp) tg1 vs1 b1)
    (ht1 : ∀ (s : Shared) (H : Hp) (C : Addr) (cl : List (Str × Addr)) (fp : List Addr), DTs (X.blk s H scope (compEnvC scope cl C X.env) fp) XZ.no ifs1 ft1)
    (he : ∀ (s : Shared) (H : Hp) (C : Addr) (cl : List (Str × Addr)) (fp : List Addr), DE (X.blk s H scope (compEnvC scope cl C X.env) fp) XZ.no elt fe) (hs : ∀ x, foldedSetIterable iter X.env x = pure x := by intro _; rfl) (hs1 : ∀ env x, foldedSetIterable iter1 env x = pure x := by intro _ _; rfl) :
    DE X Z (.ListComp elt [⟨tg, iter, ifs, 0⟩, ⟨tg1, iter1, ifs1, 0⟩] scope pos) (fComp2 (own.map (·.2)) fi b ft fi1 vs1 b1 ft1 fe) :=
  ⟨PE.imp (pe_lc2 (wi := tI X.K Z fi) (g := tG X.K (own.map (·.2)) b) (tt := tT X.K XZ.no ft) (wi1 := tI X.K XZ.no fi1) (g1 := tG X.K vs1 b1) (tt1 := tT X.K XZ.no ft1) (te := tE X.K XZ.no fe) hc hN hi.pi (blkOk_by ok) hv (fun s H C cl fp => (hg s H C cl fp).pg) (fun s H C cl fp => (ht s H C cl fp).pt) (fun s H C cl fp => (hi1 s H C cl fp).pi) (fun s H C cl fp => (hg1 s H C cl fp).pg) (fun s H C cl fp => (ht1 s H C cl fp).pt) (fun s H C cl fp => (he s H C cl fp).pe) hs hs1) fun _ _ _ q => comp2_imp q⟩
/-- name = [..] of two clauses (M: the name a cell) -/
theorem ds_setC2 {i : Nat} {y : Str} {py : Pos} {elt tg iter tg1 iter1 : Expr} {ifs ifs1 : List Expr} {scope : Scope} {own : List (Str × Nat)} {vs1 : List Nat} {pos spos : Pos} {fi fi1 : FI} {b b1 : FB} {ft ft1 : FT} {fe : FE} (hc : X.calm = true) (hN : X.N.Nodup) (hy : X.N[i]? = some y) (hyl : X.env.scope.names.lookup y = some .local)
    (hsw : swapsWith (.ListComp elt [⟨tg, iter, ifs, 0⟩, ⟨tg1, iter1, ifs1, 0⟩] scope pos) (some (.Name y py)) spos.line X.env = pure true) (hi : DI X Z tg iter fi) (ok : blkC X.N X.env.scope scope own = true) (hv : ∀ i ∈ vs1, i ∈ own.map (·.2))
    (hg : ∀ (s : Shared) (H : Hp) (C : Addr) (cl : List (Str × Addr)) (fp : List Addr), DG (X.blk s H scope (compEnvC scope cl C X.env) fp) tg (own.map (·.2)) b)
    (ht : ∀ (s : Shared) (H : Hp) (C : Addr) (cl : List (Str × Addr)) (fp : List Addr), DTs (X.blk s H scope (compEnvC scope cl C X.env) fp) XZ.no ifs ft)
    (hi1 : ∀ (s : Shared) (H : Hp) (C : Addr) (cl : List (Str × Addr)) (fp : List Addr), DI (X.blk s H scope (compEnvC scope cl C X.env) fp) XZ.no tg1 iter1 fi1)
    (hg1 : ∀ (s : Shared) (H : Hp) (C : Addr) (cl : List (Str × Addr)) (fp : List Addr), DG (X.blk s H scope (compEnvC scope cl C X.env) fp) tg1 vs1 b1)
    (ht1 : ∀ (s : Shared) (H : Hp) (C : Addr) (cl : List (Str × Addr)) (fp : List Addr), DTs (X.blk s H scope (compEnvC scope cl C X.env) fp) XZ.no ifs1 ft1)
    (he : ∀ (s : Shared) (H : Hp) (C : Addr) (cl : List (Str × Addr)) (fp : List Addr), DE (X.blk s H scope (compEnvC scope cl C X.env) fp) XZ.no elt fe) (hs : ∀ x, foldedSetIterable iter X.env x = pure x := by intro _; rfl) (hs1 : ∀ env x, foldedSetIterable iter1 env x = pure x := by intro _ _; rfl) :
    DS X Z (.Assign [.Name y py] (.ListComp elt [⟨tg, iter, ifs, 0⟩, ⟨tg1, iter1, ifs1, 0⟩] scope pos) spos) (fSet i (fComp2 (own.map (·.2)) fi b ft fi1 vs1 b1 ft1 fe)) := by
  refine ⟨PS.imp (ps_setLc2 (wi := tI X.K Z fi) (g := tG X.K (own.map (·.2)) b) (tt := tT X.K XZ.no ft) (wi1 := tI X.K XZ.no fi1) (g1 := tG X.K vs1 b1) (tt1 := tT X.K XZ.no ft1) (te := tE X.K XZ.no fe) hc hN hy hyl hsw hi.pi (blkOk_by ok) hv (fun s H C cl fp => (hg s H C cl fp).pg) (fun s H C cl fp => (ht s H C cl fp).pt) (fun s H C cl fp => (hi1 s H C cl fp).pi) (fun s H C cl fp => (hg1 s H C cl fp).pg) (fun s H C cl fp => (ht1 s H C cl fp).pt) (fun s H C cl fp => (he s H C cl fp).pe) hs hs1) fun D σ H q => ?_⟩
  exact comp2_imp (Z := Z) (Q := fun x H1 => gName i x σ H1 D.nx) (set_imp (K := X.K) (Z := Z) q)
/-- name = [..] of two clauses (M: the name a cell) -/
theorem ds_setC2M {i : Nat} {y : Str} {py : Pos} {elt tg iter tg1 iter1 : Expr} {ifs ifs1 : List Expr} {scope : Scope} {own : List (Str × Nat)} {vs1 : List Nat} {pos spos : Pos} {fi fi1 : FI} {b b1 : FB} {ft ft1 : FT} {fe : FE} (hc : X.calm = true) (hN : X.N.Nodup) (hy : X.N[i]? = some y) (hyl : X.env.scope.names.lookup y = some .local)
    (hsw : swapsWith (.ListComp elt [⟨tg, iter, ifs, 0⟩, ⟨tg1, iter1, ifs1, 0⟩] scope pos) (some (.Name y py)) spos.line X.env = pure true) (hi : DI X Z tg iter fi) (ok : blkC X.N X.env.scope scope own = true) (hv : ∀ i ∈ vs1, i ∈ own.map (·.2))
    (hg : ∀ (s : Shared) (H : Hp) (C : Addr) (cl : List (Str × Addr)) (fp : List Addr), DG (X.blk s H scope (compEnvC scope cl C X.env) fp) tg (own.map (·.2)) b)
    (ht : ∀ (s : Shared) (H : Hp) (C : Addr) (cl : List (Str × Addr)) (fp : List Addr), DTs (X.blk s H scope (compEnvC scope cl C X.env) fp) XZ.no ifs ft)
    (hi1 : ∀ (s : Shared) (H : Hp) (C : Addr) (cl : List (Str × Addr)) (fp : List Addr), DI (X.blk s H scope (compEnvC scope cl C X.env) fp) XZ.no tg1 iter1 fi1)
    (hg1 : ∀ (s : Shared) (H : Hp) (C : Addr) (cl : List (Str × Addr)) (fp : List Addr), DG (X.blk s H scope (compEnvC scope cl C X.env) fp) tg1 vs1 b1)
    (ht1 : ∀ (s : Shared) (H : Hp) (C : Addr) (cl : List (Str × Addr)) (fp : List Addr), DTs (X.blk s H scope (compEnvC scope cl C X.env) fp) XZ.no ifs1 ft1)
    (he : ∀ (s : Shared) (H : Hp) (C : Addr) (cl : List (Str × Addr)) (fp : List Addr), DE (X.blk s H scope (compEnvC scope cl C X.env) fp) XZ.no elt fe) (hs : ∀ x, foldedSetIterable iter X.env x = pure x := by intro _; rfl) (hs1 : ∀ env x, foldedSetIterable iter1 env x = pure x := by intro _ _; rfl) :
    DS X Z (.Assign [.Name y py] (.ListComp elt [⟨tg, iter, ifs, 0⟩, ⟨tg1, iter1, ifs1, 0⟩] scope pos) spos) (fSetM i (fComp2 (own.map (·.2)) fi b ft fi1 vs1 b1 ft1 fe)) := by
  refine ⟨PS.imp (ps_setLc2 (wi := tI X.K Z fi) (g := tG X.K (own.map (·.2)) b) (tt := tT X.K XZ.no ft) (wi1 := tI X.K XZ.no fi1) (g1 := tG X.K vs1 b1) (tt1 := tT X.K XZ.no ft1) (te := tE X.K XZ.no fe) hc hN hy hyl hsw hi.pi (blkOk_by ok) hv (fun s H C cl fp => (hg s H C cl fp).pg) (fun s H C cl fp => (ht s H C cl fp).pt) (fun s H C cl fp => (hi1 s H C cl fp).pi) (fun s H C cl fp => (hg1 s H C cl fp).pg) (fun s H C cl fp => (ht1 s H C cl fp).pt) (fun s H C cl fp => (he s H C cl fp).pe) hs hs1) fun D σ H q => ?_⟩
  exact comp2_imp (Z := Z) (Q := fun x H1 => gName i x σ H1 D.nx) (setM_imp (K := X.K) (Z := Z) q)

/-! ### o.extend(e), e a new list -/
def fExt (fo fe : FE) : FS := fun sg S => (fo sg S).bind fun o S1 => match o with
  | .ref k => match S1[k]? with
    | some (.lst _) => (fe sg S1).bind fun r S2 => match r, S2[k]? with
      | .new ys, some (.lst xs) => gate (decide (xs.length + ys.length ≤ lim)) (.ok (.nx sg) (S2.set k (.lst (xs ++ ys))))
      | _, _ => .stuck
    | _ => .stuck
  | _ => .stuck
theorem ds_extend {o e : Expr} {pos apos cpos : Pos} {fo fe : FE} (ho : DE X Z o fo) (he : DE X Z e fe)
    (hst : starEach [e] X.env = (false, eval e X.env) :: starEach [] X.env := by rfl)
    (hpe : ∀ {to : TE} {t : TA}, PE X o to → PA X [e] t → PE X (.Call (.Attribute o "extend" apos) [e] [] cpos) (tBM X.K "list" rExtend to t) := by intro _ _ ho ha; exact pe_bm PySem.F.plainAttrs_list PySem.F.slot_list_extend PySem.F.type_list_extend mt_extend ho ha)
    (hs : swapsWith (.Call (.Attribute o "extend" apos) [e] [] cpos) none pos.line X.env = pure false := by rfl) : DS X Z (.Expr (.Call (.Attribute o "extend" apos) [e] [] cpos) pos) (fExt fo fe) := by
  refine ⟨PS.imp (ps_expr (hpe ho.pe (pa_cons he.pe pa_nil hst)) hs) fun D σ H q => ?_⟩
  obtain ⟨sg, S, Φ, ρ, env, sim, q⟩ := q
  refine ⟨sg, S, Φ, ρ, env, sim, Out.wp_mono (Out.wp_bind q) (fun o S1 eo1 q Φ1 ρ1 H1 v t1 s1 r1 => ?_) (fun _ _ z => z)⟩
  split at q
  · rename_i k
    split at q
    · rename_i xs0 e0
      obtain ⟨a, rfl, hk⟩ := r1
      obtain ⟨vs0, g1, _⟩ := s1.cell k a _ hk e0
      refine ⟨.inl ⟨rfl, _, SqL.of g1⟩, sg, S1, Φ1, ρ1, env.mono sim t1, s1, Out.wp_mono (Out.wp_bind q) (fun r S2 eoS2 q Φ2 ρ2 H2 u t2 s2 r2 => ?_) (fun _ _ z => Z.after z t1)⟩
      split at q
      · rename_i ys xs e1
        obtain ⟨hl, q⟩ := gate_wp q
        have hl := of_dec hl
        have t12 := t1.trans t2
        have hk2 := t2.rho hk
        obtain ⟨us, h5, h6, h7⟩ := s2.cell k a _ hk2 e1
        obtain ⟨b, ws, rfl, h1, h2, h3, h4, _⟩ := r2
        obtain ⟨t5, s5⟩ := set_cell s2 hk2 e1 (h6.append h2)
        have t15 := t12.trans t5
        refine ⟨a, b, us, ws, rfl, rfl, h5, h1, lim_le (by rw [h6.length, h2.length]; exact hl), ?_⟩
        exact q _ _ _ _ t15 s5 (env.mono sim t15)
      · exact q.elim
    · exact q.elim
  · exact q.elim
end
end Dl
/-! Dl10: rows for computing with the denotations. -/
namespace Dl
open PySem PySem.Spec PyProof.Rows L2

theorem Out.bind_cond {α β : Type} (b : Bool) (x y : Out α) (f : α → Sto → Out β) : (cond b x y).bind f = cond b (x.bind f) (y.bind f) := by cases b <;> rfl
theorem noX_cond {α : Type} (b : Bool) (x y : Out α) : noX (cond b x y) = cond b (noX x) (noX y) := by cases b <;> rfl
theorem cond_and_d (b c : Bool) (S : Sto) : cond b (Out.ok (R.d (.bool c)) S) (Out.ok (R.d (.bool b)) S) = Out.ok (R.d (.bool (b && c))) S := by cases b <;> rfl
theorem cond_and_d' (b c : Bool) (S : Sto) : cond b (Out.ok (R.d (.bool c)) S) (Out.ok (R.d (.bool false)) S) = Out.ok (R.d (.bool (b && c))) S := by cases b <;> rfl
theorem cond_or_d (b c : Bool) (S : Sto) : cond b (Out.ok (R.d (.bool b)) S) (Out.ok (R.d (.bool c)) S) = Out.ok (R.d (.bool (b || c))) S := by cases b <;> rfl
theorem cond_and_t (b c : Bool) (S : Sto) : cond b (Out.ok c S) (Out.ok false S) = Out.ok (b && c) S := by cases b <;> rfl
theorem cond_or_t (b c : Bool) (S : Sto) : cond b (Out.ok true S) (Out.ok c S) = Out.ok (b || c) S := by cases b <;> rfl
theorem cond_id {α : Type} (b : Bool) (x : α) : cond b x x = x := by cases b <;> rfl
theorem gate_dec {α : Type} {p : Prop} [Decidable p] (h : p) (o : Out α) : gate (decide p) o = o := by rw [decide_eq_true h]; rfl
theorem gEq_int (S : Sto) (i j : Int) : gEq S (.int i) (.int j) = .ok (.d (.bool (i == j))) S := by simp [gEq, SeqAt.shaped, PyData.canLay0, PyData.depth, PyData.eqv]
theorem gNe_int (S : Sto) (i j : Int) : gNe S (.int i) (.int j) = .ok (.d (.bool (i != j))) S := by simp [gNe, SeqAt.shaped, PyData.canLay0, PyData.depth, PyData.eqv, bne]
theorem take_app {α : Type} (S T : List α) : (S ++ T).take S.length = S := by simp
theorem one_le_lim {n : Nat} (h : n ≤ 1000) : n ≤ lim := Nat.le_trans h (by decide)
theorem atI_nat {α : Type} (xs : List α) (n : Nat) : L2.atI xs (n : Int) = xs[n]? := by
  unfold L2.atI L2.ixN
  rw [if_pos (by omega)]
  by_cases h : n < xs.length
  · rw [if_pos (by omega)]; simp
  · rw [if_neg (by omega)]; simp; omega
theorem atI_0 {α : Type} (x : α) (xs : List α) : L2.atI (x :: xs) (0 : Int) = some x := atI_nat (x :: xs) 0
theorem atI_1 {α : Type} (x y : α) (xs : List α) : L2.atI (x :: y :: xs) (1 : Int) = some y := atI_nat (x :: y :: xs) 1
theorem atI_2 {α : Type} (x y z : α) (xs : List α) : L2.atI (x :: y :: z :: xs) (2 : Int) = some z := atI_nat (x :: y :: z :: xs) 2
theorem atI_3 {α : Type} (x y z u : α) (xs : List α) : L2.atI (x :: y :: z :: u :: xs) (3 : Int) = some u := atI_nat (x :: y :: z :: u :: xs) 3
theorem atI_pos {α : Type} {xs : List α} {i : Int} (h0 : 0 ≤ i) (h1 : i < xs.length) : ∃ x, L2.atI xs i = some x ∧ x ∈ xs := by
  obtain ⟨n, rfl⟩ := Int.eq_ofNat_of_zero_le h0
  have h1 : n < xs.length := by omega
  exact ⟨xs[n], by rw [atI_nat, List.getElem?_eq_getElem h1], List.getElem_mem h1⟩
theorem atI_mid {α : Type} (as : List α) (x : α) (bs : List α) : L2.atI (as ++ x :: bs) (as.length : Int) = some x := by rw [atI_nat]; simp
theorem atI_last {α : Type} (as : List α) (x : α) : L2.atI (as ++ [x]) (-1) = some x := by
  unfold L2.atI L2.ixN
  rw [if_neg (by omega), if_pos (by simp; omega)]
  have : ((-1 : Int) + ((as ++ [x]).length : Nat)).toNat = as.length := by simp; omega
  rw [Option.bind_some, this]; simp

theorem cast_beq (a b : Nat) : (((a : Nat) : Int) == ((b : Nat) : Int)) = (a == b) := by
  by_cases h : a = b
  · subst h; simp
  · rw [beq_eq_false_iff_ne.mpr h, beq_eq_false_iff_ne.mpr (by omega)]
theorem gShl_one (S : Sto) {j : Int} (h0 : 0 ≤ j) (h1 : j ≤ 1000000) : gShl S (.int 1) (.int j) = .ok (.d (.int (2 ^ j.toNat))) S := by
  simp only [gShl, h0, show j.natAbs ≤ 1000000 by omega, show smallI 1 = true from rfl, decide_true, Bool.and_self, gate_true, Int.one_mul]
theorem gShl_oneN (S : Sto) {m : Nat} (h1 : m ≤ 1000000) : gShl S (.int 1) (.int (m : Int)) = .ok (.d (.int ((2 ^ m : Nat) : Int))) S := by
  rw [gShl_one S (by omega) (show (m : Int) ≤ 1000000 by omega), Int.toNat_natCast]; simp
theorem rngOk_nat {n : Nat} (hn : n ≤ 1000000) : rngOk (n : Int) = true := decide_eq_true (by omega)
theorem fRange1_ok {f : FE} {sg : Sg} {S S1 : Sto} {n : Nat} (h : f sg S = .ok (.d (.int (n : Int))) S1) (hn : n ≤ 1000000) : fRange1 (fCons f fNil) sg S = .ok (rangeD 0 n) S1 := by
  simp only [fRange1, fCons, fNil, h, Out.bind_ok, toW, viewsOf, pkW, rngOk_nat hn, gate_true, Int.toNat_natCast]
theorem rngOk_lit {j : Int} (h0 : -1000000 ≤ j) (h1 : j ≤ 1000000) : rngOk j = true := decide_eq_true (by omega)
theorem smallI_lit {j : Int} (h0 : -1000000000000 ≤ j) (h1 : j ≤ 1000000000000) : smallI j = true := decide_eq_true (by omega)
theorem divOk_lit {j : Int} (h0 : 0 < j) (h1 : j ≤ 1000000000000) : divOk j = true := Bool.and_eq_true_iff.mpr ⟨decide_eq_true h0, decide_eq_true (by omega)⟩
theorem shaped_int (i : Int) : SeqAt.shaped (.int i) = true := rfl

/-! ### comprehensions, loops -/
theorem compL_map {sg : Sg} {i : Nat} {fe : FE} {g : D → D} {S : Sto} : ∀ {xs : List D}, (∀ x ∈ xs, fe (sg.set i (some (.d x))) S = .ok (.d (g x)) S) → compL sg (bName i) fYes fe xs S = .ok (xs.map g) S
  | [], _ => rfl
  | x :: xs, h => by
    have h1 := h x (by simp)
    have h2 := compL_map (xs := xs) fun y hy => h y (by simp [hy])
    simp only [compL, bName, fYes, noX_ok, Out.bind_ok, cond_true, h1, toD, h2, List.map_cons]
theorem compL_filter {sg : Sg} {i : Nat} {ft : FT} {fe : FE} {p : D → Bool} {g : D → D} {S : Sto} : ∀ {xs : List D}, (∀ x ∈ xs, ft (sg.set i (some (.d x))) S = .ok (p x) S ∧ fe (sg.set i (some (.d x))) S = .ok (.d (g x)) S) →
    compL sg (bName i) ft fe xs S = .ok ((xs.filter p).map g) S
  | [], _ => rfl
  | x :: xs, h => by
    obtain ⟨h0, h1⟩ := h x (by simp)
    have h2 := compL_filter (xs := xs) fun y hy => h y (by simp [hy])
    simp only [compL, bName, h0, h1, noX_ok, Out.bind_ok, toD, h2, List.filter_cons]
    cases p x <;> rfl
theorem compL_filterI {sg : Sg} {i : Nat} {ft : FT} {fe : FE} {p : Int → Bool} {g : Int → D} {S : Sto} : ∀ {xs : List Int}, (∀ x ∈ xs, ft (sg.set i (some (.d (.int x)))) S = .ok (p x) S ∧ fe (sg.set i (some (.d (.int x)))) S = .ok (.d (g x)) S) →
    compL sg (bName i) ft fe (xs.map PyData.int) S = .ok ((xs.filter p).map g) S
  | [], _ => rfl
  | x :: xs, h => by
    obtain ⟨h0, h1⟩ := h x (by simp)
    have h2 := compL_filterI (xs := xs) fun y hy => h y (by simp [hy])
    simp only [List.map_cons, compL, bName, h0, h1, noX_ok, Out.bind_ok, toD, h2, List.filter_cons]
    cases p x <;> rfl
theorem compL_mapI {sg : Sg} {i : Nat} {fe : FE} {g : Int → D} {S : Sto} {xs : List Int} (h : ∀ x ∈ xs, fe (sg.set i (some (.d (.int x)))) S = .ok (.d (g x)) S) : compL sg (bName i) fYes fe (xs.map PyData.int) S = .ok (xs.map g) S := by
  have q := compL_filterI (ft := fYes) (p := fun _ => true) (g := g) (sg := sg) (i := i) (fe := fe) (S := S) (xs := xs) fun x hx => ⟨rfl, h x hx⟩
  rw [q, List.filter_eq_self.mpr fun _ _ => rfl]
theorem canLay_ints : ∀ ns : List Int, PyData.canLayAll0 (ns.map PyData.int) = true
  | [] => rfl
  | n :: ns => by simp [PyData.canLayAll0, PyData.canLay0, canLay_ints ns]
theorem depth_intsL : ∀ ns : List Int, PyData.depthAll (ns.map PyData.int) = 0
  | [] => rfl
  | n :: ns => by simp [PyData.depthAll, PyData.depth, depth_intsL ns]
theorem shaped_ints (ns : List Int) : SeqAt.shaped (.list (ns.map PyData.int)) = true := by simp [SeqAt.shaped, PyData.canLay0, canLay_ints, PyData.depth, depth_intsL]
theorem eqv_int (i j : Int) : PyData.eqv (.int i) (.int j) = (i == j) := by simp [PyData.eqv]
theorem any_ints (ns : List Int) (k : Int) : ((ns.map PyData.int).any fun z => PyData.eqv z (.int k)) = ns.any fun z => z == k := by
  rw [List.any_map]; congr 1
theorem gIn_ints (neg : Bool) (S : Sto) (k : Int) (ns : List Int) : gIn neg S (.int k) (.list (ns.map PyData.int)) = .ok (.d (.bool (xor neg (ns.any fun z => z == k)))) S := by
  simp only [gIn, shaped_int, shaped_ints, Bool.and_self, gate_true, any_ints]
theorem map_comp {α β γ : Type} (f : α → β) (g : β → γ) (xs : List α) : (xs.map f).map g = xs.map fun x => g (f x) := by simp
theorem get_last (S : Sto) (c : Cell) : (S ++ [c])[S.length]? = some c := by simp
theorem set_last (S : Sto) (c d : Cell) : (S ++ [c]).set S.length d = S ++ [d] := by
  rw [List.set_append_right _ _ (Nat.le_refl _)]; simp
theorem not_lt_self {n : Nat} : (n < n) = False := by simp
theorem bitAnd_nat (a b : Nat) : Builtin.bitAnd (a : Int) (b : Int) = ((a &&& b : Nat) : Int) := by simp [Builtin.bitAnd]
theorem bitOr_nat (a b : Nat) : Builtin.bitOr (a : Int) (b : Int) = ((a ||| b : Nat) : Int) := by
  have q := Bits.bitOr_pp (x := (a : Int)) (y := (b : Int)) (by omega) (by omega)
  simpa using q
theorem ixN_40 : L2.ixN 4 0 = some 0 := rfl
theorem ixN_41 : L2.ixN 4 1 = some 1 := rfl
theorem ixN_42 : L2.ixN 4 2 = some 2 := rfl
theorem ixN_43 : L2.ixN 4 3 = some 3 := rfl
theorem gPow_1018 (S : Sto) : gPow S (.int 10) (.int 18) = .ok (.d (.int 1000000000000000000)) S := rfl
theorem boolsOf_mapF {α : Type} (p : α → Bool) : ∀ xs : List α, boolsOf (xs.map fun x => .bool (p x)) = some (xs.map p)
  | [] => rfl
  | x :: xs => by simp only [List.map_cons, boolsOf, boolsOf_mapF p xs]
theorem intsOf_mapF {α : Type} (p : α → Int) : ∀ xs : List α, intsOf (xs.map fun x => .int (p x)) = some (xs.map p)
  | [] => rfl
  | x :: xs => by simp only [List.map_cons, intsOf, intsOf_mapF p xs]
theorem all_id {α : Type} (p : α → Bool) (xs : List α) : (xs.map p).all id = xs.all p := by simp [List.all_map, Function.comp_def]
theorem gAll_map {α : Type} (S : Sto) (p : α → Bool) (xs : List α) : gAll S [.list (xs.map fun x => .bool (p x))] = .ok (.d (.bool (xs.all p))) S := by
  simp only [gAll, boolsOf_mapF, all_id]
theorem gAll_bools (S : Sto) (bs : List Bool) : gAll S [.list (bs.map PyData.bool)] = .ok (.d (.bool (bs.all id))) S := by
  simp only [gAll, boolsOf_map]
theorem gSum_map {α : Type} (S : Sto) (p : α → Int) (xs : List α) : gSum S [.list (xs.map fun x => .int (p x))] = .ok (.d (.int (xs.map p).sum)) S := by
  simp only [gSum, intsOf_mapF]
theorem rangeD_zero (lo : Int) : rangeD lo 0 = [] := rfl
theorem rangeD_succ (lo : Int) (n : Nat) : rangeD lo (n + 1) = .int lo :: rangeD (lo + 1) n := by
  simp only [rangeD, List.range_succ_eq_map, List.map_cons, List.map_map]
  congr 1
  · simp
  · apply List.map_congr_left
    intro i _
    simp only [Function.comp, Nat.succ_eq_add_one]
    congr 1
    omega
theorem cutL_to {α : Type} (xs : List α) (n : Nat) : cutL xs none (some (n : Int)) = xs.take n := by
  simp only [cutL, HT.sIx_none, HT.sIx_nat, List.drop_zero, Nat.sub_zero]
  rw [Nat.min_def]
  split
  · rfl
  · rw [List.take_length, List.take_of_length_le (by omega)]
theorem cutL_from {α : Type} (xs : List α) (n : Nat) : cutL xs (some (n : Int)) none = xs.drop n := by
  simp only [cutL, HT.sIx_none, HT.sIx_nat]
  rw [Nat.min_def]
  split
  · rw [List.take_of_length_le (by simp)]
  · rw [List.drop_length, List.drop_eq_nil_of_le (by omega)]; simp
theorem cutL_toI {α : Type} (xs : List α) {j : Int} (h : 0 ≤ j) : cutL xs none (some j) = xs.take j.toNat := by
  obtain ⟨n, rfl⟩ := Int.eq_ofNat_of_zero_le h
  exact cutL_to xs n
theorem cutL_fromI {α : Type} (xs : List α) {j : Int} (h : 0 ≤ j) : cutL xs (some j) none = xs.drop j.toNat := by
  obtain ⟨n, rfl⟩ := Int.eq_ofNat_of_zero_le h
  exact cutL_from xs n
theorem cutL_len {α : Type} (xs : List α) (lo hi : Option Int) : (cutL xs lo hi).length ≤ xs.length := by
  simp only [cutL, List.length_take, List.length_drop]; omega
theorem cutL_mem {α : Type} {xs : List α} {lo hi : Option Int} {x : α} (h : x ∈ cutL xs lo hi) : x ∈ xs := List.mem_of_mem_drop (List.mem_of_mem_take h)
end Dl
/-! Dl11: the draws that the laws share. -/
namespace Dl
open PySem L2
def dlDraw : FD := fDef 5 (fSeq (fSetSub (fVar 0) (fC (.int 3)) (xAdd (yIx (fVar 0) (fC (.int 3))) (fC (.int 1)))) (fSeq (fIfS (fBoo (fBin kGt (yIx (fVar 0) (fC (.int 2))) (fC (.int 0)))) (fSeq (fSet 2 (xMod (fCB gInt (fCons (yIx (fVar 0) (fC (.int 2))) (fNil))) (fVar 1))) (fSeq (fSetSub (fVar 0) (fC (.int 2)) (xDiv (yIx (fVar 0) (fC (.int 2))) (fVar 1))) (fRet (fVar 2)))) (fNext)) (fSeq (fSet 3 (fC (.int 0))) (fSeq (fIfS (fBoo (fBin kGt (fCB gLen (fCons (yIx (fVar 0) (fC (.int 0))) (fNil))) (fC (.int 0)))) (fSet 3 (fCB gAbs (fCons (yIx (yIx (fVar 0) (fC (.int 0))) (xMod (fCB gInt (fCons (yIx (fVar 0) (fC (.int 1))) (fNil))) (fCB gLen (fCons (yIx (fVar 0) (fC (.int 0))) (fNil))))) (fNil)))) (fNext)) (fSeq (fSetSub (fVar 0) (fC (.int 1)) (xAdd (yIx (fVar 0) (fC (.int 1))) (fC (.int 1)))) (fSeq (fIfS (fBoo (fBin kGe (fVar 3) (xPow (fC (.int 10)) (fC (.int 18))))) (fSeq (fSetSub (fVar 0) (fC (.int 2)) (xDiv (fVar 3) (fVar 1))) (fRet (xMod (fCB gInt (fCons (fVar 3) (fNil))) (fVar 1)))) (fNext)) (fSeq (fSet 4 (xMod (fCB gInt (fCons (xAdd (xMul (xAdd (fVar 3) (fC (.int 1))) (fC (.int 48271))) (xMul (yIx (fVar 0) (fC (.int 3))) (fC (.int 69621)))) (fNil))) (fC (.int 2147483647)))) (fSeq (fSet 4 (xMod (fCB gInt (fCons (xAdd (xAdd (xMul (fVar 4) (fC (.int 16807))) (xDiv (fVar 3) (fC (.int 97)))) (yIx (fVar 0) (fC (.int 3)))) (fNil))) (fC (.int 2147483629)))) (fRet (xMod (xDiv (fVar 4) (fC (.int 11))) (fVar 1)))))))))))
def StOk (c : Cell) : Prop := ∃ (ns : List Int) (i b k : Int), c = .lst [.list (ns.map PyData.int), .int i, .int b, .int k]
theorem abs_if (S : Sto) (z : Int) : gAbs S [.int z] = .ok (.d (.int (if z < 0 then -z else z))) S := rfl
theorem draw_ev {c : Cell} {most : Int} (T : Sto) (hc : StOk c) (h0 : 0 < most) (h1 : most ≤ 1000000) :
    ∃ r c', StOk c' ∧ 0 ≤ r ∧ r < most ∧ dlDraw [.ref 0, .d (.int most)] (c :: T) = .ok (.d (.int r)) (c' :: T) := by
  obtain ⟨ns, i, b, k, rfl⟩ := hc
  have hd : divOk most = true := divOk_lit h0 (by omega)
  have hg : decide (0 < most) = true := decide_eq_true h0
  have em : ∀ z : Int, 0 ≤ z % most ∧ z % most < most := fun z => ⟨Int.emod_nonneg _ (by omega), Int.emod_lt_of_pos _ h0⟩
  unfold dlDraw
  by_cases hb : 0 < b
  · refine ⟨b % most, .lst [.list (ns.map PyData.int), .int i, .int (b / most), .int (k + 1)], ⟨_, _, _, _, rfl⟩, (em _).1, (em _).2, ?_⟩
    simp only [fDef, fRet, fRetN, fSeq, fIfS, fTru, fBoo, fAndT, fOrT, fNotT, fAndV, fOrV, fNotV, fIf, fVar, fC, fCall, fCons, fNil, fBin, fUn, on2, on1, pk, pkW, toD, toW, wD, wsD, gate_true, noX_ok, viewsOf, onA, fCB, startG, finD, fIsi, Out.bind_ok, Out.bind_cond, noX_cond, fNext, fDrop, fSet, fSetM, fTup, fLst, fAsgT, bTup, bAll, bName, List.getElem?_cons_zero, List.getElem?_cons_succ, List.map_cons, List.map_nil, List.length_cons, List.length_nil, List.replicate, Nat.reduceAdd, Nat.reduceSub, Nat.zero_add, Nat.sub_self, List.append_nil, List.cons_append, List.nil_append, List.take_length, decide_true, gate_dec, okD, truD, List.set_cons_zero, List.set_cons_succ, cond_true, cond_false, gLen, gAdd, Dl.gSub, gNeg, gEq_int, gNe_int, gLt, gGt, gLe, gGe, cond_and_d, cond_and_d', cond_or_d, cond_or_t, cond_and_t, cond_id, isInt, isBool, isTup, isStr, isLst, gIx, fNoP, fPart, fChain, gList, gTuple, fSeqI, take_app, fComp, fYes, wipeG, atI_0, atI_1, atI_2, atI_3, Bool.and_true, Bool.true_and, Bool.and_false, Bool.false_and, Bool.or_true, Bool.true_or, Bool.or_false, Bool.false_or, Bool.not_true, Bool.not_false, lim, Nat.reduceLeDiff, Nat.reduceLT, cast_beq, Option.map_some, shaped_int, fSetSub, ixN_40, ixN_41, ixN_42, ixN_43, fUpd, uAppend, get_last, set_last, if_true, if_false, not_lt_self, cutL_toI, cutL_fromI, Bool.true_xor, Bool.false_xor, gAll_map, rngOk_lit, smallI_lit, divOk_lit, Int.cast_ofNat_Int, Int.natCast_zero, Int.natCast_one, Int.reduceToNat, Int.reduceNeg, Int.reduceLE, Int.reduceLT, Int.reduceAdd, Int.reduceSub, Int.reduceMul, Int.reducePow, Nat.reduceMul, Nat.reducePow, Nat.reduceBEq, dk, putSub, gSub2, gIn2, keyD, fExt, Option.map_some, Option.map_none, Int.reduceBEq, Int.reduceBNe, and_self, decide_false, List.take_succ_cons, List.take_zero, List.drop_succ_cons, List.drop_zero, Int.natAbs_one, hb, gInt, gMod, hg, gDiv, hd]
  · have key : ∀ z : Int, (decide (1000000000000000000 ≤ z) = true ∨ decide (1000000000000000000 ≤ z) = false) := fun z => by cases decide (1000000000000000000 ≤ z) <;> simp
    rcases ns with _ | ⟨n, ns⟩
    · simp only [fDef, fRet, fRetN, fSeq, fIfS, fTru, fBoo, fAndT, fOrT, fNotT, fAndV, fOrV, fNotV, fIf, fVar, fC, fCall, fCons, fNil, fBin, fUn, on2, on1, pk, pkW, toD, toW, wD, wsD, gate_true, noX_ok, viewsOf, onA, fCB, startG, finD, fIsi, Out.bind_ok, Out.bind_cond, noX_cond, fNext, fDrop, fSet, fSetM, fTup, fLst, fAsgT, bTup, bAll, bName, List.getElem?_cons_zero, List.getElem?_cons_succ, List.map_cons, List.map_nil, List.length_cons, List.length_nil, List.replicate, Nat.reduceAdd, Nat.reduceSub, Nat.zero_add, Nat.sub_self, List.append_nil, List.cons_append, List.nil_append, List.take_length, decide_true, gate_dec, okD, truD, List.set_cons_zero, List.set_cons_succ, cond_true, cond_false, gLen, gAdd, Dl.gSub, gNeg, gEq_int, gNe_int, gLt, gGt, gLe, gGe, cond_and_d, cond_and_d', cond_or_d, cond_or_t, cond_and_t, cond_id, isInt, isBool, isTup, isStr, isLst, gIx, fNoP, fPart, fChain, gList, gTuple, fSeqI, take_app, fComp, fYes, wipeG, atI_0, atI_1, atI_2, atI_3, Bool.and_true, Bool.true_and, Bool.and_false, Bool.false_and, Bool.or_true, Bool.true_or, Bool.or_false, Bool.false_or, Bool.not_true, Bool.not_false, lim, Nat.reduceLeDiff, Nat.reduceLT, cast_beq, Option.map_some, shaped_int, fSetSub, ixN_40, ixN_41, ixN_42, ixN_43, fUpd, uAppend, get_last, set_last, if_true, if_false, not_lt_self, cutL_toI, cutL_fromI, Bool.true_xor, Bool.false_xor, gAll_map, rngOk_lit, smallI_lit, divOk_lit, Int.cast_ofNat_Int, Int.natCast_zero, Int.natCast_one, Int.reduceToNat, Int.reduceNeg, Int.reduceLE, Int.reduceLT, Int.reduceAdd, Int.reduceSub, Int.reduceMul, Int.reducePow, Nat.reduceMul, Nat.reducePow, Nat.reduceBEq, dk, putSub, gSub2, gIn2, keyD, fExt, Option.map_some, Option.map_none, Int.reduceBEq, Int.reduceBNe, and_self, decide_false, List.take_succ_cons, List.take_zero, List.drop_succ_cons, List.drop_zero, Int.natAbs_one, hb, gInt, gMod, hg, gDiv, hd, gPow_1018, gMul, List.length_nil]
      exact ⟨_, .lst [.list (([] : List Int).map PyData.int), .int (i + 1), .int b, .int (k + 1)], ⟨[], _, _, _, rfl⟩, (em _).1, (em _).2, rfl⟩
    · have hl : (0 : Int) < (((n :: ns).map PyData.int).length : Int) := by simp
      obtain ⟨x, ex, hx⟩ := atI_pos (xs := (n :: ns).map PyData.int) (i := i % (((n :: ns).map PyData.int).length : Int)) (Int.emod_nonneg _ (by omega)) (Int.emod_lt_of_pos _ hl)
      obtain ⟨z, _, rfl⟩ := List.mem_map.mp hx
      generalize hL : (n :: ns).map PyData.int = L at *
      have hl' : decide (0 < (L.length : Int)) = true := decide_eq_true hl
      rcases key (if z < 0 then -z else z) with hk | hk
      · simp only [fDef, fRet, fRetN, fSeq, fIfS, fTru, fBoo, fAndT, fOrT, fNotT, fAndV, fOrV, fNotV, fIf, fVar, fC, fCall, fCons, fNil, fBin, fUn, on2, on1, pk, pkW, toD, toW, wD, wsD, gate_true, noX_ok, viewsOf, onA, fCB, startG, finD, fIsi, Out.bind_ok, Out.bind_cond, noX_cond, fNext, fDrop, fSet, fSetM, fTup, fLst, fAsgT, bTup, bAll, bName, List.getElem?_cons_zero, List.getElem?_cons_succ, List.map_cons, List.map_nil, List.length_cons, List.length_nil, List.replicate, Nat.reduceAdd, Nat.reduceSub, Nat.zero_add, Nat.sub_self, List.append_nil, List.cons_append, List.nil_append, List.take_length, decide_true, gate_dec, okD, truD, List.set_cons_zero, List.set_cons_succ, cond_true, cond_false, gLen, gAdd, Dl.gSub, gNeg, gEq_int, gNe_int, gLt, gGt, gLe, gGe, cond_and_d, cond_and_d', cond_or_d, cond_or_t, cond_and_t, cond_id, isInt, isBool, isTup, isStr, isLst, gIx, fNoP, fPart, fChain, gList, gTuple, fSeqI, take_app, fComp, fYes, wipeG, atI_0, atI_1, atI_2, atI_3, Bool.and_true, Bool.true_and, Bool.and_false, Bool.false_and, Bool.or_true, Bool.true_or, Bool.or_false, Bool.false_or, Bool.not_true, Bool.not_false, lim, Nat.reduceLeDiff, Nat.reduceLT, cast_beq, Option.map_some, shaped_int, fSetSub, ixN_40, ixN_41, ixN_42, ixN_43, fUpd, uAppend, get_last, set_last, if_true, if_false, not_lt_self, cutL_toI, cutL_fromI, Bool.true_xor, Bool.false_xor, gAll_map, rngOk_lit, smallI_lit, divOk_lit, Int.cast_ofNat_Int, Int.natCast_zero, Int.natCast_one, Int.reduceToNat, Int.reduceNeg, Int.reduceLE, Int.reduceLT, Int.reduceAdd, Int.reduceSub, Int.reduceMul, Int.reducePow, Nat.reduceMul, Nat.reducePow, Nat.reduceBEq, dk, putSub, gSub2, gIn2, keyD, fExt, Option.map_some, Option.map_none, Int.reduceBEq, Int.reduceBNe, and_self, decide_false, List.take_succ_cons, List.take_zero, List.drop_succ_cons, List.drop_zero, Int.natAbs_one, hb, gInt, gMod, hg, gDiv, hd, gPow_1018, gMul, hl', ex, gAbs, hk]
        exact ⟨_, _, ⟨n :: ns, _, _, _, by rw [hL]⟩, (em _).1, (em _).2, rfl⟩
      · simp only [fDef, fRet, fRetN, fSeq, fIfS, fTru, fBoo, fAndT, fOrT, fNotT, fAndV, fOrV, fNotV, fIf, fVar, fC, fCall, fCons, fNil, fBin, fUn, on2, on1, pk, pkW, toD, toW, wD, wsD, gate_true, noX_ok, viewsOf, onA, fCB, startG, finD, fIsi, Out.bind_ok, Out.bind_cond, noX_cond, fNext, fDrop, fSet, fSetM, fTup, fLst, fAsgT, bTup, bAll, bName, List.getElem?_cons_zero, List.getElem?_cons_succ, List.map_cons, List.map_nil, List.length_cons, List.length_nil, List.replicate, Nat.reduceAdd, Nat.reduceSub, Nat.zero_add, Nat.sub_self, List.append_nil, List.cons_append, List.nil_append, List.take_length, decide_true, gate_dec, okD, truD, List.set_cons_zero, List.set_cons_succ, cond_true, cond_false, gLen, gAdd, Dl.gSub, gNeg, gEq_int, gNe_int, gLt, gGt, gLe, gGe, cond_and_d, cond_and_d', cond_or_d, cond_or_t, cond_and_t, cond_id, isInt, isBool, isTup, isStr, isLst, gIx, fNoP, fPart, fChain, gList, gTuple, fSeqI, take_app, fComp, fYes, wipeG, atI_0, atI_1, atI_2, atI_3, Bool.and_true, Bool.true_and, Bool.and_false, Bool.false_and, Bool.or_true, Bool.true_or, Bool.or_false, Bool.false_or, Bool.not_true, Bool.not_false, lim, Nat.reduceLeDiff, Nat.reduceLT, cast_beq, Option.map_some, shaped_int, fSetSub, ixN_40, ixN_41, ixN_42, ixN_43, fUpd, uAppend, get_last, set_last, if_true, if_false, not_lt_self, cutL_toI, cutL_fromI, Bool.true_xor, Bool.false_xor, gAll_map, rngOk_lit, smallI_lit, divOk_lit, Int.cast_ofNat_Int, Int.natCast_zero, Int.natCast_one, Int.reduceToNat, Int.reduceNeg, Int.reduceLE, Int.reduceLT, Int.reduceAdd, Int.reduceSub, Int.reduceMul, Int.reducePow, Nat.reduceMul, Nat.reducePow, Nat.reduceBEq, dk, putSub, gSub2, gIn2, keyD, fExt, Option.map_some, Option.map_none, Int.reduceBEq, Int.reduceBNe, and_self, decide_false, List.take_succ_cons, List.take_zero, List.drop_succ_cons, List.drop_zero, Int.natAbs_one, hb, gInt, gMod, hg, gDiv, hd, gPow_1018, gMul, hl', ex, gAbs, hk]
        exact ⟨_, _, ⟨n :: ns, _, _, _, by rw [hL]⟩, (em _).1, (em _).2, rfl⟩
def dlOneOf : FD := fDef 2 (fRet (yIx (fVar 1) (fCall 2 dlDraw (fCons (fVar 0) (fCons (fCB gLen (fCons (fVar 1) (fNil))) (fNil))))))
theorem one_of_ev {c : Cell} {xs : List D} (T : Sto) (hc : StOk c) (h0 : 0 < xs.length) (h1 : xs.length ≤ 1000000) :
    ∃ x c', StOk c' ∧ x ∈ xs ∧ dlOneOf [.ref 0, .d (.list xs)] (c :: T) = .ok (.d x) (c' :: T) := by
  obtain ⟨r, c', hc', h2, h3, e⟩ := draw_ev (most := (xs.length : Int)) T hc (by omega) (by omega)
  obtain ⟨x, ex, hx⟩ := atI_pos (xs := xs) (i := r) h2 h3
  refine ⟨x, c', hc', hx, ?_⟩
  unfold dlOneOf
  simp only [fDef, fRet, fRetN, fSeq, fIfS, fTru, fBoo, fAndT, fOrT, fNotT, fAndV, fOrV, fNotV, fIf, fVar, fC, fCall, fCons, fNil, fBin, fUn, on2, on1, pk, pkW, toD, toW, wD, wsD, gate_true, noX_ok, viewsOf, onA, fCB, startG, finD, fIsi, Out.bind_ok, Out.bind_cond, noX_cond, fNext, fDrop, fSet, fSetM, fTup, fLst, fAsgT, bTup, bAll, bName, List.getElem?_cons_zero, List.getElem?_cons_succ, List.map_cons, List.map_nil, List.length_cons, List.length_nil, List.replicate, Nat.reduceAdd, Nat.reduceSub, Nat.zero_add, Nat.sub_self, List.append_nil, List.cons_append, List.nil_append, List.take_length, decide_true, gate_dec, okD, truD, List.set_cons_zero, List.set_cons_succ, cond_true, cond_false, gLen, gAdd, Dl.gSub, gNeg, gEq_int, gNe_int, gLt, gGt, gLe, gGe, cond_and_d, cond_and_d', cond_or_d, cond_or_t, cond_and_t, cond_id, isInt, isBool, isTup, isStr, isLst, gIx, fNoP, fPart, fChain, gList, gTuple, fSeqI, take_app, fComp, fYes, wipeG, atI_0, atI_1, atI_2, atI_3, Bool.and_true, Bool.true_and, Bool.and_false, Bool.false_and, Bool.or_true, Bool.true_or, Bool.or_false, Bool.false_or, Bool.not_true, Bool.not_false, lim, Nat.reduceLeDiff, Nat.reduceLT, cast_beq, Option.map_some, shaped_int, fSetSub, ixN_40, ixN_41, ixN_42, ixN_43, fUpd, uAppend, get_last, set_last, if_true, if_false, not_lt_self, cutL_toI, cutL_fromI, Bool.true_xor, Bool.false_xor, gAll_map, rngOk_lit, smallI_lit, divOk_lit, Int.cast_ofNat_Int, Int.natCast_zero, Int.natCast_one, Int.reduceToNat, Int.reduceNeg, Int.reduceLE, Int.reduceLT, Int.reduceAdd, Int.reduceSub, Int.reduceMul, Int.reducePow, Nat.reduceMul, Nat.reducePow, Nat.reduceBEq, dk, putSub, gSub2, gIn2, keyD, fExt, Option.map_some, Option.map_none, Int.reduceBEq, Int.reduceBNe, and_self, decide_false, List.take_succ_cons, List.take_zero, List.drop_succ_cons, List.drop_zero, Int.natAbs_one, e, ex]
def dlShuf : FD := fDef 4 (fSeq (fSetM 2 (fLst (fNil))) (fSeq (fFor (fSeqI (fVar 1)) (bName 3) (fUpd uInsert (fVar 2) (fCons (fCall 2 dlDraw (fCons (fVar 0) (fCons (xAdd (fCB gLen (fCons (fVar 2) (fNil))) (fC (.int 1))) (fNil)))) (fCons (fVar 3) fNil)))) (fRet (fVar 2))))
theorem shuf_loop (T : Sto) (y : Option Wv) : ∀ (items acc : List D) (c : Cell) (x3 : Option Wv), StOk c → acc.length + items.length ≤ 1000 →
    ∃ acc' c' y3, StOk c' ∧ acc'.length = acc.length + items.length ∧
     forL (bName 3) (fUpd uInsert (fVar 2) (fCons (fCall 2 dlDraw (fCons (fVar 0) (fCons (xAdd (fCB gLen (fCons (fVar 2) (fNil))) (fC (.int 1))) (fNil)))) (fCons (fVar 3) fNil))) items [some (.ref 0), y, some (.ref (T.length + 1)), x3] (c :: (T ++ [.lst acc]))
      = .ok (.nx [some (.ref 0), y, some (.ref (T.length + 1)), y3]) (c' :: (T ++ [.lst acc']))
  | [], acc, c, x3, hc, hl => ⟨acc, c, x3, hc, by simp, rfl⟩
  | x :: items, acc, c, x3, hc, hl => by
    simp only [List.length_cons] at hl
    obtain ⟨r, c1, hc1, h2, h3, e⟩ := draw_ev (most := (acc.length : Int) + 1) (T ++ [.lst acc]) hc (by omega) (by omega)
    have hr : acc.length < 1000000 ∧ 0 ≤ r ∧ r.natAbs ≤ 1000000 := ⟨by omega, h2, by omega⟩
    obtain ⟨acc', c', y3, hc', hl', e'⟩ := shuf_loop T y items (acc.take r.toNat ++ [x] ++ acc.drop r.toNat) c1 (some (.d x)) hc1 (by simp; omega)
    refine ⟨acc', c', y3, hc', by rw [hl']; simp; omega, ?_⟩
    simp only [forL, bName]
    simp only [fDef, fRet, fRetN, fSeq, fIfS, fTru, fBoo, fAndT, fOrT, fNotT, fAndV, fOrV, fNotV, fIf, fVar, fC, fCall, fCons, fNil, fBin, fUn, on2, on1, pk, pkW, toD, toW, wD, wsD, gate_true, noX_ok, viewsOf, onA, fCB, startG, finD, fIsi, Out.bind_ok, Out.bind_cond, noX_cond, fNext, fDrop, fSet, fSetM, fTup, fLst, fAsgT, bTup, bAll, bName, List.getElem?_cons_zero, List.getElem?_cons_succ, List.map_cons, List.map_nil, List.length_cons, List.length_nil, List.replicate, Nat.reduceAdd, Nat.reduceSub, Nat.zero_add, Nat.sub_self, List.append_nil, List.cons_append, List.nil_append, List.take_length, decide_true, gate_dec, okD, truD, List.set_cons_zero, List.set_cons_succ, cond_true, cond_false, gLen, gAdd, Dl.gSub, gNeg, gEq_int, gNe_int, gLt, gGt, gLe, gGe, cond_and_d, cond_and_d', cond_or_d, cond_or_t, cond_and_t, cond_id, isInt, isBool, isTup, isStr, isLst, gIx, fNoP, fPart, fChain, gList, gTuple, fSeqI, take_app, fComp, fYes, wipeG, atI_0, atI_1, atI_2, atI_3, Bool.and_true, Bool.true_and, Bool.and_false, Bool.false_and, Bool.or_true, Bool.true_or, Bool.or_false, Bool.false_or, Bool.not_true, Bool.not_false, lim, Nat.reduceLeDiff, Nat.reduceLT, cast_beq, Option.map_some, shaped_int, fSetSub, ixN_40, ixN_41, ixN_42, ixN_43, fUpd, uAppend, get_last, set_last, if_true, if_false, not_lt_self, cutL_toI, cutL_fromI, Bool.true_xor, Bool.false_xor, gAll_map, rngOk_lit, smallI_lit, divOk_lit, Int.cast_ofNat_Int, Int.natCast_zero, Int.natCast_one, Int.reduceToNat, Int.reduceNeg, Int.reduceLE, Int.reduceLT, Int.reduceAdd, Int.reduceSub, Int.reduceMul, Int.reducePow, Nat.reduceMul, Nat.reducePow, Nat.reduceBEq, dk, putSub, gSub2, gIn2, keyD, fExt, Option.map_some, Option.map_none, Int.reduceBEq, Int.reduceBNe, and_self, decide_false, List.take_succ_cons, List.take_zero, List.drop_succ_cons, List.drop_zero, Int.natAbs_one, e, uInsert, hr]
    exact e'
theorem shuffled_ev {c : Cell} {xs : List D} (T : Sto) (hc : StOk c) (h1 : xs.length ≤ 1000) :
    ∃ ys c', StOk c' ∧ ys.length = xs.length ∧ dlShuf [.ref 0, .d (.list xs)] (c :: T) = .ok (.new ys) (c' :: T) := by
  obtain ⟨ys, c', y3, hc', hl, e⟩ := shuf_loop T (some (.d (.list xs))) xs [] c none hc (by simpa using h1)
  refine ⟨ys, c', hc', by simpa using hl, ?_⟩
  unfold dlShuf
  simp only [fDef, fRet, fRetN, fSeq, fIfS, fTru, fBoo, fAndT, fOrT, fNotT, fAndV, fOrV, fNotV, fIf, fVar, fC, fCall, fCons, fNil, fBin, fUn, on2, on1, pk, pkW, toD, toW, wD, wsD, gate_true, noX_ok, viewsOf, onA, fCB, startG, finD, fIsi, Out.bind_ok, Out.bind_cond, noX_cond, fNext, fDrop, fSet, fSetM, fTup, fLst, fAsgT, bTup, bAll, bName, List.getElem?_cons_zero, List.getElem?_cons_succ, List.map_cons, List.map_nil, List.length_cons, List.length_nil, List.replicate, Nat.reduceAdd, Nat.reduceSub, Nat.zero_add, Nat.sub_self, List.append_nil, List.cons_append, List.nil_append, List.take_length, decide_true, gate_dec, okD, truD, List.set_cons_zero, List.set_cons_succ, cond_true, cond_false, gLen, gAdd, Dl.gSub, gNeg, gEq_int, gNe_int, gLt, gGt, gLe, gGe, cond_and_d, cond_and_d', cond_or_d, cond_or_t, cond_and_t, cond_id, isInt, isBool, isTup, isStr, isLst, gIx, fNoP, fPart, fChain, gList, gTuple, fSeqI, take_app, fComp, fYes, wipeG, atI_0, atI_1, atI_2, atI_3, Bool.and_true, Bool.true_and, Bool.and_false, Bool.false_and, Bool.or_true, Bool.true_or, Bool.or_false, Bool.false_or, Bool.not_true, Bool.not_false, lim, Nat.reduceLeDiff, Nat.reduceLT, cast_beq, Option.map_some, shaped_int, fSetSub, ixN_40, ixN_41, ixN_42, ixN_43, fUpd, uAppend, get_last, set_last, if_true, if_false, not_lt_self, cutL_toI, cutL_fromI, Bool.true_xor, Bool.false_xor, gAll_map, rngOk_lit, smallI_lit, divOk_lit, Int.cast_ofNat_Int, Int.natCast_zero, Int.natCast_one, Int.reduceToNat, Int.reduceNeg, Int.reduceLE, Int.reduceLT, Int.reduceAdd, Int.reduceSub, Int.reduceMul, Int.reducePow, Nat.reduceMul, Nat.reducePow, Nat.reduceBEq, dk, putSub, gSub2, gIn2, keyD, fExt, Option.map_some, Option.map_none, Int.reduceBEq, Int.reduceBNe, and_self, decide_false, List.take_succ_cons, List.take_zero, List.drop_succ_cons, List.drop_zero, Int.natAbs_one, fFor, e]
end Dl
/-! Dl12: more rows for computing. -/
namespace Dl
open PySem PySem.Spec PyProof.Rows L2
/-- a filter, then what is told of those that stay -/
theorem compL_filterJ {α : Type} {f : α → D} {sg : Sg} {i : Nat} {ft : FT} {fe : FE} {p : α → Bool} {g : α → D} {S : Sto} : ∀ {xs : List α}, (∀ x ∈ xs, ft (sg.set i (some (.d (f x)))) S = .ok (p x) S ∧ (p x = true → fe (sg.set i (some (.d (f x)))) S = .ok (.d (g x)) S)) →
    compL sg (bName i) ft fe (xs.map f) S = .ok ((xs.filter p).map g) S
  | [], _ => rfl
  | x :: xs, h => by
    obtain ⟨h0, h1⟩ := h x (by simp)
    have h2 := compL_filterJ (xs := xs) fun y hy => h y (by simp [hy])
    simp only [List.map_cons, compL, bName, h0, noX_ok, Out.bind_ok, List.filter_cons]
    cases hp : p x with
    | true => simp only [h1 hp, cond_true, noX_ok, Out.bind_ok, toD, h2]; rfl
    | false => simp only [cond_false, h2]; rfl
theorem compL_mapJ {α : Type} {f : α → D} {sg : Sg} {i : Nat} {fe : FE} {g : α → D} {S : Sto} {xs : List α} (h : ∀ x ∈ xs, fe (sg.set i (some (.d (f x)))) S = .ok (.d (g x)) S) : compL sg (bName i) fYes fe (xs.map f) S = .ok (xs.map g) S := by
  have q := compL_filterJ (ft := fYes) (p := fun _ => true) (f := f) (g := g) (sg := sg) (i := i) (fe := fe) (S := S) (xs := xs) fun x hx => ⟨rfl, fun _ => h x hx⟩
  rw [q, List.filter_eq_self.mpr fun _ _ => rfl]
/-- the same where the element is a list that is made new -/
theorem compL_mapN {α : Type} {f : α → D} {sg : Sg} {i : Nat} {fe : FE} {g : α → List D} {S : Sto} : ∀ {xs : List α}, (∀ x ∈ xs, fe (sg.set i (some (.d (f x)))) S = .ok (.new (g x)) S) → compL sg (bName i) fYes fe (xs.map f) S = .ok (xs.map fun x => .list (g x)) S
  | [], _ => rfl
  | x :: xs, h => by
    have h1 := h x (by simp)
    have h2 := compL_mapN (xs := xs) fun y hy => h y (by simp [hy])
    simp only [List.map_cons, compL, bName, fYes, h1, noX_ok, Out.bind_ok, cond_true, toD, h2]
theorem gAny_map {α : Type} (S : Sto) (p : α → Bool) (xs : List α) : gAny S [.list (xs.map fun x => .bool (p x))] = .ok (.d (.bool (xs.any p))) S := by
  simp only [gAny, boolsOf_mapF]
  rw [List.any_map]; rfl
end Dl
/-! Dl13: data of a bounded depth and width. -/
namespace Dl
open PySem PySem.Spec PyProof.Rows L2
/-- n: the depth, w: the width of lists, tuples and texts -/
inductive Go (w : Nat) : Nat → D → Prop
  | non {n} : Go w n .none
  | bool {n} (b : Bool) : Go w n (.bool b)
  | int {n} (i : Int) : Go w n (.int i)
  | str {n} {x : Str} : PyData.strOk x = true → Go w n (.str x)
  | tup {n} {ds : List D} : ds.length ≤ w → (∀ d ∈ ds, Go w n d) → Go w (n + 1) (.tuple ds)
  | lst {n} {ds : List D} : ds.length ≤ w → (∀ d ∈ ds, Go w n d) → Go w (n + 1) (.list ds)
theorem Go.mono {w w' : Nat} (hw : w ≤ w') : ∀ {n n' : Nat} {d : D}, n ≤ n' → Go w n d → Go w' n' d
  | _, _, _, _, .non => .non
  | _, _, _, _, .bool b => .bool b
  | _, _, _, _, .int i => .int i
  | _, _, _, _, .str h => .str h
  | _, n' + 1, _, h, .tup l k => .tup (Nat.le_trans l hw) fun d hd => Go.mono hw (Nat.le_of_succ_le_succ h) (k d hd)
  | _, n' + 1, _, h, .lst l k => .lst (Nat.le_trans l hw) fun d hd => Go.mono hw (Nat.le_of_succ_le_succ h) (k d hd)
theorem layAll_of {ds : List D} (h : ∀ d ∈ ds, PyData.canLay0 d = true) : PyData.canLayAll0 ds = true := by
  induction ds with
  | nil => rfl
  | cons d ds ih => simp only [PyData.canLayAll0, h d (by simp), ih fun e he => h e (by simp [he]), Bool.and_self]
theorem depthAll_of {n : Nat} {ds : List D} (h : ∀ d ∈ ds, PyData.depth d ≤ n) : PyData.depthAll ds ≤ n := by
  induction ds with
  | nil => exact Nat.zero_le _
  | cons d ds ih =>
    simp only [PyData.depthAll]
    exact Nat.max_le.mpr ⟨h d (by simp), ih fun e he => h e (by simp [he])⟩
theorem Go.lay {w : Nat} : ∀ {n : Nat} {d : D}, Go w n d → PyData.canLay0 d = true ∧ PyData.depth d ≤ n
  | _, _, .non => ⟨rfl, Nat.zero_le _⟩
  | _, _, .bool b => ⟨rfl, Nat.zero_le _⟩
  | _, _, .int i => ⟨rfl, Nat.zero_le _⟩
  | _, _, .str h => ⟨by simpa [PyData.canLay0] using h, by simp [PyData.depth]⟩
  | _, _, .tup _ k => ⟨by
      simp only [PyData.canLay0]
      exact layAll_of fun d hd => (Go.lay (k d hd)).1, by
      simp only [PyData.depth]
      exact Nat.succ_le_succ (depthAll_of fun d hd => (Go.lay (k d hd)).2)⟩
  | _, _, .lst _ k => ⟨by
      simp only [PyData.canLay0]
      exact layAll_of fun d hd => (Go.lay (k d hd)).1, by
      simp only [PyData.depth]
      exact Nat.succ_le_succ (depthAll_of fun d hd => (Go.lay (k d hd)).2)⟩
theorem Go.shaped {w n : Nat} {d : D} (h : Go w n d) (hn : n ≤ 64) : SeqAt.shaped d = true := by
  obtain ⟨h1, h2⟩ := Go.lay h
  simp only [SeqAt.shaped, h1, Bool.true_and]
  exact decide_eq_true (by omega)
theorem Go.elems {w n : Nat} {ds : List D} (h : Go w n (.tuple ds)) : ds.length ≤ w ∧ ∀ d ∈ ds, Go w (n - 1) d := by
  cases h with
  | tup l k => exact ⟨l, k⟩
end Dl
namespace Dl
open PySem PySem.Spec PyProof.Rows L2
theorem strOk_of (s : String) : PyData.strOk (Str.ofString s) = true := by
  rw [Str.ofString_eq_toList]
  simp only [PyData.strOk, List.all_toArray, List.all_map, List.all_eq_true, Function.comp]
  intro c _
  have h := c.valid
  apply decide_eq_true
  rcases h with h | h
  · exact Nat.lt_trans h (by decide)
  · exact h.2
end Dl
/-! Dl14: what a run gives, as a wish: W o p says that o ends well and p holds of what it gives. -/
namespace Dl
open PySem PySem.Spec PyProof.Rows L2
/-- what follows, out of simp's sight (simp walks into no instance) -/
class KP (α : Type) where
  p : α → Sto → Prop
class KB (α β : Type) where
  f : α → Sto → Out β
def Out.bd {α β : Type} (o : Out α) [k : KB α β] : Out β := o.bind k.f
def Wi {α : Type} (o : Out α) [k : KP α] : Prop := o.wp k.p (fun _ _ => False)
abbrev W {α : Type} (o : Out α) (p : α → Sto → Prop) : Prop := @Wi α o ⟨p⟩
theorem bind_bd {α β : Type} (o : Out α) (f : α → Sto → Out β) : o.bind f = @Out.bd α β o ⟨f⟩ := by cases o <;> rfl
theorem bd_ok {α β : Type} (a : α) (S : Sto) (f : α → Sto → Out β) : @Out.bd α β (.ok a S) ⟨f⟩ = f a S := (bind_bd (.ok a S) f).symm
theorem bd_cond {α β : Type} (b : Bool) (x y : Out α) (f : α → Sto → Out β) : @Out.bd α β (cond b x y) ⟨f⟩ = cond b (@Out.bd α β x ⟨f⟩) (@Out.bd α β y ⟨f⟩) := by cases b <;> rfl
theorem W_ok {α : Type} (a : α) (S : Sto) (p : α → Sto → Prop) : @Wi α (.ok a S) ⟨p⟩ = p a S := rfl
theorem W_bd {α β : Type} (o : Out α) (f : α → Sto → Out β) (p : β → Sto → Prop) : @Wi β (@Out.bd α β o ⟨f⟩) ⟨p⟩ = @Wi α o ⟨fun a S => @Wi β (f a S) ⟨p⟩⟩ := by cases o <;> rfl
theorem W_bind {α β : Type} (o : Out α) (f : α → Sto → Out β) (p : β → Sto → Prop) : @Wi β (o.bind f) ⟨p⟩ = @Wi α o ⟨fun a S => @Wi β (f a S) ⟨p⟩⟩ := by cases o <;> rfl
theorem W_noX {α : Type} (o : Out α) (p : α → Sto → Prop) : @Wi α (noX o) ⟨p⟩ = @Wi α o ⟨p⟩ := by cases o <;> rfl
theorem W.bind {α β : Type} {o : Out α} {f : α → Sto → Out β} {p : β → Sto → Prop} (h : W o fun a S => W (f a S) p) : W (o.bind f) p := by cases o <;> exact h
theorem W.noX {α : Type} {o : Out α} {p : α → Sto → Prop} (h : W o p) : W (Dl.noX o) p := by cases o <;> exact h
theorem W.mono {α : Type} {o : Out α} {p q : α → Sto → Prop} (h : W o p) (k : ∀ a S, p a S → q a S) : W o q := by
  cases o with
  | ok a S => exact k a S h
  | exc e S => exact h.elim
  | stuck => exact h.elim
theorem W.eq {α : Type} {o : Out α} {p : α → Sto → Prop} (h : W o p) : ∃ a S, o = .ok a S ∧ p a S := by
  cases o with
  | ok a S => exact ⟨a, S, rfl, h⟩
  | exc e S => exact h.elim
  | stuck => exact h.elim
theorem W.of {α : Type} {o : Out α} {p : α → Sto → Prop} {a : α} {S : Sto} (e : o = .ok a S) (h : p a S) : W o p := by rw [e]; exact h
theorem W.cond {α : Type} {b : Bool} {x y : Out α} {p : α → Sto → Prop} (h1 : b = true → W x p) (h2 : b = false → W y p) : W (cond b x y) p := by
  cases b
  · exact h2 rfl
  · exact h1 rfl
theorem W.dec {α : Type} {c : Prop} [Decidable c] {x y : Out α} {p : α → Sto → Prop} (h1 : c → W x p) (h2 : ¬ c → W y p) : W (_root_.cond (decide c) x y) p := by
  by_cases h : c
  · rw [decide_eq_true h]; exact h1 h
  · rw [decide_eq_false h]; exact h2 h
theorem W.beq {α : Type} {i j : Int} {x y : Out α} {p : α → Sto → Prop} (h1 : i = j → W x p) (h2 : i ≠ j → W y p) : W (_root_.cond (i == j) x y) p := by
  by_cases h : i = j
  · rw [beq_iff_eq.mpr h]; exact h1 h
  · rw [beq_eq_false_iff_ne.mpr h]; exact h2 h
theorem uAppend_ok {xs : List D} {d : D} (h : xs.length < 1000000) : uAppend xs [d] = some (xs ++ [d]) := by
  unfold uAppend; exact if_pos h
theorem uInsert_ok {xs : List D} {d : D} {i : Int} (h : xs.length < 1000000) (h0 : 0 ≤ i) (h1 : i ≤ 1000000) : uInsert xs [.int i, d] = some (xs.take i.toNat ++ [d] ++ xs.drop i.toNat) := by
  unfold uInsert; exact if_pos ⟨h, h0, by omega⟩
/-- a truth value told -/
def boolR {α : Type} (x : R) (f : Bool → Out α) : Out α := match x with
  | .d (.bool b) => f b
  | _ => .stuck
theorem boolR_b {α : Type} (b : Bool) (f : Bool → Out α) : boolR (.d (.bool b)) f = f b := rfl
theorem fChainE (g g' : Sto → R → R → Out R) (fa fb fc : FE) (sg : Sg) (S : Sto) : fChain g g' fa fb fc sg S = (fa sg S).bind fun ra S1 => (fb sg S1).bind fun rb S2 => (g S2 ra rb).bind fun x S3 => boolR x fun b => cond b ((fc sg S3).bind fun rc S4 => g' S4 rb rc) (.ok (.d (.bool false)) S3) := by
  unfold fChain
  congr 1; funext ra S1
  congr 1; funext rb S2
  congr 1; funext x S3
  unfold boolR
  split
  · rfl
  · rfl
  · rename_i h1 h2
    split
    · rename_i b
      cases b
      · exact absurd rfl h2
      · exact absurd rfl h1
    · rfl
theorem eqv_str (x y : Str) : PyData.eqv (.str x) (.str y) = (x == y) := by simp [PyData.eqv]
theorem ofString_beq (a b : String) : (Str.ofString a == Str.ofString b) = (a == b) := by
  by_cases h : a = b
  · subst h; simp
  · rw [beq_eq_false_iff_ne.mpr h]
    apply beq_eq_false_iff_ne.mpr
    intro e
    apply h
    rw [Str.ofString_eq_toList, Str.ofString_eq_toList] at e
    have e := congrArg (fun s : Str => s.cps.toList) e
    simp only at e
    have inj : ∀ l k : List Char, l.map Char.toNat = k.map Char.toNat → l = k := by
      intro l
      induction l with
      | nil => intro k h; cases k with
        | nil => rfl
        | cons => simp at h
      | cons x l ih =>
        intro k h
        cases k with
        | nil => simp at h
        | cons y k =>
          simp only [List.map_cons, List.cons.injEq] at h
          rw [ih k h.2, Char.toNat_inj.mp h.1]
    exact String.toList_inj.mp (inj _ _ e)
theorem ofString_bne (a b : String) : (Str.ofString a != Str.ofString b) = (a != b) := by
  simp only [bne, ofString_beq]
theorem shaped_strS (s : String) : SeqAt.shaped (.str (Str.ofString s)) = true := by
  simp [SeqAt.shaped, PyData.canLay0, strOk_of, PyData.depth]
theorem cast_beqL (a n : Nat) : (((a : Nat) : Int) == (no_index (OfNat.ofNat n) : Int)) = (a == n) := cast_beq a n
theorem cast_bneL (a n : Nat) : (((a : Nat) : Int) != (no_index (OfNat.ofNat n) : Int)) = (a != n) := by
  show (!_) = (!_)
  rw [cast_beqL]
theorem gate_and {α : Type} (b c : Bool) (o : Out α) : gate (b && c) o = gate b (gate c o) := by cases b <;> cases c <;> rfl
theorem rangeD_len (lo : Int) (n : Nat) : (rangeD lo n).length = n := by simp [rangeD]
theorem W_gate {α : Type} {b : Bool} {o : Out α} {p : α → Sto → Prop} (hb : b = true) (h : W o p) : W (gate b o) p := by subst hb; exact h
/-- a for: I of what is left, the names, the store -/
theorem W.for {b : FB} {body : FS} {p : Fl → Sto → Prop} (I : List D → Sg → Sto → Prop) {xs : List D} {sg : Sg} {S : Sto} (h0 : I xs sg S)
    (hs : ∀ x xs sg S, I (x :: xs) sg S → ∃ sg1, b x sg = some sg1 ∧ W (body sg1 S) fun fl S' => match fl with
      | .nx g => I xs g S'
      | .ct g => I xs g S'
      | .bk g => p (.nx g) S'
      | .rt r => p (.rt r) S')
    (he : ∀ sg S, I [] sg S → p (.nx sg) S) : W (forL b body xs sg S) p := by
  induction xs generalizing sg S with
  | nil => exact he sg S h0
  | cons x xs ih =>
    obtain ⟨sg1, e, h⟩ := hs x xs sg S h0
    simp only [forL, e]
    refine W.bind (h.mono fun fl S' q => ?_)
    cases fl with
    | nx g => exact ih q
    | ct g => exact ih q
    | bk g => exact q
    | rt r => exact q
theorem W.forN {i : Nat} {body : FS} {p : Fl → Sto → Prop} (I : List D → Sg → Sto → Prop) {xs : List D} {sg : Sg} {S : Sto} (h0 : I xs sg S)
    (hs : ∀ x xs sg S, I (x :: xs) sg S → W (body (sg.set i (some (.d x))) S) fun fl S' => match fl with
      | .nx g => I xs g S'
      | .ct g => I xs g S'
      | .bk g => p (.nx g) S'
      | .rt r => p (.rt r) S')
    (he : ∀ sg S, I [] sg S → p (.nx sg) S) : W (forL (bName i) body xs sg S) p :=
  W.for I h0 (fun x xs sg S h => ⟨_, rfl, hs x xs sg S h⟩) he
/-- a for over range -/
theorem W.forR {i : Nat} {body : FS} {p : Fl → Sto → Prop} (I : Nat → Sg → Sto → Prop) {lo : Int} {n : Nat} {sg : Sg} {S : Sto} (h0 : I 0 sg S)
    (hs : ∀ k sg S, k < n → I k sg S → W (body (sg.set i (some (.d (.int (lo + k))))) S) fun fl S' => match fl with
      | .nx g => I (k + 1) g S'
      | .ct g => I (k + 1) g S'
      | .bk g => p (.nx g) S'
      | .rt r => p (.rt r) S')
    (he : ∀ sg S, I n sg S → p (.nx sg) S) : W (forL (bName i) body (rangeD lo n) sg S) p := by
  refine W.forN (fun xs sg S => ∃ k, k ≤ n ∧ xs = rangeD (lo + k) (n - k) ∧ I k sg S) ⟨0, Nat.zero_le _, by simp, h0⟩ ?_ ?_
  · rintro x xs sg S ⟨k, hk, e, h⟩
    have hk' : k < n := by
      rcases Nat.lt_or_ge k n with h | h
      · exact h
      · rw [show n - k = 0 by omega, rangeD_zero] at e; cases e
    rw [show n - k = (n - (k + 1)) + 1 by omega, rangeD_succ] at e
    cases e
    refine (hs k sg S hk' h).mono fun fl S' q => ?_
    have q' : ∀ g, I (k + 1) g S' → ∃ k', k' ≤ n ∧ rangeD (lo + k + 1) (n - (k + 1)) = rangeD (lo + (k' : Nat)) (n - k') ∧ I k' g S' := fun g q => ⟨k + 1, hk', by rw [show lo + (k : Int) + 1 = lo + ((k + 1 : Nat) : Int) by omega], q⟩
    cases fl with
    | nx g => exact q' g q
    | ct g => exact q' g q
    | bk g => exact q
    | rt r => exact q
  · rintro sg S ⟨k, hk, e, h⟩
    have : k = n := by
      rcases Nat.lt_or_ge k n with h | h
      · rw [show n - k = (n - (k + 1)) + 1 by omega, rangeD_succ] at e; cases e
      · omega
    subst this
    exact he sg S h
/-- a comprehension: I of what is made, what is left, the store -/
theorem W.comp {sg : Sg} {b : FB} {ft : FT} {fe : FE} {p : List D → Sto → Prop} (I : List D → List D → Sto → Prop) {xs : List D} {S : Sto} (h0 : I [] xs S)
    (hs : ∀ ds x xs S, I ds (x :: xs) S → ∃ sg1, b x sg = some sg1 ∧ W (ft sg1 S) fun c S1 => match c with
      | true => W (fe sg1 S1) fun r S2 => W (toD r S2) fun d S3 => I (ds ++ [d]) xs S3
      | false => I ds xs S1)
    (he : ∀ ds S, I ds [] S → p ds S) : W (compL sg b ft fe xs S) p := by
  have key : ∀ xs ds S, I ds xs S → W (compL sg b ft fe xs S) fun ys S' => p (ds ++ ys) S' := by
    intro xs
    induction xs with
    | nil => intro ds S h; show p (ds ++ []) S; rw [List.append_nil]; exact he ds S h
    | cons x xs ih =>
      intro ds S h
      obtain ⟨sg1, e, h⟩ := hs ds x xs S h
      simp only [compL, e]
      refine W.bind (W.noX (h.mono fun c S1 q => ?_))
      cases c with
      | false => exact ih ds S1 q
      | true =>
        simp only [cond_true]
        refine W.bind (W.noX (W.mono q fun r S2 q => W.bind (W.mono q fun d S3 q => W.bind ((ih _ S3 q).mono fun ys S4 q => ?_))))
        have q : p (ds ++ [d] ++ ys) S4 := q
        show p (ds ++ d :: ys) S4
        simpa using q
  exact (key xs [] S h0).mono fun ys S' q => by simpa using q
/-- a comprehension without a test over one name -/
theorem W.compN {sg : Sg} {i : Nat} {fe : FE} {p : List D → Sto → Prop} (I : List D → List D → Sto → Prop) {xs : List D} {S : Sto} (h0 : I [] xs S)
    (hs : ∀ ds x xs S, I ds (x :: xs) S → W (fe (sg.set i (some (.d x))) S) fun r S2 => W (toD r S2) fun d S3 => I (ds ++ [d]) xs S3)
    (he : ∀ ds S, I ds [] S → p ds S) : W (compL sg (bName i) fYes fe xs S) p :=
  W.comp I h0 (fun ds x xs S h => ⟨_, rfl, hs ds x xs S h⟩) he
/-- draws: a comprehension each of whose parts is a datum with q, the store's first cell being the draws' -/
theorem W.compDraw {sg : Sg} {i : Nat} {fe : FE} {p : List D → Sto → Prop} {T : Sto} (q : D → Prop) {xs : List D} {c : Cell} (hc : StOk c)
    (hs : ∀ x c, x ∈ xs → StOk c → W (fe (sg.set i (some (.d x))) (c :: T)) fun r S2 => ∃ d c', r = .d d ∧ S2 = c' :: T ∧ StOk c' ∧ q d)
    (he : ∀ ds c', ds.length = xs.length → (∀ d ∈ ds, q d) → StOk c' → p ds (c' :: T)) : W (compL sg (bName i) fYes fe xs (c :: T)) p := by
  refine W.compN (fun ds ys S => ∃ zs c, zs ++ ys = xs ∧ ds.length = zs.length ∧ (∀ d ∈ ds, q d) ∧ StOk c ∧ S = c :: T) ⟨[], c, rfl, rfl, by simp, hc, rfl⟩ ?_ ?_
  · rintro ds x ys S ⟨zs, c, e, h1, h2, h3, rfl⟩
    refine (hs x c (by rw [← e]; simp) h3).mono ?_
    rintro r S2 ⟨d, c', rfl, rfl, g1, g2⟩
    refine ⟨zs ++ [x], c', by simpa using e, by simp [h1], ?_, g1, rfl⟩
    intro y hy
    rcases List.mem_append.mp hy with hy | hy
    · exact h2 y hy
    · rw [List.mem_singleton.mp hy]; exact g2
  · rintro ds S ⟨zs, c, e, h1, h2, h3, rfl⟩
    rw [List.append_nil] at e
    subst e
    exact he ds c h1 h2 h3
theorem W_draw {c : Cell} {most : Int} {T : Sto} {p : R → Sto → Prop} (hc : StOk c) (h0 : 0 < most) (h1 : most ≤ 1000000) (h : ∀ r c', StOk c' → 0 ≤ r → r < most → p (.d (.int r)) (c' :: T)) :
    W (dlDraw [.ref 0, .d (.int most)] (c :: T)) p := by
  obtain ⟨r, c', g1, g2, g3, e⟩ := draw_ev T hc h0 h1
  exact .of e (h r c' g1 g2 g3)
theorem W_one {c : Cell} {xs : List D} {T : Sto} {p : R → Sto → Prop} (hc : StOk c) (h0 : 0 < xs.length) (h1 : xs.length ≤ 1000000) (h : ∀ x c', StOk c' → x ∈ xs → p (.d x) (c' :: T)) :
    W (dlOneOf [.ref 0, .d (.list xs)] (c :: T)) p := by
  obtain ⟨x, c', g1, g2, e⟩ := one_of_ev T hc h0 h1
  exact .of e (h x c' g1 g2)
theorem W_shuf {c : Cell} {xs : List D} {T : Sto} {p : R → Sto → Prop} (hc : StOk c) (h1 : xs.length ≤ 1000) (h : ∀ ys c', StOk c' → ys.length = xs.length → p (.new ys) (c' :: T)) :
    W (dlShuf [.ref 0, .d (.list xs)] (c :: T)) p := by
  obtain ⟨ys, c', g1, g2, e⟩ := shuffled_ev T hc h1
  exact .of e (h ys c' g1 g2)
end Dl
/-! Dl17: instances of the program's own classes. -/
namespace Dl
open PySem PySem.Spec PyProof.Rows L2
/-- an attribute of an instance -/
def fLook (f : Str) (fs : List (Str × Wv)) : Option Wv := fs.lookup f
def putFW (f : Str) (v : Wv) : List (Str × Wv) → List (Str × Wv)
  | [] => [(f, v)]
  | (g, x) :: r => if g = f then (g, v) :: r else (g, x) :: putFW f v r
def wR : Wv → R
  | .d x => .d x
  | .ref k => .ref k
def fFld (C : Addr) (f : Str) (fe : FE) : FE := fun sg S => (fe sg S).bind fun r S1 => match r with
  | .ref k => match S1[k]? with
    | some (.ins C' _ fs) => gate (decide (C' = C)) (match fLook f fs with
      | some w => .ok (wR w) S1
      | none => .stuck)
    | _ => .stuck
  | _ => .stuck
section
variable {X : Cx} {Z : XZ} {K : PySem.W.Frag}
theorem RepFs.look {Φ : Addr → Prop} {ρ : List Addr} {H : Hp} {f : Str} {w : Wv} : ∀ {us : List (Str × V)} {fs : List (Str × Wv)}, RepFs K Φ ρ H us fs → fLook f fs = some w → ∃ v, us.lookup f = some v ∧ RepW K Φ ρ H v w
  | [], [], _, e => by cases e
  | [], _ :: _, h, _ => by cases h.1
  | _ :: _, [], h, _ => by cases h.1
  | (g, v) :: us, (g', w') :: fs, ⟨h1, h2⟩, e => by
    simp only [List.map_cons, List.cons.injEq] at h1
    obtain ⟨rfl, h1⟩ := h1
    cases h2 with
    | cons a t =>
      unfold fLook at e
      rw [List.lookup_cons] at e ⊢
      cases hb : (f == g) with
      | true =>
        rw [hb] at e
        cases e
        exact ⟨v, rfl, a⟩
      | false =>
        rw [hb] at e
        exact RepFs.look (us := us) (fs := fs) ⟨h1, t⟩ e
theorem RepFs.none {Φ : Addr → Prop} {ρ : List Addr} {H : Hp} {f : Str} : ∀ {us : List (Str × V)} {fs : List (Str × Wv)}, RepFs K Φ ρ H us fs → fLook f fs = Option.none → us.lookup f = Option.none
  | [], [], _, _ => rfl
  | [], _ :: _, h, _ => by cases h.1
  | _ :: _, [], h, _ => by cases h.1
  | (g, v) :: us, (g', w') :: fs, ⟨h1, h2⟩, e => by
    simp only [List.map_cons, List.cons.injEq] at h1
    obtain ⟨rfl, h1⟩ := h1
    cases h2 with
    | cons a t =>
      unfold fLook at e
      rw [List.lookup_cons] at e ⊢
      cases hb : (f == g) with
      | true => rw [hb] at e; cases e
      | false =>
        rw [hb] at e
        exact RepFs.none (us := us) (fs := fs) ⟨h1, t⟩ e
theorem RepFs.put {Φ : Addr → Prop} {ρ : List Addr} {H : Hp} {f : Str} {v : V} {w : Wv} (r : RepW K Φ ρ H v w) : ∀ {us : List (Str × V)} {fs : List (Str × Wv)}, RepFs K Φ ρ H us fs → RepFs K Φ ρ H (putF f v us) (putFW f w fs)
  | [], [], _ => ⟨rfl, .cons r .nil⟩
  | [], _ :: _, h => by cases h.1
  | _ :: _, [], h => by cases h.1
  | (g, u) :: us, (g', w') :: fs, ⟨h1, h2⟩ => by
    simp only [List.map_cons, List.cons.injEq] at h1
    obtain ⟨rfl, h1⟩ := h1
    cases h2 with
    | cons a t =>
      unfold putF putFW
      by_cases e : g = f
      · rw [if_pos e, if_pos e]
        exact ⟨by simp only [List.map_cons, h1], .cons r t⟩
      · rw [if_neg e, if_neg e]
        obtain ⟨g1, g2⟩ := RepFs.put r (us := us) (fs := fs) ⟨h1, t⟩
        exact ⟨by simp only [List.map_cons, g1], .cons a g2⟩
theorem RepFs.length {Φ : Addr → Prop} {ρ : List Addr} {H : Hp} {us : List (Str × V)} {fs : List (Str × Wv)} (h : RepFs K Φ ρ H us fs) : us.length = fs.length := by
  have := congrArg List.length h.1
  simpa using this
theorem putFW_refs {f : Str} {w : Wv} {j : Nat} : ∀ {fs : List (Str × Wv)}, Wv.ref j ∈ (putFW f w fs).map (·.2) → w = .ref j ∨ Wv.ref j ∈ fs.map (·.2)
  | [], h => by
    simp only [putFW, List.map_cons, List.map_nil, List.mem_singleton] at h
    exact .inl h.symm
  | (g, x) :: fs, h => by
    unfold putFW at h
    split at h
    · simp only [List.map_cons, List.mem_cons] at h ⊢
      rcases h with h | h
      · exact .inl h.symm
      · exact .inr (.inr h)
    · simp only [List.map_cons, List.mem_cons] at h ⊢
      rcases h with h | h
      · exact .inr (.inl h)
      · exact (putFW_refs h).imp id .inr
theorem de_fld {e : Expr} {f : Str} {pos : Pos} {C : Addr} {fe : FE} (c : Cls X.K C) (n : NoAttr X.K C f) (he : DE X Z e fe) (hb : attributeBase e f X.env (eval e X.env) = eval e X.env := by rfl) : DE X Z (.Attribute e f pos) (fFld C f fe) := by
  refine ⟨PE.imp (pe_fld he.pe hb) fun σ H Q q => ?_⟩
  obtain ⟨sg, S, Φ, ρ, env, sim, q⟩ := q
  refine ⟨sg, S, Φ, ρ, env, sim, Out.wp_mono (Out.wp_bind q) (fun r S1 eo1 q Φ1 ρ1 H1 v t1 s1 r1 => ?_) (fun _ _ z => z)⟩
  clear eo1
  split at q
  · rename_i k
    split at q
    · rename_i C' id fs e1
      have hC := of_dec (gate_wp q).1
      have qq := (gate_wp q).2
      subst hC
      obtain ⟨a, rfl, hk⟩ := r1
      obtain ⟨dx, us, h1, h2, _⟩ := s1.cell k a _ hk e1
      split at qq
      · rename_i w e2
        obtain ⟨v, h3, h4⟩ := h2.look e2
        refine ⟨a, C', dx, us, v, rfl, h1, c, n, h3, ?_⟩
        refine qq _ _ _ v t1 s1 ?_
        cases w with
        | d x => exact h4
        | ref j => exact h4
      · exact qq.elim
    · exact q.elim
  · exact q.elim

/-! ### o.f = e, o a name -/
/-- for an attribute: a new list becomes a cell (M), or changes no more -/
def toWM (M : Bool) : R → Sto → Out Wv
  | .new xs, S => match M with
    | true => .ok (.ref S.length) (S ++ [.lst xs])
    | false => .ok (.d (.list xs)) S
  | r, S => toW r S
theorem toWM_wp {M : Bool} {Φ : Addr → Prop} {ρ : List Addr} {S : Sto} {H H0 : Hp} {v : V} {r : R} {p : Wv → Sto → Prop} {q : Exc → Sto → Prop} (r1 : RepR K Φ ρ S H H0 v r) (s : Sim K Φ ρ H S) (h : (toWM M r S).wp p q) :
    ∃ w S' Φ' ρ', p w S' ∧ TrA (fun b => H0 b = none) Φ ρ S H Φ' ρ' S' H ∧ Sim K Φ' ρ' H S' ∧ RepW K Φ' ρ' H v w := by
  cases r with
  | new xs =>
    cases M with
    | false => exact toW_wp r1 s h
    | true =>
      obtain ⟨a, ws, rfl, h1, h2, h3, h4, h5⟩ := r1
      obtain ⟨t2, s2, e2⟩ := adopt s (c := .lst xs) ⟨ws, h1, h2, h3⟩ rfl h4 h5 trivial
      exact ⟨_, _, _, _, h, t2, s2, a, rfl, e2⟩
  | d x => exact toW_wp r1 s h
  | newd x => exact toW_wp r1 s h
  | ref k => exact toW_wp r1 s h
def fSetFld (M : Bool) (i : Nat) (C : Addr) (f : Str) (fe : FE) : FS := fun sg S => (fe sg S).bind fun r S1 => (toWM M r S1).bind fun w S2 => match sg[i]? with
  | some (some (.ref k)) => match S2[k]? with
    | some (.ins C' id fs) => gate (decide (C' = C) && decide (fs.length < 1000)) (match w with
      | .d x => .ok (.nx sg) (S2.set k (.ins C id (putFW f (.d x) fs)))
      | .ref j => if j < k then .ok (.nx sg) (S2.set k (.ins C id (putFW f (.ref j) fs)))
        else if j < S2.length then .ok (.nx (sg.set i (some (.ref S2.length)))) ((S2.set k .dead) ++ [.ins C id (putFW f (.ref j) fs)]) else .stuck)
    | _ => .stuck
  | _ => .stuck
/-- an instance is told anew, behind all cells -/
theorem move_cell {Φ : Addr → Prop} {ρ : List Addr} {S : Sto} {H : Hp} {k : Nat} {a C dx : Addr} {id : Nat} {fs fs' : List (Str × Wv)} {us' : List (Str × V)} (s : Sim K Φ ρ H S) (hk : ρ[k]? = some a) (hc : S[k]? = some (.ins C id fs))
    (r : RepFs K Φ ρ H us' fs') (ho : ∀ j, Wv.ref j ∈ fs'.map (·.2) → j < S.length) :
    Tr Φ ρ S H Φ (ρ ++ [a]) ((S.set k .dead) ++ [.ins C id fs']) (upd H a (.ins C dx us')) ∧ Sim K Φ (ρ ++ [a]) (upd H a (.ins C dx us')) ((S.set k .dead) ++ [.ins C id fs']) := by
  have hkl : k < S.length := (List.getElem?_eq_some_iff.mp hc).1
  have m : MutAt ρ S a := ⟨k, _, hk, hc, rfl⟩
  obtain ⟨dx0, us0, h1, h2, h3, h4⟩ := s.cell k a _ hk hc
  have hl : (S.set k Cell.dead).length = S.length := by simp
  have back : ∀ (j : Nat) (d : Cell) (b : Addr), (ρ ++ [a])[j]? = some b → ((S.set k Cell.dead) ++ [Cell.ins C id fs'])[j]? = some d → (j < S.length ∧ ρ[j]? = some b ∧ ((j = k ∧ d = .dead) ∨ (j ≠ k ∧ S[j]? = some d))) ∨ (j = S.length ∧ b = a ∧ d = .ins C id fs') := fun j d b e1 e2 => by
    by_cases hj : j < S.length
    · rw [List.getElem?_append_left (by rw [hl]; exact hj)] at e2
      rw [List.getElem?_append_left (by rw [s.len]; exact hj)] at e1
      refine .inl ⟨hj, e1, ?_⟩
      by_cases e : k = j
      · subst e
        rw [List.getElem?_set_self hkl] at e2
        exact .inl ⟨rfl, (Option.some.inj e2).symm⟩
      · rw [List.getElem?_set_ne e] at e2
        exact .inr ⟨fun z => e z.symm, e2⟩
    · rw [List.getElem?_append_right (by rw [hl]; omega), hl] at e2
      rw [List.getElem?_append_right (by rw [s.len]; omega), s.len] at e1
      have hi := (List.getElem?_eq_some_iff.mp e1).1
      simp at hi
      rw [hi] at e1 e2
      simp at e1 e2
      exact .inr ⟨by omega, e1.symm, e2.symm⟩
  have t : Tr Φ ρ S H Φ (ρ ++ [a]) ((S.set k .dead) ++ [.ins C id fs']) (upd H a (.ins C dx us')) := ⟨fun b o e n => by
      rw [upd_ne (by rintro rfl; exact n m)]; exact e, fun b e => by
      unfold upd
      split
      · simp
      · exact e, fun _ e => e, fun _ e => .inl e, ⟨[a], rfl⟩, fun b ⟨j, d, e1, e2, e3⟩ => by
      rcases back j d b e1 e2 with ⟨_, g1, ⟨_, rfl⟩ | ⟨_, g2⟩⟩ | ⟨_, rfl, _⟩
      · cases e3
      · exact .inl ⟨j, d, g1, g2, e3⟩
      · exact .inl m⟩
  have nPhi : ∀ b d, CellOk K Φ ρ H b d → d.mut = true → ¬ Φ b := fun b d q e => by
    cases d with
    | lst xs => obtain ⟨_, _, _, n⟩ := q; exact n
    | val x => cases e
    | dct kvs => obtain ⟨_, _, _, n⟩ := q; exact n
    | ins C id fs => obtain ⟨_, _, _, _, n, _⟩ := q; exact n
    | dead => cases e
    | lck _ => cases e
  refine ⟨t, ⟨by simp [s.len], fun j b d e1 e2 => ?_, fun i j b d e e1 e2 e3 e4 e5 e6 => ?_, fun j d e1 => ?_, fun b e => t.there b (s.phi b e)⟩⟩
  · rcases back j d b e1 e2 with ⟨_, g1, ⟨rfl, rfl⟩ | ⟨hj, g2⟩⟩ | ⟨_, rfl, rfl⟩
    · rw [hk] at g1
      cases g1
      exact ⟨C, dx, us', upd_same⟩
    · have q := s.cell j b d g1 g2
      refine q.mono s t (fun e3 => ⟨nPhi b d q e3, upd_ne ?_⟩) fun C1 dx1 us1 e _ => ?_
      · rintro rfl
        exact hj (s.inj k j _ _ _ hk g1 hc g2 rfl e3).symm
      · by_cases hb : b = a
        · subst hb
          exact ⟨C, dx, us', upd_same⟩
        · exact ⟨C1, dx1, us1, by rw [upd_ne hb]; exact e⟩
    · exact ⟨dx, us', upd_same, r.mono s t, h3, t.rho h4⟩
  · rcases back i d b e1 e3 with ⟨hi, g1, ⟨rfl, rfl⟩ | ⟨hi', g2⟩⟩ | ⟨hi, rfl, rfl⟩
    · cases e5
    · rcases back j e b e2 e4 with ⟨hj, f1, ⟨rfl, rfl⟩ | ⟨hj', f2⟩⟩ | ⟨hj, rfl, rfl⟩
      · cases e6
      · exact s.inj i j b d e g1 f1 g2 f2 e5 e6
      · exact absurd (s.inj i k _ d _ g1 hk g2 hc e5 rfl) hi'
    · rcases back j e _ e2 e4 with ⟨hj, f1, ⟨rfl, rfl⟩ | ⟨hj', f2⟩⟩ | ⟨hj, _, rfl⟩
      · cases e6
      · exact absurd (s.inj j k _ e _ f1 hk f2 hc e6 rfl) hj'
      · omega
  · have hρ : ∃ b, (ρ ++ [a])[j]? = some b := by
      have : j < (ρ ++ [a]).length := by
        have := (List.getElem?_eq_some_iff.mp e1).1
        simp at this ⊢
        rw [s.len]; exact this
      exact ⟨_, List.getElem?_eq_getElem this⟩
    obtain ⟨b, hb⟩ := hρ
    rcases back j d b hb e1 with ⟨_, g1, ⟨rfl, rfl⟩ | ⟨hj, g2⟩⟩ | ⟨rfl, rfl, rfl⟩
    · trivial
    · exact s.ord j d g2
    · have := (s.ord k _ hc).1
      exact ⟨by omega, ho⟩
theorem ds_setFld {M : Bool} {i : Nat} {x : Str} {f : Str} {e : Expr} {C : Addr} {p pos pos' : Pos} {fe : FE} (c : Cls X.K C) (n : NoAttr X.K C f) (hx : PE X (.Name x p) (tVar i)) (he : DE X Z e fe) (hs : swapsWith e (some (.Attribute (.Name x p) f pos')) pos.line X.env = pure false := by rfl) :
    DS X Z (.Assign [.Attribute (.Name x p) f pos'] e pos) (fSetFld M i C f fe) := by
  refine ⟨PS.imp (ps_fld hx he.pe hs) fun D σ H q => ?_⟩
  obtain ⟨sg, S, Φ, ρ, env, sim, q⟩ := q
  refine ⟨sg, S, Φ, ρ, env, sim, Out.wp_mono (Out.wp_bind q) (fun r S1 eo1 q Φ1 ρ1 H1 v t1 s1 r1 => ?_) (fun _ _ z => z)⟩
  clear eo1
  obtain ⟨w, S2, Φ2, ρ2, q, t2, s2, w2⟩ := toWM_wp r1 s1 (Out.wp_bind q)
  have t12 := t1.take t2 fun _ h => h
  have env2 := env.mono sim t12
  split at q
  · rename_i k e0
    obtain ⟨u, hu, a, rfl, hk⟩ := env2.get i _ e0
    refine ⟨_, hu, ?_⟩
    split at q
    · rename_i C' id fs e1
      obtain ⟨hg, q⟩ := gate_wp q
      obtain ⟨hC, hl⟩ := Bool.and_eq_true_iff.mp hg
      have hC := of_dec hC
      have hl := of_dec hl
      subst hC
      obtain ⟨dx, us, h1, h2, h3, h4⟩ := s2.cell k a _ hk e1
      refine ⟨a, C', dx, us, rfl, h1, c, n, by rw [h2.length]; exact hl, ?_⟩
      have hk2 : ∀ {f' : List (Str × Wv)}, (∀ j, Wv.ref j ∈ f'.map (·.2) → j < k) → OrdC k (.ins C' id f') := fun h => ⟨(s2.ord k _ e1).1, h⟩
      have hi : ∀ C0 dx0 us0, H1 a = some (.ins C0 dx0 us0) → ∃ C1 dx1 us1, HO.ins C' dx (putF f v us) = .ins C1 dx1 us1 := fun _ _ _ _ => ⟨_, _, _, rfl⟩
      have old := (s2.ord k _ e1).2
      cases w with
      | d y =>
        obtain ⟨t5, s5⟩ := put_cell (o := .ins C' dx (putF f v us)) s2 hk e1 rfl rfl (c' := .ins C' id (putFW f (.d y) fs)) (fun t => ⟨dx, _, upd_same, (RepFs.put w2 h2).mono s2 t, h3, h4⟩) (hk2 fun j hj => (putFW_refs hj).elim (fun z => by cases z) (old j)) hi
        have t15 := t12.trans t5
        exact q _ _ _ _ t15 s5 (env.mono sim t15)
      | ref j =>
        dsimp only at q
        split at q
        · rename_i hj
          obtain ⟨t5, s5⟩ := put_cell (o := .ins C' dx (putF f v us)) s2 hk e1 rfl rfl (c' := .ins C' id (putFW f (.ref j) fs)) (fun t => ⟨dx, _, upd_same, (RepFs.put w2 h2).mono s2 t, h3, h4⟩) (hk2 fun m hm => (putFW_refs hm).elim (fun z => by cases z; exact hj) (old m)) hi
          have t15 := t12.trans t5
          exact q _ _ _ _ t15 s5 (env.mono sim t15)
        · split at q
          · rename_i hj2
            have hkl : k < S2.length := (List.getElem?_eq_some_iff.mp e1).1
            obtain ⟨t5, s5⟩ := move_cell (dx := dx) s2 hk e1 (RepFs.put w2 h2) fun m hm => (putFW_refs hm).elim (fun z => by cases z; exact hj2) fun z => Nat.lt_trans (old m z) hkl
            have t15 := t12.trans t5
            have env5 := env.mono sim t15
            refine q _ _ _ _ t15 s5 ?_
            have hil : i < σ.length := (List.getElem?_eq_some_iff.mp hu).1
            have : σ = σ.set i (some (.ref a)) := by
              apply List.ext_getElem?
              intro m
              by_cases hm : i = m
              · subst hm
                rw [List.getElem?_set_self hil]; exact hu
              · rw [List.getElem?_set_ne hm]
            rw [this]
            exact env5.set i (w := .ref S2.length) ⟨a, rfl, by rw [← s2.len]; simp⟩
          · exact q.elim
    · exact q.elim
  · exact q.elim

/-! ### o.m(..), C(..) -/
def fMeth (C : Addr) (m : Str) (n : Nat) (F : FD) (fo : FE) (fa : FA) : FE := fun sg S => (fo sg S).bind fun o S1 => match o with
  | .ref k => match S1[k]? with
    | some (.ins C' _ fs) => gate (decide (C' = C) && (fLook m fs).isNone) ((fa sg S1).bind fun ws S2 => gate (decide (ws.length + 1 = n)) (noX (F (.ref k :: ws) S2)))
    | _ => .stuck
  | _ => .stuck
theorem meth_imp {C : Addr} {m : Str} {n : Nat} {F : FD} {fo : FE} {fa : FA} {σ : L2.St} {H : Hp} {Q : VK} {E : XK} (q : tE X.K Z (fMeth C m n F fo fa) σ H Q) : tMeth C m (spD X.K n F) [] E (tE X.K Z fo) (tA X.K Z fa) σ H Q := by
  obtain ⟨sg, S, Φ, ρ, env, sim, q⟩ := q
  refine ⟨sg, S, Φ, ρ, env, sim, Out.wp_mono (Out.wp_bind q) (fun r S1 eo1 q Φ1 ρ1 H1 v t1 s1 r1 => ?_) (fun _ _ z => z)⟩
  clear eo1
  split at q
  · rename_i k
    split at q
    · rename_i C' id fs e1
      obtain ⟨hC, hl⟩ := Bool.and_eq_true_iff.mp (gate_wp q).1
      have qq := (gate_wp q).2
      have hC := of_dec hC
      subst hC
      obtain ⟨a, rfl, hk⟩ := r1
      obtain ⟨dx, us, h1, h2, _⟩ := s1.cell k a _ hk e1
      refine ⟨a, dx, us, rfl, h1, h2.none (Option.isNone_iff_eq_none.mp hl), sg, S1, Φ1, ρ1, env.mono sim t1, s1, Out.wp_mono (Out.wp_bind qq) (fun ws S2 _ q Φ2 ρ2 H2 vs t2 s2 r2 => ?_) (fun _ _ z => Z.after z t1)⟩
      obtain ⟨hn, q⟩ := gate_wp q
      have t12 := t1.trans t2
      refine ⟨.ref k :: ws, S2, Φ2, ρ2, by simpa using of_dec hn, ?_, s2, Out.wp_mono (noX_wp q) (fun r S3 _ q => PostE.after q t12) (fun _ _ z => z)⟩
      rw [List.append_nil]
      exact .cons ⟨a, rfl, t2.rho hk⟩ r2
    · exact q.elim
  · exact q.elim
theorem de_meth {k n : Nat} {f C : Addr} {fd : FuncData} {ps : List Str} {F : FD} {m : Str} {o e : Expr} {es : List Expr} {apos pos : Pos} {fo : FE} {fa : FA} {pl : Sem Bool} (c : Cls X.K C) (hm : Meth X.K C m f) (h : FnOk X.prog X.w X.K X.mg X.base CX0 k f fd ps (spD X.K n F)) (hr : Room k X.A) (hb : Binds X.K fd ps [])
    (ho : DE X Z o fo) (ha : DA X Z (e :: es) fa)
    (hst : starEach (e :: es) X.env = (false, eval e X.env) :: starEach es X.env := by rfl) (hpl : (backTo pos (starEach es X.env)).any (·.1) = false := by rfl)
    (ht : eval (.Call (.Attribute o m apos) (e :: es) [] pos) X.env = (do
      let ov ← eval o X.env
      standAt apos.atName
      let (f, first) ← holding [ov] (getMethod ov m pl)
      callWith pos f first (backTo pos (starEach (e :: es) X.env)) (backToKw pos (keywordEach [] X.env))) := by rfl) :
    DE X Z (.Call (.Attribute o m apos) (e :: es) [] pos) (fMeth C m n F fo fa) :=
  ⟨PE.imp (pe_meth ho.pe c hm h hr hb .nil pass0 ha.pa hst hpl ht) fun _ _ _ q => meth_imp q⟩
theorem de_meth0 {k n : Nat} {f C : Addr} {fd : FuncData} {ps : List Str} {F : FD} {m : Str} {o : Expr} {apos pos : Pos} {fo : FE} {pl : Sem Bool} (c : Cls X.K C) (hm : Meth X.K C m f) (h : FnOk X.prog X.w X.K X.mg X.base CX0 k f fd ps (spD X.K n F)) (hr : Room k X.A) (hb : Binds X.K fd ps [])
    (ho : DE X Z o fo)
    (ht : eval (.Call (.Attribute o m apos) [] [] pos) X.env = (do
      let ov ← eval o X.env
      standAt apos.atName
      let (f, first) ← holding [ov] (getMethod ov m pl)
      callWith pos f first (backTo pos (starEach [] X.env)) (backToKw pos (keywordEach [] X.env))) := by rfl) :
    DE X Z (.Call (.Attribute o m apos) [] [] pos) (fMeth C m n F fo fNil) := by
  refine ⟨PE.imp (pe_meth0 ho.pe c hm h hr hb .nil pass0 ht) fun σ H Q q => ?_⟩
  obtain ⟨sg, S, Φ, ρ, env, sim, q⟩ := q
  refine ⟨sg, S, Φ, ρ, env, sim, Out.wp_mono (Out.wp_bind q) (fun r S1 eo1 q Φ1 ρ1 H1 v t1 s1 r1 => ?_) (fun _ _ z => z)⟩
  clear eo1
  split at q
  · rename_i k
    split at q
    · rename_i C' id fs e1
      obtain ⟨hC, hl⟩ := Bool.and_eq_true_iff.mp (gate_wp q).1
      have qq := (gate_wp q).2
      have hC := of_dec hC
      subst hC
      obtain ⟨a, rfl, hk⟩ := r1
      obtain ⟨dx, us, h1, h2, _⟩ := s1.cell k a _ hk e1
      have qq : (gate (decide ((([] : List Wv)).length + 1 = n)) (noX (F (.ref k :: []) S1))).wp _ _ := qq
      obtain ⟨hn, qq⟩ := gate_wp qq
      refine ⟨a, dx, us, rfl, h1, h2.none (Option.isNone_iff_eq_none.mp hl), [.ref k], S1, Φ1, ρ1, by simpa using of_dec hn, ?_, s1, Out.wp_mono (noX_wp qq) (fun r S3 _ q => PostE.after q t1) (fun _ _ z => z)⟩
      exact .cons ⟨a, rfl, hk⟩ .nil
    · exact q.elim
  · exact q.elim
/-- an __init__: the instance is the last cell; what it gives is the cell at which it stands in the end -/
def spI (K : PySem.W.Frag) (n : Nat) (F : FD) : Sp := fun vs H Q _ => ∃ ws S Φ ρ x vs', vs = .ref x :: vs' ∧ ws.length = n ∧ RepWs K Φ ρ H vs ws ∧ Sim K Φ ρ H S ∧ 0 < S.length ∧ ρ[S.length - 1]? = some x ∧
  (F ws S).wp (fun r S' => ∃ k', r = .ref k' ∧ ∀ Φ' ρ' H', Tr Φ ρ S H Φ' ρ' S' H' → Sim K Φ' ρ' H' S' → ρ'[k']? = some x → Q .non H') (fun _ _ => False)
def endI (n : Nat) (fl : Fl) (S : Sto) : Out R := match fl with
  | .nx g => match (g[0]? : Option (Option Wv)) with
    | some (some (Wv.ref k)) => match S[k]? with
      | some (Cell.ins _ id _) => gate (decide (id + 1 = n)) (.ok (.ref k) S)
      | _ => .stuck
    | _ => .stuck
  | _ => .stuck
def fInit (m : Nat) (fs : FS) : FD := fun ws S => (fs (startG m ws) S).bind (endI S.length)
theorem fn_init {P : Program} {w : World} {K : PySem.W.Frag} {mg : Str → Option Value} {base : Heap} {x qual : Str} {st : Stmt} {f : Addr} {fd : FuncData} {N ps : List Str} {k : Nat} {fs : FS} (F : Fun K x qual st f fd) (S : FnScope N ps (defScope st))
    (hbody : ∀ (cdv : Value) (A : Around) (outer : List Env) (s : Shared) (H : Hp) (E : XK), Room k (A.deeper (envOfC qual (defScope st) s.heap.objs.size f cdv)) → DSs (cxOf CX0 P w K mg base N qual (defScope st) f cdv A outer s H E).nox XZ.no (defBody st) fs) :
    FnOk P w K mg base CX0 (k + 1) f fd ps (spI K ps.length (fInit N.length fs)) := by
  refine F.ok S (fun vs H Q E h => ?_) (fun cdv A outer s H vs Q E hr h => ?_)
  · obtain ⟨ws, S, Φ, ρ, x, vs', _, hl, r, _⟩ := h
    rw [Paired.length r, hl]
  · obtain ⟨ws, S, Φ, ρ, x, vs', rfl, hl, r, sim, h0, hx, q⟩ := h
    refine ⟨_, (hbody cdv A outer s H E hr).ps, startG N.length ws, S, Φ, ρ, env_start r, sim, Out.wp_mono (Out.wp_bind q) (fun fl S' _ q => ?_) (fun _ _ z => z)⟩
    unfold endI at q
    split at q
    · rename_i g
      split at q
      · rename_i k' e1
        split at q
        · rename_i C id fs' e2
          obtain ⟨hid, q⟩ := gate_wp q
          have hid := of_dec hid
          obtain ⟨k2, e3, q⟩ := q
          cases e3
          intro Φ' ρ' H' σ' t s' env'
          have hk' : k' < ρ'.length := by
            rw [s'.len]; exact (List.getElem?_eq_some_iff.mp e2).1
          have ha : ρ'[k']? = some ρ'[k'] := List.getElem?_eq_getElem hk'
          obtain ⟨dx, us, _, _, _, hi⟩ := s'.cell k' _ _ ha e2
          have hx' := t.rho hx
          rw [show S.length - 1 = id by omega] at hx'
          rw [hx'] at hi
          cases hi
          exact q Φ' ρ' H' t s' ha
        · exact q.elim
      · exact q.elim
    · exact q.elim
/-- C(..): a new instance -/
def fMake (C : Addr) (n : Nat) (F : FD) (fa : FA) : FE := fun sg S => (fa sg S).bind fun ws S1 => gate (decide (ws.length + 1 = n)) (noX (F (.ref S1.length :: ws) (S1 ++ [.ins C S1.length []])))
theorem make_imp {C : Addr} {n : Nat} {F : FD} {fa : FA} {σ : L2.St} {H : Hp} {Q : VK} {E : XK} (hR : ∀ ws S r S', F ws S = .ok r S' → ∃ k, r = .ref k) (q : tE X.K Z (fMake C n F fa) σ H Q) : tMake C (spI X.K n F) [] E (tA X.K Z fa) σ H Q := by
  obtain ⟨sg, S, Φ, ρ, env, sim, q⟩ := q
  refine ⟨sg, S, Φ, ρ, env, sim, Out.wp_mono (Out.wp_bind q) (fun ws S1 _ q Φ1 ρ1 H1 vs t1 s1 r1 => ?_) (fun _ _ z => z)⟩
  intro x dx hx hdx hne
  obtain ⟨hn, q⟩ := gate_wp q
  have hn := of_dec hn
  have hx2 : (upd H1 dx (.own x)) x = none := by rw [upd_ne hne.symm]; exact hx
  have ta := Tr.newObj (Φ := Φ1) (ρ := ρ1) (S := S1) (o := .own x) hdx
  have sa := s1.newObj (o := .own x) hdx
  have tb := Tr.newObj (Φ := Φ1) (ρ := ρ1) (S := S1) (o := .ins C dx []) hx2
  have sb := sa.newObj (o := .ins C dx []) hx2
  have tab := ta.trans tb
  have np : ¬ Φ1 x := fun e => s1.phi x e hx
  have nm : ¬ MutAt ρ1 S1 x := fun m => by
    obtain ⟨o, e, _⟩ := s1.mutl m
    rw [hx] at e; cases e
  obtain ⟨tc, sc, ec⟩ := adopt (H0 := H1) sb (c := .ins C S1.length []) ⟨dx, [], upd_same, ⟨rfl, .nil⟩, np, by rw [← s1.len]; simp⟩ rfl nm hx ⟨Nat.le_refl _, fun j h => by simp at h⟩
  have tac := tab.take tc fun _ h => h
  have t1c := t1.trans tac
  refine ⟨.ref S1.length :: ws, S1 ++ [.ins C S1.length []], Φ1, ρ1 ++ [x], x, vs ++ [], rfl, by simpa using hn, ?_, sc, by simp, by simpa using ec, ?_⟩
  · rw [List.append_nil]
    exact .cons ⟨x, rfl, ec⟩ (RepWs.mono s1 tac r1)
  · refine Out.wp_mono (noX_wp q) (fun r S2 e q => ?_) (fun _ _ z => z)
    obtain ⟨k', rfl⟩ := hR _ _ _ _ e
    exact ⟨k', rfl, fun Φ' ρ' H' t s h => ⟨rfl, q Φ' ρ' H' (.ref x) (t1c.trans t) s ⟨x, rfl, h⟩⟩⟩
theorem init_ref {m : Nat} {fs : FS} : ∀ ws S r S', fInit m fs ws S = .ok r S' → ∃ k, r = .ref k := by
  intro ws S r S' e
  obtain ⟨fl, S1, _, e⟩ := Out.bind_ok_iff e
  unfold endI at e
  split at e
  · split at e
    · split at e
      · unfold gate at e
        split at e
        · cases e; exact ⟨_, rfl⟩
        · cases e
      · cases e
    · cases e
  · cases e
theorem de_make {k n m : Nat} {f C : Addr} {fd : FuncData} {ps : List Str} {fs : FS} {x : Str} {e : Expr} {es : List Expr} {p pos : Pos} {fa : FA} (M : Mk X.K C f) (h : FnOk X.prog X.w X.K X.mg X.base CX0 k f fd ps (spI X.K n (fInit m fs))) (hr : Room (k + 1) X.A) (hg : Gl X x) (hm : X.mg x = some (.ref C)) (hb : Binds X.K fd ps [])
    (ha : DA X Z (e :: es) fa) (hdb : (x == ("__debug__" : Str)) = false := by decide) (he : starEach (e :: es) X.env = (false, eval e X.env) :: starEach es X.env := by rfl) (hpl : (backTo pos (starEach es X.env)).any (·.1) = false := by rfl) :
    DE X Z (.Call (.Name x p) (e :: es) [] pos) (fMake C n (fInit m fs) fa) :=
  ⟨PE.imp (pe_make M h hr hg hm hb .nil pass0 ha.pa hdb he hpl) fun _ _ _ q => make_imp init_ref q⟩
end
end Dl
/-! Dl18: sorted; dicts that are made new. -/
namespace Dl
open PySem PySem.Spec PyProof.Rows L2
section
variable {α : Type}
def insB (le : α → α → Bool) (x : α) : List α → List α
  | [] => [x]
  | y :: ys => cond (le x y) (x :: y :: ys) (y :: insB le x ys)
def sortB (le : α → α → Bool) : List α → List α
  | [] => []
  | x :: xs => insB le x (sortB le xs)
theorem insB_perm (le : α → α → Bool) (x : α) : ∀ ys, (insB le x ys).Perm (x :: ys)
  | [] => .refl _
  | y :: ys => by
    unfold insB
    cases le x y
    · exact ((insB_perm le x ys).cons y).trans (.swap x y ys)
    · exact .refl _
theorem sortB_perm (le : α → α → Bool) : ∀ xs, (sortB le xs).Perm xs
  | [] => .refl _
  | x :: xs => (insB_perm le x _).trans ((sortB_perm le xs).cons x)
theorem insB_pw {le : α → α → Bool} (tr : ∀ a b c, le a b = true → le b c = true → le a c = true) (to : ∀ a b, le a b = false → le b a = true) (x : α) : ∀ {ys : List α}, ys.Pairwise (fun a b => le a b = true) → (insB le x ys).Pairwise (fun a b => le a b = true)
  | [], _ => by simp [insB]
  | y :: ys, h => by
    obtain ⟨h1, h2⟩ := List.pairwise_cons.mp h
    unfold insB
    cases hb : le x y with
    | true =>
      refine List.pairwise_cons.mpr ⟨fun z hz => ?_, h⟩
      rcases List.mem_cons.mp hz with rfl | hz
      · exact hb
      · exact tr _ _ _ hb (h1 z hz)
    | false =>
      refine List.pairwise_cons.mpr ⟨fun z hz => ?_, insB_pw tr to x h2⟩
      rcases List.mem_cons.mp ((insB_perm le x ys).subset hz) with rfl | hz
      · exact to _ _ hb
      · exact h1 z hz
theorem sortB_pw {le : α → α → Bool} (tr : ∀ a b c, le a b = true → le b c = true → le a c = true) (to : ∀ a b, le a b = false → le b a = true) : ∀ xs : List α, (sortB le xs).Pairwise (fun a b => le a b = true)
  | [] => .nil
  | x :: xs => insB_pw tr to x (sortB_pw tr to xs)
theorem sorted_one {le : α → α → Bool} (an : ∀ a b, le a b = true → le b a = true → a = b) : ∀ {a b : List α}, a.Perm b → a.Pairwise (fun a b => le a b = true) → b.Pairwise (fun a b => le a b = true) → a = b
  | [], b, h, _, _ => h.nil_eq
  | x :: r, [], h, _, _ => absurd h.length_eq (by simp)
  | x :: r, y :: t, h, ha, hb => by
    have hx : x ∈ y :: t := h.subset (List.mem_cons_self ..)
    have hy : y ∈ x :: r := h.symm.subset (List.mem_cons_self ..)
    have e : x = y := by
      rcases List.mem_cons.mp hx with e | m
      · exact e
      rcases List.mem_cons.mp hy with e | m'
      · exact e.symm
      exact an _ _ ((List.pairwise_cons.mp ha).1 y m') ((List.pairwise_cons.mp hb).1 x m)
    subst e
    rw [sorted_one an h.cons_inv (List.pairwise_cons.mp ha).2 (List.pairwise_cons.mp hb).2]
end
def leI (a b : Int) : Bool := decide (a ≤ b)
def sortI : List Int → List Int := sortB leI
theorem sortI_of {xs ys : List Int} (h : ys.Perm xs) (p : ys.Pairwise (· ≤ ·)) : ys = sortI xs := by
  refine sorted_one (le := leI) (fun a b h1 h2 => ?_) (h.trans (sortB_perm leI xs).symm) (p.imp fun h => decide_eq_true h) (sortB_pw (fun a b c h1 h2 => ?_) (fun a b h => ?_) xs)
  · have := of_decide_eq_true h1; have := of_decide_eq_true h2; omega
  · have := of_decide_eq_true h1; have := of_decide_eq_true h2; exact decide_eq_true (by omega)
  · have := of_decide_eq_false h; exact decide_eq_true (by omega)
def leS (a b : Str) : Bool := !ltCps b.cps.toList a.cps.toList
def sortS : List Str → List Str := sortB leS
theorem leS_iff (a b : Str) : leS a b = true ↔ a.cps.toList ≤ b.cps.toList := by
  unfold leS
  rw [ltCps_eq, Bool.not_eq_true', decide_eq_false_iff_not, List.not_lt]
theorem pw_of_rising : ∀ (p : Str) (l : List Str), risingS p l = true → (p :: l).Pairwise (fun a b => leS a b = true)
  | p, [], _ => by simp
  | p, x :: l, h => by
    simp only [risingS, Bool.and_eq_true] at h
    have ih := pw_of_rising x l h.2
    refine List.pairwise_cons.mpr ⟨fun z hz => ?_, ih⟩
    have hpx : leS p x = true := h.1
    rcases List.mem_cons.mp hz with rfl | hz
    · exact hpx
    · have := (List.pairwise_cons.mp ih).1 z hz
      rw [leS_iff] at *
      exact List.le_trans hpx this
theorem sortS_of {xs ys : List Str} (h : ys.Perm xs) (p : sortedS ys = true) : ys = sortS xs := by
  have pw : ys.Pairwise (fun a b => leS a b = true) := by
    cases ys with
    | nil => exact .nil
    | cons x l => exact pw_of_rising x l p
  refine sorted_one (le := leS) (fun a b h1 h2 => ?_) (h.trans (sortB_perm leS xs).symm) pw (sortB_pw (fun a b c h1 h2 => ?_) (fun a b h => ?_) xs)
  · rw [leS_iff] at h1 h2
    have e := List.le_antisymm h1 h2
    cases a with | mk a => cases b with | mk b => simp at e; rw [e]
  · rw [leS_iff] at *; exact List.le_trans h1 h2
  · rw [leS_iff]
    have : ¬ a.cps.toList ≤ b.cps.toList := fun k => by rw [(leS_iff a b).mpr k] at h; cases h
    exact (List.le_total _ _).resolve_left this

/-! ### built-ins over slots -/
def fCBW (g : Sto → List Wv → Out R) (fa : FA) : FE := fun sg S => (fa sg S).bind fun ws S1 => g S1 ws
def rCW (K : PySem.W.Frag) (Z : XZ) (g : Sto → List Wv → Out R) : List V → Hp → VK → Prop := fun vs H Q => ∃ Φ ρ S ws, Sim K Φ ρ H S ∧ RepWs K Φ ρ H vs ws ∧ (g S ws).wp (fun r S' => PostE K Φ ρ S H r S' Q) (fun e S' => Z.p Φ ρ S H e S')
section
variable {X : Cx} {Z : XZ} {K : PySem.W.Frag}
theorem cw_of {f : Value} {g : Sto → List Wv → Out R}
    (h : ∀ Φ ρ S H vs ws Q, Sim X.K Φ ρ H S → RepWs X.K Φ ρ H vs ws → (g S ws).wp (fun r S' => PostE X.K Φ ρ S H r S' Q) (fun e S' => Z.p Φ ρ S H e S') → ∃ r : List V → Hp → VK → Prop, CallR X f r ∧ r vs H Q) : CallR X f (rCW X.K Z g) :=
  CallR.case fun vs H Q q => by
    obtain ⟨Φ, ρ, S, ws, s, r1, q⟩ := q
    exact h Φ ρ S H vs ws Q s r1 q
theorem cbw_imp {g : Sto → List Wv → Out R} {fa : FA} {σ : L2.St} {H : Hp} {Q : VK} (q : tE K Z (fCBW g fa) σ H Q) : tCB (rCW K Z g) (tA K Z fa) σ H Q := by
  obtain ⟨sg, S, Φ, ρ, env, sim, q⟩ := q
  refine ⟨sg, S, Φ, ρ, env, sim, Out.wp_mono (Out.wp_bind q) (fun ws S1 _ q Φ1 ρ1 H1 vs t1 s1 r1 => ?_) (fun _ _ z => z)⟩
  exact ⟨Φ1, ρ1, S1, ws, s1, r1, Out.wp_mono q (fun r S3 _ q => PostE.after q t1) (fun _ _ z => Z.after z t1)⟩
theorem de_callBW {x : Str} {p pos : Pos} {e : Expr} {es : List Expr} {fa : FA} {id : String} {g : Sto → List Wv → Out R} (hc : CallR X (.builtin id) (rCW X.K Z g)) (hg : Gl X x) (hm : X.mg x = none) (hv : bootBuiltins x = some (.builtin id)) (ha : DA X Z (e :: es) fa)
    (hn : x ≠ "__name__" := by decide) (hdb : (x == ("__debug__" : Str)) = false := by decide)
    (he : starEach (e :: es) X.env = (false, eval e X.env) :: starEach es X.env := by rfl) (hpl : (backTo pos (starEach es X.env)).any (·.1) = false := by rfl) : DE X Z (.Call (.Name x p) (e :: es) [] pos) (fCBW g fa) :=
  ⟨PE.imp (pe_callB hc hg hm hv ha.pa hn hdb he hpl) fun _ _ _ q => cbw_imp q⟩
theorem de_callTyW {x : Str} {p pos : Pos} {e : Expr} {es : List Expr} {fa : FA} {T : String} {g : Sto → List Wv → Out R} (hc : CallR X (.type T) (rCW X.K Z g)) (hg : Gl X x) (hm : X.mg x = none) (hv : bootBuiltins x = some (.type T)) (ha : DA X Z (e :: es) fa)
    (hn : x ≠ "__name__" := by decide) (hdb : (x == ("__debug__" : Str)) = false := by decide)
    (he : starEach (e :: es) X.env = (false, eval e X.env) :: starEach es X.env := by rfl) (hpl : (backTo pos (starEach es X.env)).any (·.1) = false := by rfl) : DE X Z (.Call (.Name x p) (e :: es) [] pos) (fCBW g fa) :=
  ⟨PE.imp (pe_callTy hc hg hm hv ha.pa hn hdb he hpl) fun _ _ _ q => cbw_imp q⟩
theorem repws1 {Φ : Addr → Prop} {ρ : List Addr} {H : Hp} {vs : List V} {w : Wv} (r : RepWs K Φ ρ H vs [w]) : ∃ v, vs = [v] ∧ RepW K Φ ρ H v w := by
  cases r with
  | cons a t => cases t; exact ⟨_, rfl, a⟩

def dkW (S : Sto) : Wv → Option (List (Key × D))
  | .ref k => match S[k]? with
    | some (.dct kvs) => some kvs
    | _ => none
  | _ => none
theorem dkW_ok {Φ : Addr → Prop} {ρ : List Addr} {S : Sto} {H : Hp} {v : V} {w : Wv} {kvs : List (Key × D)} (s : Sim K Φ ρ H S) (r : RepW K Φ ρ H v w) (e : dkW S w = some kvs) : ∃ a ws, v = .ref a ∧ H a = some (.dK ws) ∧ RepKV K Φ H ws kvs := by
  cases w with
  | d x => cases e
  | ref k =>
    obtain ⟨a, rfl, h⟩ := r
    change (match S[k]? with | some (.dct kvs) => some kvs | _ => none) = some kvs at e
    split at e
    · rename_i kvs' e1
      cases e
      obtain ⟨ws, h1, h2, _⟩ := s.cell k a _ h e1
      exact ⟨a, ws, rfl, h1, h2⟩
    · cases e
/-! ### sorted -/
def strsK : List (Key × D) → Option (List Str)
  | [] => some []
  | (.inr x, _) :: r => match strsK r with
    | some xs => some (x :: xs)
    | none => none
  | _ :: _ => none
theorem strsK_ok : ∀ {kvs : List (Key × D)} {ks : List Str}, strsK kvs = some ks → kvs.map (·.1) = ks.map Sum.inr
  | [], ks, e => by cases e; rfl
  | (.inl _, _) :: _, _, e => by cases e
  | (.inr x, _) :: r, ks, e => by
    unfold strsK at e
    split at e
    · rename_i xs e1
      cases e
      simp only [List.map_cons, strsK_ok e1]
    · cases e
def strsOf : List D → Option (List Str)
  | [] => some []
  | .str x :: r => match strsOf r with
    | some xs => some (x :: xs)
    | none => none
  | _ :: _ => none
theorem strsOf_ok {Φ : Addr → Prop} {H : Hp} : ∀ {vs : List V} {ds : List D} {xs : List Str}, RepA K Φ H vs ds → strsOf ds = some xs → vs = xs.map V.str
  | _, [], _, r, e => by cases e; cases r; rfl
  | _, .str x :: ds, xs, r, e => by
    cases r with
    | cons a t =>
      unfold strsOf at e
      split at e
      · rename_i ys e1
        cases e
        cases a
        rw [strsOf_ok t e1]; rfl
      · cases e
  | _, .none :: _, _, _, e => by cases e
  | _, .bool _ :: _, _, _, e => by cases e
  | _, .int _ :: _, _, _, e => by cases e
  | _, .list _ :: _, _, _, e => by cases e
  | _, .tuple _ :: _, _, _, e => by cases e
  | _, .dict _ :: _, _, _, e => by cases e
theorem repStrs {Φ : Addr → Prop} {H : Hp} : ∀ xs : List Str, RepA K Φ H (xs.map V.str) (xs.map PyData.str)
  | [] => .nil
  | x :: xs => .cons (.str x) (repStrs xs)
def gSortK (S : Sto) (kvs : List (Key × D)) : Out R := match strsK kvs with
  | some ks => gate (decide (ks.length < 64)) (.ok (.new ((sortS ks).map .str)) S)
  | none => .stuck
def gSortL (S : Sto) (ds : List D) : Out R := match intsOf ds with
  | some ns => .ok (.new ((sortI ns).map .int)) S
  | none => match strsOf ds with
    | some xs => gate (decide (xs.length < 64)) (.ok (.new ((sortS xs).map .str)) S)
    | none => .stuck
def gSorted (S : Sto) : List Wv → Out R
  | [w] => match dkW S w with
    | some kvs => gSortK S kvs
    | none => match pkW S w with
      | some (.list ds) => gSortL S ds
      | _ => .stuck
  | _ => .stuck
theorem cw_sorted (hc : X.calm = true) : CallR X (.builtin "sorted") (rCW X.K Z gSorted) := cw_of fun Φ ρ S H vs ws Q s r q => by
  unfold gSorted at q
  split at q
  · obtain ⟨v, rfl, r1⟩ := repws1 r
    split at q
    · rename_i kvs e1
      obtain ⟨a, us, rfl, h1, h2⟩ := dkW_ok s r1 e1
      unfold gSortK at q
      split at q
      · rename_i ks e2
        obtain ⟨hl, q⟩ := gate_wp q
        refine ⟨_, call_sortedD hc, a, us, ks, rfl, .inl h1, h2.1.trans (strsK_ok e2), of_dec hl, fun ys p hp hs hn => ?_⟩
        rw [sortS_of hp hs]
        exact post_new s q (repStrs _) p hn
      · exact q.elim
    · split at q
      · rename_i ds e1
        obtain ⟨a, us, rfl, h1, r2⟩ := pkW_ok r1 s e1
        unfold gSortL at q
        split at q
        · rename_i ns e2
          obtain rfl := intsOf_ok r2 e2
          refine ⟨_, cr_sortedI, a, ns, rfl, h1, fun ns' p hp hs hn => ?_⟩
          rw [sortI_of hp hs]
          exact post_new s q (repInts _) p hn
        · split at q
          · rename_i xs e2
            obtain ⟨hl, q⟩ := gate_wp q
            obtain rfl := strsOf_ok r2 e2
            refine ⟨_, cr_sortedS, a, xs, rfl, h1, of_dec hl, fun ys p hp hs hn => ?_⟩
            rw [sortS_of hp hs]
            exact post_new s q (repStrs _) p hn
          · exact q.elim
      · exact q.elim
  · exact q.elim
/-! ### {} -/
def fDNew : FE := fun _ S => .ok (.newd []) S
theorem de_dnew {pos : Pos} : DE X Z (.Dict [] [] pos) fDNew := by
  refine ⟨PE.imp pe_dnewK fun σ H Q q => ?_⟩
  obtain ⟨sg, S, Φ, ρ, env, sim, q⟩ := q
  intro p hp
  exact q Φ ρ _ _ (Tr.newObj hp) (sim.newObj hp) (RepR.newDct sim hp ⟨rfl, .nil⟩)
/-! ### sorted(set(e)), e a tuple of ints -/
def insU (x : Int) : List Int → List Int
  | [] => [x]
  | y :: ys => cond (decide (x < y)) (x :: y :: ys) (cond (decide (x = y)) (y :: ys) (y :: insU x ys))
def sortU : List Int → List Int
  | [] => []
  | x :: xs => insU x (sortU xs)
theorem insU_mem (x z : Int) : ∀ ys, z ∈ insU x ys ↔ z = x ∨ z ∈ ys
  | [] => by simp [insU]
  | y :: ys => by
    unfold insU
    by_cases h : x < y
    · rw [decide_eq_true h]; simp
    · rw [decide_eq_false h]
      by_cases e : x = y
      · subst e; simp
      · rw [decide_eq_false e]
        simp only [cond_false, List.mem_cons, insU_mem x z ys]
        constructor
        · rintro (h | h | h)
          · exact .inr (.inl h)
          · exact .inl h
          · exact .inr (.inr h)
        · rintro (h | h | h)
          · exact .inr (.inl h)
          · exact .inl h
          · exact .inr (.inr h)
theorem sortU_mem (z : Int) : ∀ xs, z ∈ sortU xs ↔ z ∈ xs
  | [] => by simp [sortU]
  | x :: xs => by simp only [sortU, insU_mem, sortU_mem z xs, List.mem_cons]
theorem insU_pw (x : Int) : ∀ {ys : List Int}, ys.Pairwise (· < ·) → (insU x ys).Pairwise (· < ·)
  | [], _ => by simp [insU]
  | y :: ys, h => by
    obtain ⟨h1, h2⟩ := List.pairwise_cons.mp h
    unfold insU
    by_cases hb : x < y
    · rw [decide_eq_true hb]
      refine List.pairwise_cons.mpr ⟨fun z hz => ?_, h⟩
      rcases List.mem_cons.mp hz with rfl | hz
      · exact hb
      · have := h1 z hz; omega
    · rw [decide_eq_false hb]
      by_cases e : x = y
      · rw [decide_eq_true e]; exact h
      · rw [decide_eq_false e]
        refine List.pairwise_cons.mpr ⟨fun z hz => ?_, insU_pw x h2⟩
        rcases (insU_mem x z ys).mp hz with rfl | hz
        · omega
        · exact h1 z hz
theorem sortU_pw : ∀ xs, (sortU xs).Pairwise (· < ·)
  | [] => .nil
  | x :: xs => insU_pw x (sortU_pw xs)
theorem incr_one : ∀ {a b : List Int}, a.Pairwise (· < ·) → b.Pairwise (· < ·) → (∀ z, z ∈ a ↔ z ∈ b) → a = b
  | [], [], _, _, _ => rfl
  | [], y :: b, _, _, h => absurd ((h y).mpr (by simp)) (by simp)
  | x :: a, [], _, _, h => absurd ((h x).mp (by simp)) (by simp)
  | x :: a, y :: b, ha, hb, h => by
    obtain ⟨a1, a2⟩ := List.pairwise_cons.mp ha
    obtain ⟨b1, b2⟩ := List.pairwise_cons.mp hb
    have e : x = y := by
      rcases List.mem_cons.mp ((h x).mp (by simp)) with e | m
      · exact e
      rcases List.mem_cons.mp ((h y).mpr (by simp)) with e | m'
      · exact e.symm
      have := a1 y m'; have := b1 x m; omega
    subst e
    congr 1
    refine incr_one a2 b2 fun z => ⟨fun hz => ?_, fun hz => ?_⟩
    · rcases List.mem_cons.mp ((h z).mp (by simp [hz])) with rfl | m
      · have := a1 z hz; omega
      · exact m
    · rcases List.mem_cons.mp ((h z).mpr (by simp [hz])) with rfl | m
      · have := b1 z hz; omega
      · exact m
def rSetTI (K : PySem.W.Frag) (w : World) : List V → Hp → VK → Prop := fun vs H Q => ∃ (a : Addr) (ns : List Int), vs = [.ref a] ∧ SqT K H a (ns.map V.int) ∧ ns.length ≤ 1000 ∧
  ∀ (p : Addr) (c : Nat), c ≤ ns.length → H p = none → Q (.ref p) (upd H p (SetO w p (fun j => decide (j ∈ ns)) c))
theorem cr_setTI (hc : X.calm = true) : CallR X (.type "set") (rSetTI X.K X.w) := by
  intro pins s σ H xs us Q I r h
  obtain ⟨a, ns, rfl, hq, hl, q⟩ := h
  rw [Vals.ref1 r]
  obtain ⟨its, rv, pl, hz⟩ := I.tuple hq
  have hi := rv.ints
  refine call_set_tupI ns (I.ok.hd hc) pl (by simpa using hi) (by have : (1001 : Nat) < scanBound := by decide
                                                                  omega) fun h' tk c hS hcl hk => ?_
  exact ⟨.ref _, upd H s.heap.objs.size (SetO X.w s.heap.objs.size (fun j => decide (j ∈ ns)) c), I.laid (t' := tk) (fun b u e => hk b u e) (Nat.le_refl _) (setO_new hS), rfl, q _ _ hcl (I.hok.fresh (Nat.le_refl _))⟩
def fSortSet (fa : FA) : FE := fun sg S => (fa sg S).bind fun ws S1 => match ws with
  | [w] => match pkW S1 w with
    | some (.tuple ds) => match intsOf ds with
      | some ns => gate (decide (ns.length < 64)) (.ok (.new ((sortU ns).map .int)) S1)
      | none => .stuck
    | _ => .stuck
  | _ => .stuck
theorem de_sortSet {x y : Str} {p p2 pos pos2 : Pos} {e : Expr} {fa : FA} (hc : X.calm = true) (hg : Gl X x) (hm : X.mg x = none) (hv : bootBuiltins x = some (.builtin "sorted")) (hg2 : Gl X y) (hm2 : X.mg y = none) (hv2 : bootBuiltins y = some (.type "set")) (ha : DA X Z [e] fa)
    (hn : x ≠ "__name__" := by decide) (hdb : (x == ("__debug__" : Str)) = false := by decide) (hn2 : y ≠ "__name__" := by decide) (hdb2 : (y == ("__debug__" : Str)) = false := by decide)
    (he : starEach [e] X.env = (false, eval e X.env) :: starEach [] X.env := by rfl)
    (he3 : starEach [.Call (.Name y p2) [e] [] pos2] X.env = (false, eval (.Call (.Name y p2) [e] [] pos2) X.env) :: starEach [] X.env := by rfl) : DE X Z (.Call (.Name x p) [.Call (.Name y p2) [e] [] pos2] [] pos) (fSortSet fa) := by
  refine ⟨PE.imp (pe_callB (cr_sortedSet hc) hg hm hv (pa_cons (pe_callTy (cr_setTI hc) hg2 hm2 hv2 ha.pa hn2 hdb2 he rfl) pa_nil he3) hn hdb he3 rfl) fun σ H Q q => ?_⟩
  obtain ⟨sg, S, Φ, ρ, env, sim, q⟩ := q
  refine ⟨sg, S, Φ, ρ, env, sim, Out.wp_mono (Out.wp_bind q) (fun ws S1 _ q Φ1 ρ1 H1 vs t1 s1 r1 => ?_) (fun _ _ z => z)⟩
  split at q
  · rename_i w
    obtain ⟨v, rfl, r2⟩ := repws1 r1
    split at q
    · rename_i ds e1
      obtain ⟨a, us, rfl, h1, r3⟩ := pkW_ok r2 s1 e1
      split at q
      · rename_i ns e2
        obtain rfl := intsOf_ok r3 e2
        obtain ⟨hl, q⟩ := gate_wp q
        have hl := of_dec hl
        refine ⟨a, ns, rfl, h1, by omega, fun p c hcl hp => ?_⟩
        have ta := Tr.newObj (Φ := Φ1) (ρ := ρ1) (S := S1) (o := SetO X.w p (fun j => decide (j ∈ ns)) c) hp
        have sa := s1.newObj (o := SetO X.w p (fun j => decide (j ∈ ns)) c) hp
        refine ⟨p, _, c, rfl, upd_same .., by omega, fun ns' p' hpw hmem hlen hp' => ?_⟩
        have en : ns' = sortU ns := incr_one hpw (sortU_pw ns) fun z => (hmem z).trans (by simp [sortU_mem])
        subst en
        exact q _ _ _ _ (t1.trans (ta.trans (Tr.newObj hp'))) (sa.newObj hp') ((RepR.newL sa hp' (repInts _)).early (t1.trans ta).there)
      · exact q.elim
    · exact q.elim
  · exact q.elim
/-! ### list(range(n)), tuple(range(n)), int of a text -/
def fListRg (fe : FE) : FE := fun sg S => (fe sg S).bind fun r S1 => match r with
  | .d (.int j) => gate (rngOk j) (.ok (.new (rangeD 0 j.toNat)) S1)
  | _ => .stuck
theorem rgV_rep {Φ : Addr → Prop} {H : Hp} (j : Int) : RepA K Φ H (rgV 0 j) (rangeD 0 j.toNat) := by
  have e1 : rgV 0 j = ((List.range j.toNat).map fun (i : Nat) => (0 : Int) + i).map V.int := by
    unfold rgV; rw [Int.sub_zero, List.map_map]; rfl
  have e2 : rangeD 0 j.toNat = ((List.range j.toNat).map fun (i : Nat) => (0 : Int) + i).map PyData.int := by
    unfold rangeD; rw [List.map_map]; rfl
  rw [e1, e2]
  exact repInts _
theorem de_listRg {a : Expr} {fe : FE} {p p2 pos pos2 : Pos} (hc : X.calm = true) (hg : Gl X "list") (hm : X.mg "list" = none) (hg2 : Gl X "range") (hm2 : X.mg "range" = none) (ha : DE X Z a fe)
    (na : starEach [a] X.env = (false, eval a X.env) :: starEach [] X.env := by rfl) (na2 : starEach [.Call (.Name "range" p2) [a] [] pos2] X.env = (false, eval (.Call (.Name "range" p2) [a] [] pos2) X.env) :: starEach [] X.env := by rfl) : DE X Z (.Call (.Name "list" p) [.Call (.Name "range" p2) [a] [] pos2] [] pos) (fListRg fe) := by
  refine ⟨PE.imp (pe_listRg hc hg hm (prg_1 hg2 hm2 ha.pe na) na2) fun σ H Q q => ?_⟩
  obtain ⟨sg, S, Φ, ρ, env, sim, q⟩ := q
  refine ⟨sg, S, Φ, ρ, env, sim, Out.wp_mono (Out.wp_bind q) (fun r S1 eo1 q Φ1 ρ1 H1 v t1 s1 r1 => ?_) (fun _ _ z => z)⟩
  clear eo1
  split at q
  · rename_i j
    obtain ⟨hl, q⟩ := gate_wp q
    cases r1
    have h := of_dec (show decide (j.natAbs ≤ 1000000) = true from hl)
    refine ⟨j, rfl, ⟨by omega, by omega, by omega, by omega, by omega⟩, fun p hp => ?_⟩
    exact q _ _ _ _ (t1.trans (Tr.newObj hp)) (s1.newObj hp) ((RepR.newL s1 hp (rgV_rep j)).early t1.there)
  · exact q.elim
def gIntS (S : Sto) : List D → Out R
  | [.str a] => match PySem.intText? a with
    | some n => gate (decide (a.length ≤ 640)) (.ok (.d (.int n)) S)
    | none => .stuck
  | [.int i] => .ok (.d (.int i)) S
  | [.bool b] => .ok (.d (.int (if b then 1 else 0))) S
  | _ => .stuck
theorem cg_intS : CallR X (.type "int") (rCG X.K Z gIntS) := cg_of fun Φ ρ S H vs ds Q s r q => by
  unfold gIntS at q
  split at q
  · obtain ⟨v, rfl, h⟩ := views1 r
    cases h
    split at q
    · rename_i n e1
      obtain ⟨hl, q⟩ := gate_wp q
      exact ⟨_, call_int_str, _, n, rfl, e1, of_dec hl, post_d s q (.int _)⟩
    · exact q.elim
  · obtain ⟨v, rfl, h⟩ := views1 r
    cases h
    exact ⟨_, call_int1, .inl ⟨_, rfl, post_d s q (.int _)⟩⟩
  · obtain ⟨v, rfl, h⟩ := views1 r
    cases h
    exact ⟨_, call_int1, .inr ⟨_, rfl, post_d s q (.int _)⟩⟩
  · exact q.elim
end
theorem bt_set : bootBuiltins ("set" : Str) = some (.type "set") := by decide +kernel
theorem bt_dict : bootBuiltins ("dict" : Str) = some (.type "dict") := by decide +kernel
theorem bt_zip : bootBuiltins ("zip" : Str) = some (.type "zip") := by decide +kernel
end Dl
/-! Dl19: displays and comprehensions of dicts, zip, range of three, op=, while, pairs of names, pop. -/
namespace Dl
open PySem PySem.Spec PyProof.Rows L2
/-! ### displays of dicts -/
def mergeD (kvs more : List (Key × D)) : List (Key × D) := more.foldl (fun acc kv => dPut acc kv.1 kv.2) kvs
def fPairs : List (FE × FE) → Sg → Sto → Out (List (Key × D))
  | [], _, S => .ok [] S
  | p :: r, sg, S => (p.1 sg S).bind fun rk S1 => (toD rk S1).bind fun k S2 => match keyD k with
    | some kk => (p.2 sg S2).bind fun rv S3 => (toD rv S3).bind fun d S4 => (fPairs r sg S4).bind fun kvs S5 => .ok ((kk, d) :: kvs) S5
    | none => .stuck
def fDisp (ps : List (FE × FE)) : FE := fun sg S => (fPairs ps sg S).bind fun kvs S1 => gate (decide (kvs.length ≤ 15)) (.ok (.newd (mergeD [] kvs)) S1)
structure DPs (X : Cx) (Z : XZ) (pos : Pos) (keys : List (Option Expr)) (values : List Expr) (ps : List (FE × FE)) : Prop where
  pps : PPs X pos keys values (ps.map fun p => (tE X.K Z p.1, tE X.K Z p.2))
section
variable {X : Cx} {Z : XZ} {K : PySem.W.Frag}
theorem RepKV.merge {Φ : Addr → Prop} {H : Hp} : ∀ {us ws : List (Key × V)} {more kvs : List (Key × D)}, RepKV K Φ H us more → RepKV K Φ H ws kvs → RepKV K Φ H (mergeK ws us) (mergeD kvs more)
  | [], _, [], _, _, h => h
  | [], _, _ :: _, _, h, _ => by cases h.1
  | _ :: _, _, [], _, h, _ => by cases h.1
  | u :: us, ws, m :: more, kvs, h, h2 => by
    obtain ⟨e, r⟩ := h
    simp only [List.map_cons, List.cons.injEq] at e
    cases r with
    | cons a t =>
      have q := h2.put m.1 a
      rw [← e.1] at q
      have q2 := RepKV.merge (us := us) (more := more) ⟨e.2, t⟩ q
      show RepKV K Φ H (mergeK (putK ws u.1 u.2) us) (mergeD (dPut kvs m.1 m.2) more)
      rw [← e.1]
      exact q2
theorem dps_nil {pos : Pos} : DPs X Z pos [] [] [] := ⟨pps_nil⟩
theorem dps_cons {pos : Pos} {k v : Expr} {ks : List (Option Expr)} {vs : List Expr} {fk fv : FE} {ps : List (FE × FE)} (hk : DE X Z k fk) (hv : DE X Z v fv) (hr : DPs X Z pos ks vs ps) : DPs X Z pos (some k :: ks) (v :: vs) ((fk, fv) :: ps) :=
  ⟨pps_cons hk.pe hv.pe hr.pps⟩
theorem pairs_imp {σ : L2.St} : ∀ {ps : List (FE × FE)} {Q : List (V × V) → Hp → Prop} {sg : Sg} {S : Sto} {Φ : Addr → Prop} {ρ : List Addr} {H : Hp}, EnvR K Φ ρ H σ sg → Sim K Φ ρ H S →
    (fPairs ps sg S).wp (fun kvs S' => ∀ Φ' ρ' H' us, Tr Φ ρ S H Φ' ρ' S' H' → Sim K Φ' ρ' H' S' → RepKV K Φ' H' us kvs → Q (us.map fun kv => (kV kv.1, kv.2)) H') (fun e S' => Z.p Φ ρ S H e S') →
    tPairs (ps.map fun p => (tE K Z p.1, tE K Z p.2)) σ H Q
  | [], Q, sg, S, Φ, ρ, H, env, sim, q => q Φ ρ H [] .refl sim ⟨rfl, .nil⟩
  | (fk, fv) :: r, Q, sg, S, Φ, ρ, H, env, sim, q => by
    unfold fPairs at q
    refine ⟨sg, S, Φ, ρ, env, sim, Out.wp_mono (Out.wp_bind q) (fun rk S1 eo1 q Φ1 ρ1 H1 v t1 s1 r1 => ?_) (fun _ _ z => z)⟩
    clear eo1
    obtain ⟨k, S2, Φ2, q, t2, s2, r2⟩ := toD_wp r1 s1 (Out.wp_bind q)
    have t12 := t1.take t2 fun _ h => h
    split at q
    · rename_i kk ek
      refine ⟨sg, S2, Φ2, ρ1, env.mono sim t12, s2, Out.wp_mono (Out.wp_bind q) (fun rv S3 eo3 q Φ3 ρ3 H3 w t3 s3 r3 => ?_) (fun _ _ z => Z.after z t12)⟩
      clear eo3
      obtain ⟨d, S4, Φ4, q, t4, s4, r4⟩ := toD_wp r3 s3 (Out.wp_bind q)
      have t34 := t3.take t4 fun _ h => h
      have t14 := t12.trans t34
      refine pairs_imp (Q := fun ps H' => Q ((v, w) :: ps) H') (env.mono sim t14) s4 (Out.wp_mono (Out.wp_bind q) (fun kvs S5 _ q Φ5 ρ5 H5 us t5 s5 r5 => ?_) (fun _ _ z => Z.after z t14))
      have e : v = kV kk := keyD_view r2.view ek
      have z := q Φ5 ρ5 H5 ((kk, w) :: us) (t14.trans t5) s5 ⟨by simp only [List.map_cons, r5.1], .cons (Rep.mono s4 t5 r4) r5.2⟩
      rw [e]; exact z
    · exact q.elim
theorem de_disp {pos : Pos} {keys : List (Option Expr)} {values : List Expr} {ps : List (FE × FE)} (h : DPs X Z pos keys values ps) (hall : keys.all (·.isSome) = true := by rfl) (hl : keys.length = values.length := by rfl) (h0 : keys ≠ [] := by exact List.cons_ne_nil _ _)
    (h15 : keys.length ≤ 15 := by decide) : DE X Z (.Dict keys values pos) (fDisp ps) := by
  refine ⟨PE.imp (pe_disp h.pps hall hl h0 h15) fun σ H Q q => ?_⟩
  obtain ⟨sg, S, Φ, ρ, env, sim, q⟩ := q
  intro L hL
  have ta := Tr.newObj (Φ := Φ) (ρ := ρ) (S := S) (o := .dK []) hL
  have sa := sim.newObj (o := .dK []) hL
  have np : ¬ Φ L := fun e => sim.phi L e hL
  have nm : ¬ MutAt ρ S L := fun m => by
    obtain ⟨o, e, _⟩ := sim.mutl m
    rw [hL] at e; cases e
  have hu : upd H L (.dK []) L = some (.dK []) := upd_same
  refine pairs_imp (env.mono sim (A := fun _ => False) ta) sa (Out.wp_mono (Out.wp_bind q) (fun kvs S1 _ q Φ1 ρ1 H1 us t1 s1 r1 => ?_) (fun _ _ z => Z.after z ta))
  obtain ⟨hg, q⟩ := gate_wp q
  have h2 := t1.keep L _ hu nm
  have np1 := t1.newNot hu np nm
  have nm1 := t1.noMut (by rw [hu]; simp) nm
  refine ⟨h2, us, rfl, by rw [r1.len]; exact of_dec hg, ?_⟩
  have rm := RepKV.merge r1 (ws := []) (kvs := []) ⟨rfl, .nil⟩
  exact q Φ1 ρ1 _ (.ref L) ((ta.trans t1).updN hL _) (s1.updN h2 trivial np1 (fun _ _ _ e => nomatch e) nm1) ⟨L, _, rfl, upd_same, ⟨rm.1, RepA.updN h2 trivial np1 rm.2⟩, np1, nm1, hL⟩

/-! ### comprehensions of dicts -/
def compD (sg : Sg) (b : FB) (ft : FT) (fk fv : FE) : List D → List (Key × D) → Sto → Out (List (Key × D))
  | [], acc, S => .ok acc S
  | x :: xs, acc, S => match b x sg with
    | none => .stuck
    | some sg1 => (noX (ft sg1 S)).bind fun c S1 => cond c
      ((noX (fk sg1 S1)).bind fun rk S2 => (toD rk S2).bind fun k S3 => match keyD k with
        | some kk => (noX (fv sg1 S3)).bind fun rv S4 => (toD rv S4).bind fun d S5 => compD sg b ft fk fv xs (dPut acc kk d) S5
        | none => .stuck)
      (compD sg b ft fk fv xs acc S1)
def fDc (vs : List Nat) (fi : FI) (b : FB) (ft : FT) (fk fv : FE) : FE := fun sg S => (fi sg S).bind fun xs S1 => gate (decide (xs.length ≤ lim)) ((noX (compD (wipeG sg vs) b ft fk fv xs [] S1)).bind fun kvs S2 => .ok (.newd kvs) S2)
/-- a comprehension of a dict over a walk -/
theorem dc_walk {J : It} {n : Nat} {G : Hp → Prop} {Y : Nat → Hp → V → Hp → Prop} (w : L2.Walk J n G Y) {g : TG} {tt : TT} {tk tv : TE} {vs : List Nat} {σ : L2.St} {H1 : Hp} {D : Addr} {Qd : Hp → Prop} (Pv : Nat → Hp → Prop) (h0 : Pv 0 (upd H1 D (.dK []))) (hG : ∀ i H, i ≤ n → Pv i H → G H)
    (hs : ∀ i x H H', i < n → Pv i H → Y i H x H' → g x (L2.wipe σ vs) H' fun σ2 H2 => L2.wipe σ2 vs = L2.wipe σ vs ∧ tt σ2 H2 fun b H3 =>
      if b = true then tk σ2 H3 fun y H4 => tv σ2 H4 fun z H5 => ∃ kvs k, y = kV k ∧ H5 D = some (.dK kvs) ∧ kvs.length < sizeLine ∧ Pv (i + 1) (upd H5 D (.dK (putK kvs k z))) else Pv (i + 1) H3) (hd : ∀ H, Pv n H → Qd H) :
    ∃ W : Nat → Nat → Hp → Prop, (∃ m, W 0 m (upd H1 D (.dK []))) ∧ ∀ i m H, W i m H →
      (J.stop i H ∧ Qd H) ∨ (J.go i H ∧ ∃ Nx : Hp → Prop, (∀ H', Nx H' → ∃ m', m' < m ∧ W (i + 1) m' H') ∧ ∀ x H', J.yld i H x H' → g x (L2.wipe σ vs) H' fun σ2 H2 => L2.wipe σ2 vs = L2.wipe σ vs ∧ tt σ2 H2 fun b H3 =>
        if b = true then tk σ2 H3 fun y H4 => tv σ2 H4 fun z H5 => ∃ kvs k, y = kV k ∧ H5 D = some (.dK kvs) ∧ kvs.length < sizeLine ∧ Nx (upd H5 D (.dK (putK kvs k z))) else Nx H3) := by
  refine ⟨fun i m H => m = n - i ∧ i ≤ n ∧ Pv i H, ⟨n, by simp, Nat.zero_le _, h0⟩, ?_⟩
  rintro i m H ⟨rfl, hi, p⟩
  have q := hG i H hi p
  by_cases hlt : i < n
  · exact .inr ⟨w.goes i H hlt q, Pv (i + 1), fun H' p' => ⟨n - (i + 1), by omega, rfl, hlt, p'⟩, fun x H' y => hs i x H H' hlt p (w.yields i H x H' hlt q y)⟩
  · obtain rfl : i = n := by omega
    exact .inl ⟨w.stops H q, hd H p⟩
theorem dPut_len {β : Type} (kvs : List (Key × β)) (k : Key) (d : β) : (dPut kvs k d).length ≤ kvs.length + 1 := by
  unfold dPut; split <;> simp
theorem keepO {Φ Φ' : Addr → Prop} {ρ ρ' : List Addr} {S S' : Sto} {H H' : Hp} {L : Addr} {o : HO} (t : Tr Φ ρ S H Φ' ρ' S' H') (h2 : H L = some o) (np : ¬ Φ L) (nm : ¬ MutAt ρ S L) : H' L = some o ∧ ¬ Φ' L ∧ ¬ MutAt ρ' S' L :=
  ⟨t.keep L _ h2 nm, t.newNot h2 np nm, t.noMut (by rw [h2]; simp) nm⟩
theorem dc_imp {vs : List Nat} {fi : FI} {b : FB} {ft : FT} {fk fv : FE} {σ : L2.St} {H : Hp} {Q : VK} (q : tE K Z (fDc vs fi b ft fk fv) σ H Q) : tDc (tI K Z fi) (tG K vs b) (tT K XZ.no ft) (tE K XZ.no fk) (tE K XZ.no fv) vs σ H Q := by
  obtain ⟨sg, S, Φ, ρ, env, sim, q⟩ := q
  refine ⟨sg, S, Φ, ρ, env, sim, Out.wp_mono (Out.wp_bind q) (fun xs S1 _ q Φ1 ρ1 H1 J t1 s1 wk => ?_) (fun _ _ z => z)⟩
  obtain ⟨hlen, q⟩ := gate_wp q
  have hlen := of_dec hlen
  obtain ⟨G, Y, w, wk⟩ := wk
  intro L hL
  have hH : H L = none := by
    cases e : H L with
    | none => rfl
    | some o => exact absurd hL (t1.there L (by rw [e]; simp))
  refine dc_walk w (fun i H' => ∃ S Φ ρ acc ds, Tr Φ1 ρ1 S1 H1 Φ ρ S H' ∧ Sim K Φ ρ H' S ∧ EnvR K Φ ρ H' (L2.wipe σ vs) (wipeG sg vs) ∧ H' L = some (.dK acc) ∧ RepKV K Φ H' acc ds ∧ ¬ Φ L ∧ ¬ MutAt ρ S L ∧ ds.length ≤ i ∧
      (compD (wipeG sg vs) b ft fk fv (xs.drop i) ds S).wp (fun kvs S' => ∀ Φ' ρ' H3 v, Tr Φ1 ρ1 S1 H1 Φ' ρ' S' H3 → Sim K Φ' ρ' H3 S' → RepR K Φ' ρ' S' H3 H v (.newd kvs) → Q v H3) (fun _ _ => False)) ?_ (fun i H' _ ⟨S, Φ, ρ, _, _, t, s, _⟩ => (wk Φ ρ S H' (t.tw s1) s).1) ?_ ?_
  · have nm : ¬ MutAt ρ1 S1 L := fun m => by
      obtain ⟨vs, e, _⟩ := s1.mutl m
      rw [hL] at e; cases e
    have np : ¬ Φ1 L := fun e => s1.phi L e hL
    refine ⟨S1, Φ1, ρ1, [], [], Tr.newObj hL, s1.newObj hL, ((env.mono sim t1).mono s1 (A := fun _ => False) (Tr.newObj hL)).wipe vs, upd_same, ⟨rfl, .nil⟩, np, nm, Nat.le_refl _, ?_⟩
    exact Out.wp_mono (noX_wp (Out.wp_bind q)) (fun ys S2 _ q Φ' ρ' H3 v t s r => q Φ' ρ' H3 v (t1.trans t) s r) (fun e S' z => z)
  · rintro i x H' H3 hi ⟨S2, Φ2, ρ2, acc, ds, t2, s2, env2, h2, ra, np, nm, hd, q⟩ y
    obtain ⟨d, hx, t3, s3, r3⟩ := (wk Φ2 ρ2 S2 H' (t2.tw s1) s2).2 i x H3 hi y
    have hdrop : xs.drop i = d :: xs.drop (i + 1) := by
      obtain ⟨h1, e1⟩ := List.getElem?_eq_some_iff.mp hx
      rw [List.drop_eq_getElem_cons h1, e1]
    rw [hdrop] at q
    unfold compD at q
    have t13 := t2.trans t3
    refine ⟨d, wipeG sg vs, Φ2, ρ2, env2.mono s2 t3, r3, ?_⟩
    split at q
    · exact q.elim
    · rename_i sg3 e3
      rw [e3]
      intro σ3 env3 hw
      refine ⟨hw.trans (wipe_wipe σ vs), sg3, S2, Φ2, ρ2, env3, s3, Out.wp_mono (noX_wp (Out.wp_bind q)) (fun c S4 _ q Φ4 ρ4 H4 t4 s4 => ?_) (fun _ _ z => z)⟩
      have t14 := t13.trans t4
      have t24 := t3.trans t4
      obtain ⟨h4, np4, nm4⟩ := keepO t24 h2 np nm
      cases c with
      | false =>
        refine iteF ?_
        exact ⟨S4, Φ4, ρ4, acc, ds, t14, s4, env2.mono s2 t24, h4, ra.mono s2 t24, np4, nm4, Nat.le_succ_of_le hd, q⟩
      | true =>
        refine iteT ?_
        refine ⟨sg3, S4, Φ4, ρ4, env3.mono s3 t4, s4, Out.wp_mono (noX_wp (Out.wp_bind q)) (fun rk S5 eo5 q Φ5 ρ5 H5 yv t5 s5 r5 => ?_) (fun _ _ z => z)⟩
        clear eo5
        obtain ⟨k, S6, Φ6, q, t6, s6, r6⟩ := toD_wp r5 s5 (Out.wp_bind q)
        have t46 := t5.take t6 fun _ h => h
        have t26 := t24.trans t46
        have env6 := (env3.mono s3 t4).mono s4 t46
        split at q
        · rename_i kk ek
          refine ⟨sg3, S6, Φ6, ρ5, env6, s6, Out.wp_mono (noX_wp (Out.wp_bind q)) (fun rv S7 eo7 q Φ7 ρ7 H7 zv t7 s7 r7 => ?_) (fun _ _ z => z)⟩
          clear eo7
          obtain ⟨d', S8, Φ8, q, t8, s8, r8⟩ := toD_wp r7 s7 (Out.wp_bind q)
          have t68 := t7.take t8 fun _ h => h
          have t28 := t26.trans t68
          have t18 := t13.trans (t4.trans (t46.trans t68))
          obtain ⟨h8, np8, nm8⟩ := keepO t28 h2 np nm
          have ra8 := ra.mono s2 t28
          have e : yv = kV kk := keyD_view r6.view ek
          refine ⟨acc, kk, e, h8, lim_lt (by rw [ra8.len]; omega), S8, Φ8, ρ7, putK acc kk zv, dPut ds kk d', t18.updN hL _, s8.updN h8 trivial np8 (fun _ _ _ e => nomatch e) nm8, (env2.mono s2 t28).updN h8 trivial np8, upd_same, ?_, np8, nm8, ?_, q⟩
          · have z := ra8.put kk r8
            exact ⟨z.1, RepA.updN h8 trivial np8 z.2⟩
          · have := dPut_len ds kk d'; omega
        · exact q.elim
  · rintro H' ⟨S2, Φ2, ρ2, acc, ds, t2, s2, env2, h2, ra, np, nm, hd, q⟩
    rw [List.drop_length] at q
    exact q Φ2 ρ2 H' _ t2 s2 ⟨L, acc, rfl, h2, ra, np, nm, hH⟩
theorem de_dc {kx vx tg iter : Expr} {ifs : List Expr} {scope : Scope} {own : List (Str × Nat)} {pos : Pos} {fi : FI} {b : FB} {ft : FT} {fk fv : FE} (hc : X.calm = true) (hN : X.N.Nodup) (hi : DI X Z tg iter fi) (ok : blkC X.N X.env.scope scope own = true)
    (hg : ∀ (s : Shared) (H : Hp) (C : Addr) (cl : List (Str × Addr)) (fp : List Addr), DG (X.blk s H scope (compEnvC scope cl C X.env) fp) tg (own.map (·.2)) b)
    (ht : ∀ (s : Shared) (H : Hp) (C : Addr) (cl : List (Str × Addr)) (fp : List Addr), DTs (X.blk s H scope (compEnvC scope cl C X.env) fp) XZ.no ifs ft)
    (hk : ∀ (s : Shared) (H : Hp) (C : Addr) (cl : List (Str × Addr)) (fp : List Addr), DE (X.blk s H scope (compEnvC scope cl C X.env) fp) XZ.no kx fk)
    (he : ∀ (s : Shared) (H : Hp) (C : Addr) (cl : List (Str × Addr)) (fp : List Addr), DE (X.blk s H scope (compEnvC scope cl C X.env) fp) XZ.no vx fv) (hs : ∀ x, foldedSetIterable iter X.env x = pure x := by intro _; rfl) :
    DE X Z (.DictComp kx vx [⟨tg, iter, ifs, 0⟩] scope pos) (fDc (own.map (·.2)) fi b ft fk fv) :=
  ⟨PE.imp (pe_dc hc hN hi.pi (blkOk_by ok) (fun s H C cl fp => (hg s H C cl fp).pg) (fun s H C cl fp => (ht s H C cl fp).pt) (fun s H C cl fp => (hk s H C cl fp).pe) (fun s H C cl fp => (he s H C cl fp).pe) hs) fun _ _ _ q => dc_imp q⟩

/-! ### zip of two lists, of two tuples -/
def zipD : List D → List D → List D
  | x :: xs, y :: ys => .tuple [x, y] :: zipD xs ys
  | _, _ => []
theorem zipD_len : ∀ xs ys : List D, (zipD xs ys).length = min xs.length ys.length
  | [], ys => by simp [zipD]
  | x :: xs, [] => by simp [zipD]
  | x :: xs, y :: ys => by simp only [zipD, List.length_cons, zipD_len xs ys]; omega
theorem zipD_get : ∀ {xs ys : List D} {i : Nat} {x y : D}, xs[i]? = some x → ys[i]? = some y → (zipD xs ys)[i]? = some (.tuple [x, y])
  | [], _, _, _, _, h, _ => by simp at h
  | _ :: _, [], _, _, _, _, h => by simp at h
  | a :: xs, b :: ys, 0, x, y, h1, h2 => by simp at h1 h2; subst h1 h2; rfl
  | a :: xs, b :: ys, i + 1, x, y, h1, h2 => by
    simp only [zipD, List.getElem?_cons_succ]
    exact zipD_get (by simpa using h1) (by simpa using h2)
def fZip (fa : FA) : FI := fun sg S => (fa sg S).bind fun ws S1 => (wsD ws S1).bind fun ds S2 => match ds with
  | [.list xs, .list ys] => .ok (zipD xs ys) S2
  | [.tuple xs, .tuple ys] => .ok (zipD xs ys) S2
  | _ => .stuck
theorem walk_zipT {a b : Addr} {xs ys : List V} {n : Nat} (hn : n = min xs.length ys.length) : L2.Walk (RZ.ItzT K a b) n (fun H => SqT K H a xs ∧ SqT K H b ys) (YPair (fun i => xs[i]?) (fun i => ys[i]?)) := by
  subst hn
  refine ⟨fun i _ hi q => ?_, fun _ q => ⟨xs, ys, q.1, q.2, by omega⟩, fun i H v H' _ q y => ?_⟩
  · have h1 : i < xs.length := by omega
    have h2 : i < ys.length := by omega
    exact ⟨xs, ys, xs[i], ys[i], q.1, q.2, by simp [h1], by simp [h2]⟩
  · obtain ⟨T, x, z, h1, h2, h3, h4, h5⟩ := y
    exact ⟨T, x, z, h1, h2, h3, h4 xs q.1, h5 ys q.2⟩
theorem di_zip {e e2 : Expr} {fa : FA} {p pos tpos : Pos} {elts : List Expr} {kk : Nat} (hg : Gl X "zip") (hm : X.mg "zip" = none) (ha : DA X Z [e, e2] fa)
    (hs : starEach [e, e2] X.env = (false, eval e X.env) :: starEach [e2] X.env := by rfl) (hpl : (backTo pos (starEach [e2] X.env)).any (·.1) = false := by rfl) :
    DI X Z (.Tuple elts kk tpos) (.Call (.Name "zip" p) [e, e2] [] pos) (fZip fa) := by
  refine ⟨PI.imp (RZ.pi_zipA hg hm ha.pa hs hpl) fun σ H Q q => ?_⟩
  obtain ⟨sg, S, Φ, ρ, env, sim, q⟩ := q
  refine ⟨sg, S, Φ, ρ, env, sim, Out.wp_mono (Out.wp_bind q) (fun ws S1 _ q Φ1 ρ1 H1 vs t1 s1 r1 => ?_) (fun _ _ z => z)⟩
  obtain ⟨ds, S2, Φ2, q, t2, s2, r2⟩ := wsD_wp r1 s1 (Out.wp_bind q)
  have t12 := t1.trans t2
  split at q
  · rename_i xs ys
    cases r2 with
    | cons ra r2 =>
    cases r2 with
    | cons rb r2 =>
    cases r2
    rename_i va vb
    obtain ⟨a, rfl⟩ : ∃ a, va = .ref a := by cases ra <;> exact ⟨_, rfl⟩
    obtain ⟨b, rfl⟩ : ∃ b, vb = .ref b := by cases rb <;> exact ⟨_, rfl⟩
    obtain ⟨us, ra, sqa, sta⟩ := SqL.stay ra
    obtain ⟨ws', rb, sqb, stb⟩ := SqL.stay rb
    have hl : (zipD xs ys).length = min us.length ws'.length := by rw [zipD_len, ra.length, rb.length]
    refine ⟨a, b, us, ws', rfl, .inl ⟨sqa, sqb, q _ _ _ _ t12 s2 ⟨_, _, walk_zip hl, fun Φ3 ρ3 S3 H3 t3 s3 => ⟨⟨sta _ _ t3, stb _ _ t3⟩, fun i x H4 hi y => ?_⟩⟩⟩⟩
    have h1 : i < xs.length := by rw [zipD_len] at hi; omega
    have h2 : i < ys.length := by rw [zipD_len] at hi; omega
    refine ⟨_, zipD_get (List.getElem?_eq_getElem h1) (List.getElem?_eq_getElem h2), pair_walkD (Φ := Φ2) (ρ := ρ1) (S := S2) (H := H1) s3 y (fun v e => ?_) (fun v e => ?_)⟩
    · obtain ⟨d, e1, e2⟩ := ra.get' e
      rw [List.getElem?_eq_getElem h1] at e1; cases e1
      exact Rep.tw t3 e2
    · obtain ⟨d, e1, e2⟩ := rb.get' e
      rw [List.getElem?_eq_getElem h2] at e1; cases e1
      exact Rep.tw t3 e2
  · rename_i xs ys
    cases r2 with
    | cons ra r2 =>
    cases r2 with
    | cons rb r2 =>
    cases r2
    cases ra with
    | tup sqa ra =>
    cases rb with
    | tup sqb rb =>
    rename_i a us b ws'
    have hl : (zipD xs ys).length = min us.length ws'.length := by rw [zipD_len, ra.length, rb.length]
    refine ⟨a, b, us, ws', rfl, .inr ⟨sqa, sqb, q _ _ _ _ t12 s2 ⟨_, _, walk_zipT hl, fun Φ3 ρ3 S3 H3 t3 s3 => ⟨⟨SqT.tw t3 sqa, SqT.tw t3 sqb⟩, fun i x H4 hi y => ?_⟩⟩⟩⟩
    have h1 : i < xs.length := by rw [zipD_len] at hi; omega
    have h2 : i < ys.length := by rw [zipD_len] at hi; omega
    refine ⟨_, zipD_get (List.getElem?_eq_getElem h1) (List.getElem?_eq_getElem h2), pair_walkD (Φ := Φ2) (ρ := ρ1) (S := S2) (H := H1) s3 y (fun v e => ?_) (fun v e => ?_)⟩
    · obtain ⟨d, e1, e2⟩ := ra.get' e
      rw [List.getElem?_eq_getElem h1] at e1; cases e1
      exact Rep.tw t3 e2
    · obtain ⟨d, e1, e2⟩ := rb.get' e
      rw [List.getElem?_eq_getElem h2] at e1; cases e1
      exact Rep.tw t3 e2
  · exact q.elim

/-! ### range(a, b, -1) -/
def downD (lo : Int) (n : Nat) : List D := (List.range n).map fun (i : Nat) => .int (lo + (i : Nat) * (-1))
def fRange3 (fa : FA) : FI := fun sg S => (fa sg S).bind fun ws S1 => match viewsOf S1 ws with
  | some [.int i, .int j, .int k] => gate (rngOk i && rngOk j && decide (k = -1)) (.ok (downD i (i - j).toNat) S1)
  | _ => .stuck
theorem down_walkD {Φ : Addr → Prop} {ρ : List Addr} {S : Sto} {H : Hp} (lo : Int) (n : Nat) : WalkD K Φ ρ S H (Itc lo (-1) n) (downD lo n) := by
  have hl : (downD lo n).length = n := by simp [downD]
  refine ⟨_, _, (by rw [hl]; exact walk_rangeC), fun Φ2 ρ2 S2 H2 t s => ⟨trivial, fun i x H3 hi y => ?_⟩⟩
  obtain ⟨rfl, rfl⟩ := y
  rw [hl] at hi
  exact ⟨.int (lo + (i : Nat) * (-1)), by simp [downD, hi], .refl, s, .int _⟩
theorem views3 {Φ : Addr → Prop} {H : Hp} {vs : List V} {a b c : D} (h : Paired (View K Φ H) vs [a, b, c]) : ∃ x y z, vs = [x, y, z] ∧ View K Φ H x a ∧ View K Φ H y b ∧ View K Φ H z c := by
  cases h with
  | cons h1 h =>
  cases h with
  | cons h2 h =>
  cases h with
  | cons h3 h =>
  cases h
  exact ⟨_, _, _, rfl, h1, h2, h3⟩
theorem di_range3 {tg a b c : Expr} {fa : FA} {p pos : Pos} (hg : Gl X "range") (hm : X.mg "range" = none) (ha : DA X Z [a, b, c] fa)
    (hs : starEach [a, b, c] X.env = (false, eval a X.env) :: starEach [b, c] X.env := by rfl) (hpl : (backTo pos (starEach [b, c] X.env)).any (·.1) = false := by rfl) : DI X Z tg (.Call (.Name "range" p) [a, b, c] [] pos) (fRange3 fa) := by
  refine ⟨PI.imp (pi_range3 hg hm ha.pa hs hpl) fun σ H Q q => ?_⟩
  obtain ⟨sg, S, Φ, ρ, env, sim, q⟩ := q
  refine ⟨sg, S, Φ, ρ, env, sim, Out.wp_mono (Out.wp_bind q) (fun ws S1 eoS1 q Φ1 ρ1 H1 vs t1 s1 r1 => ?_) (fun _ _ z => z)⟩
  split at q
  · rename_i i j k e
    obtain ⟨hl, qq⟩ := gate_wp q
    clear q
    obtain ⟨hl, hk⟩ := Bool.and_eq_true_iff.mp hl
    obtain ⟨g1, g2⟩ := Bool.and_eq_true_iff.mp hl
    have hk := of_dec hk
    subst hk
    obtain ⟨v, w, u, rfl, h1, h2, h3⟩ := views3 (viewsOf_ok s1 r1 e)
    cases h1; cases h2; cases h3
    exact ⟨i, j, -1, (i - j).toNat, rfl, RgC.neg (rngOk_ok g1).1 (rngOk_ok g1).2 (rngOk_ok g2).1 (rngOk_ok g2).2, qq _ _ _ _ t1 s1 (down_walkD i _)⟩
  · exact q.elim

/-! ### name op= e -/
def fAug (i : Nat) (g : Int → Int → Int) (f : FE) : FS := fun sg S => match sg[i]? with
  | some (some (.d (.int x))) => (f sg S).bind fun r S1 => match r with
    | .d (.int y) => .ok (.nx (sg.set i (some (.d (.int (g x y)))))) S1
    | _ => .stuck
  | _ => .stuck
theorem ds_aug {i : Nat} {x : Str} {e : Expr} {op : Operator} {g : Int → Int → Int} {f : FE} {pos pos' : Pos} (hN : X.N.Nodup) (hi : X.N[i]? = some x) (hx : Loc X.env.scope x) (he : DE X Z e f) (ho : PIp X op (ipI g)) (hf : X.fn x = true ∨ X.env.scope.names.lookup x = some .local := by first | exact .inl rfl | exact .inr rfl) :
    DS X Z (.AugAssign (.Name x pos') op e pos) (fAug i g f) := by
  refine ⟨PS.imp (ps_aug hN hi hx he.pe ho hf) fun D σ H q => ?_⟩
  obtain ⟨sg, S, Φ, ρ, env, sim, q⟩ := q
  unfold fAug at q
  split at q
  · rename_i x0 h0
    obtain ⟨v, hv, rv⟩ := env.get i _ h0
    cases rv
    refine ⟨_, hv, sg, S, Φ, ρ, env, sim, Out.wp_mono (Out.wp_bind q) (fun r S1 eo1 q Φ1 ρ1 H1 y t1 s1 r1 => ?_) (fun _ _ z => z)⟩
    clear eo1
    split at q
    · rename_i y0
      cases r1
      exact ⟨_, _, rfl, rfl, q _ _ _ _ t1 s1 ((env.mono sim t1).set i (w := .d (.int (g x0 y0))) (.int _))⟩
    · exact q.elim
  · exact q.elim

/-! ### while -/
def whileL (fc : FT) (fb : FS) : Nat → Sg → Sto → Out Fl
  | 0, _, _ => .stuck
  | N + 1, sg, S => (fc sg S).bind fun c S1 => cond c ((fb sg S1).bind fun fl S2 => match fl with
      | .nx g => whileL fc fb N g S2
      | .ct g => whileL fc fb N g S2
      | .bk g => .ok (.nx g) S2
      | .rt r => .ok (.rt r) S2) (.ok (.nx sg) S1)
def fWhile (N : Nat) (fc : FT) (fb : FS) : FS := fun sg S => whileL fc fb N sg S
theorem ds_while {N : Nat} {c : Expr} {body : List Stmt} {pos : Pos} {fc : FT} {fb : FS} (hp : PassesOwn (model X.prog X.w) X.A X.env X.xe) (hc : DT X Z c fc) (hb : DSs X Z body fb) : DS X Z (.While c body [] pos) (fWhile N fc fb) := by
  refine ⟨PS.imp (ps_while hp hc.pt hb.ps) fun D σ H q => ?_⟩
  obtain ⟨sg, S, Φ, ρ, env, sim, q⟩ := q
  refine ⟨fun m σ' H' => ∃ sg' S' Φ' ρ', Tr Φ ρ S H Φ' ρ' S' H' ∧ Sim X.K Φ' ρ' H' S' ∧ EnvR X.K Φ' ρ' H' σ' sg' ∧ (whileL fc fb m sg' S').wp (fun fl S'' => PostS X.K Φ' ρ' S' H' fl S'' D) (fun e S'' => Z.p Φ' ρ' S' H' e S''), ⟨N, sg, S, Φ, ρ, .refl, sim, env, q⟩, ?_⟩
  rintro m σ1 H1 ⟨sg1, S1, Φ1, ρ1, t1, s1, env1, q1⟩
  cases m with
  | zero => exact q1.elim
  | succ m =>
    unfold whileL at q1
    refine ⟨sg1, S1, Φ1, ρ1, env1, s1, Out.wp_mono (Out.wp_bind q1) (fun b S2 _ q2 Φ2 ρ2 H2 t2 s2 => ?_) (fun _ _ z => z)⟩
    have t12 := t1.trans t2
    have env2 := env1.mono s1 t2
    cases b with
    | false =>
      refine iteF ?_
      exact q2 _ _ _ _ t2 s2 env2
    | true =>
      refine iteT ?_
      refine ⟨_, fun σ' H' h => ⟨m, Nat.lt_succ_self _, h⟩, sg1, S2, Φ2, ρ2, env2, s2, Out.wp_mono (Out.wp_bind q2) (fun fl S3 _ q3 => ?_) (fun _ _ z => Z.after z t2)⟩
      cases fl with
      | nx g => exact fun Φ3 ρ3 H3 σ3 t3 s3 e3 => ⟨g, S3, Φ3, ρ3, t12.trans t3, s3, e3, Out.wp_mono q3 (fun _ _ _ q => PostS.after q (t2.trans t3)) (fun _ _ z => Z.after z (t2.trans t3))⟩
      | ct g => exact fun Φ3 ρ3 H3 σ3 t3 s3 e3 => ⟨g, S3, Φ3, ρ3, t12.trans t3, s3, e3, Out.wp_mono q3 (fun _ _ _ q => PostS.after q (t2.trans t3)) (fun _ _ z => Z.after z (t2.trans t3))⟩
      | bk g => exact fun Φ3 ρ3 H3 σ3 t3 s3 e3 => q3 _ _ _ _ (t2.trans t3) s3 e3
      | rt r => exact fun Φ3 ρ3 H3 v t3 s3 r3 => q3 _ _ _ _ (t2.trans t3) s3 (r3.early t2.there)

/-! ### a, b = x, y -/
def fPar (i j : Nat) (fa : FA) : FS := fun sg S => (fa sg S).bind fun ws S1 => match ws with
  | [w, u] => .ok (.nx ((sg.set i (some w)).set j (some u))) S1
  | _ => .stuck
theorem ds_par {i j : Nat} {x y : Str} {a b : Expr} {fa : FA} {px py pt pos : Pos} {kt k2 pt2} (hc : X.calm = true) (hN : X.N.Nodup) (hi : X.N[i]? = some x) (hj : X.N[j]? = some y) (hij : i ≠ j)
    (hx : X.env.scope.names.lookup x = some .local) (hy : X.env.scope.names.lookup y = some .local) (ha : DA X Z [a, b] fa)
    (hw : swappedStores [.Tuple [.Name x px, .Name y py] kt pt] (.Tuple [a, b] k2 pt2) X.env = pure (some [x, y]) := by rfl)
    (hs : swapsWithSole [.Tuple [.Name x px, .Name y py] kt pt] (.Tuple [a, b] k2 pt2) pos.line X.env = pure false := by rfl) :
    DS X Z (.Assign [.Tuple [.Name x px, .Name y py] kt pt] (.Tuple [a, b] k2 pt2) pos) (fPar i j fa) := by
  refine ⟨PS.imp (ps_par hc hN hi hj hij hx hy ha.pa hw hs) fun D σ H q => ?_⟩
  obtain ⟨sg, S, Φ, ρ, env, sim, q⟩ := q
  refine ⟨sg, S, Φ, ρ, env, sim, Out.wp_mono (Out.wp_bind q) (fun ws S1 _ q Φ1 ρ1 H1 vs t1 s1 r1 => ?_) (fun _ _ z => z)⟩
  split at q
  · rename_i w u
    cases r1 with
    | cons ra r1 =>
    cases r1 with
    | cons rb r1 =>
    cases r1
    exact ⟨_, _, rfl, q _ _ _ _ t1 s1 (((env.mono sim t1).set i ra).set j rb)⟩
  · exact q.elim

/-! ### xs.pop(), xs.pop(i) -/
def fPop (fo : FE) : FE := fun sg S => (fo sg S).bind fun o S1 => match o with
  | .ref k => match S1[k]? with
    | some (.lst xs) => match xs[xs.length - 1]? with
      | some d => .ok (.d d) (S1.set k (.lst xs.dropLast))
      | none => .stuck
    | _ => .stuck
  | _ => .stuck
theorem RepA.dropLast {Φ : Addr → Prop} {H : Hp} {vs : List V} {ds : List D} (r : RepA K Φ H vs ds) : RepA K Φ H vs.dropLast ds.dropLast := by
  rw [List.dropLast_eq_take, List.dropLast_eq_take, r.length]
  exact r.take _
theorem de_pop {o : Expr} {apos cpos : Pos} {fo : FE} (ho : DE X Z o fo) (hbase : attributeBase o "pop" X.env (eval o X.env) = eval o X.env := by rfl) (hline : (apos.endLine == cpos.line) = true := by rfl) : DE X Z (.Call (.Attribute o "pop" apos) [] [] cpos) (fPop fo) := by
  refine ⟨PE.imp (pe_bm0 PySem.F.plainAttrs_list PySem.F.slot_list_pop PySem.F.type_list_pop mt_pop ho.pe hbase hline) fun σ H Q q => ?_⟩
  obtain ⟨sg, S, Φ, ρ, env, sim, q⟩ := q
  refine ⟨sg, S, Φ, ρ, env, sim, Out.wp_mono (Out.wp_bind q) (fun r S1 eo1 q Φ1 ρ1 H1 v t1 s1 r1 => ?_) (fun _ _ z => z)⟩
  clear eo1
  split at q
  · rename_i k
    split at q
    · rename_i xs e1
      split at q
      · rename_i d e2
        obtain ⟨a, rfl, hk⟩ := r1
        obtain ⟨vs, h1, h2, h3⟩ := s1.cell k a _ hk e1
        obtain ⟨v, e3, rv⟩ := h2.get e2
        obtain ⟨t5, s5⟩ := set_cell s1 hk e1 h2.dropLast
        refine ⟨.inl ⟨rfl, _, SqL.of h1⟩, a, vs, v, rfl, rfl, h1, by rw [h2.length]; exact e3, ?_⟩
        exact q _ _ _ _ (t1.trans t5) s5 (Rep.mono s1 t5 rv)
      · exact q.elim
    · exact q.elim
  · exact q.elim
def fPopAt (fo fi : FE) : FE := fun sg S => (fo sg S).bind fun o S1 => match o with
  | .ref k => match S1[k]? with
    | some (.lst _) => (fi sg S1).bind fun ri S2 => match ri with
      | .d (.int i) => match S2[k]? with
        | some (.lst xs) => gate (decide (0 ≤ i) && decide (i.natAbs ≤ 1000000)) (match xs[i.toNat]? with
          | some d => .ok (.d d) (S2.set k (.lst (xs.eraseIdx i.toNat)))
          | none => .stuck)
        | _ => .stuck
      | _ => .stuck
    | _ => .stuck
  | _ => .stuck
theorem de_popAt {o i : Expr} {apos cpos : Pos} {fo fi : FE} (ho : DE X Z o fo) (hi : DE X Z i fi) (hst : starEach [i] X.env = (false, eval i X.env) :: starEach [] X.env := by rfl)
    (hpe : ∀ {to : TE} {t : TA} {r : V → List V → Hp → VK → Prop}, MtR X "list.pop" r → PE X o to → PA X [i] t → PE X (.Call (.Attribute o "pop" apos) [i] [] cpos) (tBM X.K "list" r to t) := by intro _ _ _ hm ho ha; exact pe_bm PySem.F.plainAttrs_list PySem.F.slot_list_pop PySem.F.type_list_pop hm ho ha) : DE X Z (.Call (.Attribute o "pop" apos) [i] [] cpos) (fPopAt fo fi) := by
  refine ⟨PE.imp (hpe mt_popAt ho.pe (pa_cons hi.pe pa_nil hst)) fun σ H Q q => ?_⟩
  obtain ⟨sg, S, Φ, ρ, env, sim, q⟩ := q
  refine ⟨sg, S, Φ, ρ, env, sim, Out.wp_mono (Out.wp_bind q) (fun r S1 eo1 q Φ1 ρ1 H1 v t1 s1 r1 => ?_) (fun _ _ z => z)⟩
  clear eo1
  split at q
  · rename_i k
    split at q
    · rename_i xs0 e0
      obtain ⟨a, rfl, hk⟩ := r1
      obtain ⟨vs0, g1, _⟩ := s1.cell k a _ hk e0
      refine ⟨.inl ⟨rfl, _, SqL.of g1⟩, sg, S1, Φ1, ρ1, env.mono sim t1, s1, Out.wp_mono (Out.wp_bind q) (fun ri S2 eo2 q Φ2 ρ2 H2 vi t2 s2 r2 => ?_) (fun _ _ z => Z.after z t1)⟩
      clear eo2
      split at q
      · rename_i j
        cases r2
        split at q
        · rename_i xs e1
          obtain ⟨hg, q⟩ := gate_wp q
          obtain ⟨g0, g9⟩ := Bool.and_eq_true_iff.mp hg
          have g0 := of_dec g0
          have g9 := of_dec g9
          split at q
          · rename_i d e2
            have hk2 := t2.rho hk
            obtain ⟨vs, h1, h2, h3⟩ := s2.cell k a _ hk2 e1
            obtain ⟨v, e3, rv⟩ := h2.get e2
            obtain ⟨t5, s5⟩ := set_cell s2 hk2 e1 (h2.eraseIdx j.toNat)
            have hlt : j.toNat < vs.length := (List.getElem?_eq_some_iff.mp e3).1
            refine ⟨a, vs, j, j.toNat, v, rfl, rfl, h1, by omega, by omega, ?_, e3, ?_⟩
            · exact (ixN_seq (show L2.ixN vs.length j = some j.toNat by
                unfold L2.ixN; rw [if_pos g0, if_pos (by omega)])).1
            · exact q _ _ _ _ ((t1.trans t2).trans t5) s5 (Rep.mono s2 t5 rv)
          · exact q.elim
        · exact q.elim
      · exact q.elim
    · exact q.elim
  · exact q.elim
/-! ### min of two -/
def gMin (S : Sto) : List D → Out R
  | [.int i, .int j] => .ok (.d (.int (if j < i then j else i))) S
  | _ => .stuck
theorem cg_min (hc : X.calm = true) : CallR X (.builtin "min") (rCG X.K Z gMin) := cg_of fun Φ ρ S H vs ds Q s r q => by
  unfold gMin at q
  split at q
  · obtain ⟨v, w, rfl, h1, h2⟩ := views2 r
    cases h1; cases h2
    exact ⟨_, call_min2 hc, _, _, rfl, post_d s q (.int _)⟩
  · exact q.elim
end
end Dl
set_option maxHeartbeats 1000000
/-! Dl20: dict(zip(a, b)) of two tuples. -/
namespace PySem
section
variable {prog : Program} {w : World} {A : Around} {E : Value → Shared → Prop} {s : Shared}
theorem dz_item {z TI TO T i1 i2 l1 l2 : Addr} {f : Bool} {oT : Obj} {k1 k2 : Nat} {us ys : Array Value} {x y : Value} {Q : Value → Shared → Prop} (D : ZipApart z TI TO i1 i2 l1 l2)
    (yz : IsZipHeld s.heap z TI TO T f) (yT : s.heap.get? T = some oT) (yTI : IsPair s.heap TI (.ref i1) (.ref i2))
    (y1 : s.heap.IsTupleIter i1 l1 k1) (y2 : s.heap.IsTupleIter i2 l2 k2) (yl1 : s.heap.IsTuple l1 us) (yl2 : s.heap.IsTuple l2 ys) (yx : us[k1]? = some x) (yy : ys[k2]? = some y)
    (yQ : ∀ h', IsZipHeld h' z TI TO T true → h'.IsTupleIter i1 l1 (k1 + 1) → h'.IsTupleIter i2 l2 (k2 + 1) → IsPair h' s.heap.objs.size x y → h'.objs.size = s.heap.objs.size + 1 →
      (∀ c o, c ≠ z → c ≠ i1 → c ≠ i2 → s.heap.get? c = some o → h'.get? c = some o) → Q (.ref s.heap.objs.size) { s with heap := h' }) :
    wpAny (model prog w) A (Builtin.«zip.__next__» ⟨[.ref z], []⟩) (fun fin s' => ∃ v, fin = .done (.ret v) ∧ Q v s') E s := by
  show wpAny _ _ (field (.ref z) 2 >>= _) _ _ _
  refine wpAny_bind (wpAny_field yz rfl (x := .bool false) rfl ?_)
  show wpAny _ _ (field (.ref z) 3 >>= _) _ _ _
  refine wpAny_bind (wpAny_field yz rfl (x := .ref TI) rfl ?_)
  refine wpAny_bind (wpAny_seqItems yTI rfl ?_)
  show wpAny _ _ (Builtin.SmallTypes.ownedTupleIsFree (.ref z) >>= _) _ _ _
  refine wpAny_bind (wpAny_tupleHeld_zip yz yT fun j₁ yz₁ ys0₁ => ?_)
  simp only [Bool.false_eq_true, if_false]
  refine wpAny_bind ?_
  rw [← Array.forIn_toList]
  simp only [List.forIn_cons, List.forIn_nil]
  refine wpAny_bind (wpAny_bind (wpAny_holding ?_))
  show wpAny _ _ (Builtin.SmallTypes.nextOf (.ref i1) >>= _) _ _ _
  refine wpAny_bind (RZ.nextOf_tuple_item (s := { s with heap := j₁ }) (y1.extBut ys0₁.extBut D.i1z) (yl1.extBut ys0₁.extBut D.l1z) yx fun j₂ y1₂ ys0₂ => wpAny_pure ?_)
  refine wpAny_pure ?_
  refine wpAny_bind (wpAny_bind (wpAny_holding ?_))
  show wpAny _ _ (Builtin.SmallTypes.nextOf (.ref i2) >>= _) _ _ _
  refine wpAny_bind (RZ.nextOf_tuple_item (s := { s with heap := j₂ }) ((y2.extBut ys0₁.extBut D.i2z).extBut ys0₂.extBut D.i12.symm) ((yl2.extBut ys0₁.extBut D.l2z).extBut ys0₂.extBut D.l2i1) yy fun j₃ y2₃ ys0₃ => wpAny_pure ?_)
  refine wpAny_pure (wpAny_pure ?_)
  show wpAny _ _ (newTuple [x, y] >>= _) _ _ _
  refine wpAny_bind (wpAny_newTuple ?_)
  have hsz : j₃.objs.size = s.heap.objs.size := by rw [ys0₃.1, ys0₂.1, ys0₁.1]
  have yz₃ : IsZipHeld j₃ z TI TO T true := ys0₃.extBut _ _ D.i2z.symm (ys0₂.extBut _ _ D.i1z.symm yz₁)
  have yk : ∀ c o, c ≠ z → c ≠ i1 → c ≠ i2 → s.heap.get? c = some o → j₃.get? c = some o := fun c o c1 c2 c3 e => ys0₃.extBut _ _ c3 (ys0₂.extBut _ _ c2 (ys0₁.extBut _ _ c1 e))
  have y1₃ : j₃.IsTupleIter i1 l1 (k1 + 1) := y1₂.extBut ys0₃.extBut D.i12
  refine wpAny_pure ⟨_, rfl, ?_⟩
  show Q (.ref j₃.objs.size) _
  have yp : IsPair (j₃.push { cls := .type "tuple", data := .seq #[x, y] }) j₃.objs.size x y := Heap.get?_push_size _ rfl
  have yz4 : (j₃.push { cls := .type "tuple", data := .seq #[x, y] }).objs.size = j₃.objs.size + 1 := Heap.size_push ..
  rw [hsz] at yp yz4 ⊢
  exact yQ _ (Heap.get?_push_of_some _ yz₃) (y1₃.at fun o e => Heap.get?_push_of_some _ e) (y2₃.at fun o e => Heap.get?_push_of_some _ e) yp yz4 fun c o c1 c2 c3 e => Heap.get?_push_of_some _ (yk c o c1 c2 c3 e)

theorem dz_end {z TI TO T i1 i2 l1 l2 : Addr} {f : Bool} {oT : Obj} {k1 k2 : Nat} {us ys : Array Value} {Q : Fin → Shared → Prop} (hh : A.handled = none) (D : ZipApart z TI TO i1 i2 l1 l2)
    (yz : IsZipHeld s.heap z TI TO T f) (yT : s.heap.get? T = some oT) (yTI : IsPair s.heap TI (.ref i1) (.ref i2))
    (y1 : s.heap.IsTupleIter i1 l1 k1) (y2 : s.heap.IsTupleIter i2 l2 k2) (yl1 : s.heap.IsTuple l1 us) (yl2 : s.heap.IsTuple l2 ys) (yend : us[k1]? = none ∨ ys[k2]? = none)
    (yE : ∀ h' e, (∀ c o, c ≠ z → c ≠ i1 → c ≠ i2 → s.heap.get? c = some o → h'.get? c = some o) → (∃ o, h'.get? e = some o ∧ o.cls = .type "StopIteration") → E (.ref e) { s with heap := h' }) :
    wpAny (model prog w) A (Builtin.«zip.__next__» ⟨[.ref z], []⟩) Q E s := by
  show wpAny _ _ (field (.ref z) 2 >>= _) _ _ _
  refine wpAny_bind (wpAny_field yz rfl (x := .bool false) rfl ?_)
  show wpAny _ _ (field (.ref z) 3 >>= _) _ _ _
  refine wpAny_bind (wpAny_field yz rfl (x := .ref TI) rfl ?_)
  refine wpAny_bind (wpAny_seqItems yTI rfl ?_)
  show wpAny _ _ (Builtin.SmallTypes.ownedTupleIsFree (.ref z) >>= _) _ _ _
  refine wpAny_bind (wpAny_tupleHeld_zip yz yT fun j₁ yz₁ ys0₁ => ?_)
  simp only [Bool.false_eq_true, if_false]
  refine wpAny_bind ?_
  rw [← Array.forIn_toList]
  simp only [List.forIn_cons, List.forIn_nil]
  refine wpAny_bind (wpAny_bind (wpAny_holding ?_))
  show wpAny _ _ (Builtin.SmallTypes.nextOf (.ref i1) >>= _) _ _ _
  cases yx : us[k1]? with
  | none =>
    refine wpAny_bind (RZ.nextOf_tuple_end (s := { s with heap := j₁ }) hh (y1.extBut ys0₁.extBut D.i1z) (yl1.extBut ys0₁.extBut D.l1z) yx fun j₂ e ys0₂ he => ?_)
    exact yE j₂ e (fun c o c1 c2 _ x => ys0₂ _ _ c2 (ys0₁.extBut _ _ c1 x)) he
  | some x =>
    have yy : ys[k2]? = none := by rcases yend with h | h; rw [yx] at h; cases h; exact h
    refine wpAny_bind (RZ.nextOf_tuple_item (s := { s with heap := j₁ }) (y1.extBut ys0₁.extBut D.i1z) (yl1.extBut ys0₁.extBut D.l1z) yx fun j₂ y1₂ ys0₂ => wpAny_pure ?_)
    refine wpAny_pure ?_
    refine wpAny_bind (wpAny_bind (wpAny_holding ?_))
    show wpAny _ _ (Builtin.SmallTypes.nextOf (.ref i2) >>= _) _ _ _
    refine wpAny_bind (RZ.nextOf_tuple_end (s := { s with heap := j₂ }) hh ((y2.extBut ys0₁.extBut D.i2z).extBut ys0₂.extBut D.i12.symm) ((yl2.extBut ys0₁.extBut D.l2z).extBut ys0₂.extBut D.l2i1) yy fun j₃ e ys0₃ he => ?_)
    exact yE j₃ e (fun c o c1 c2 c3 x => ys0₃ _ _ c3 (ys0₂.extBut _ _ c2 (ys0₁.extBut _ _ c1 x))) he

theorem dz_next_item {z TI TO T i1 i2 l1 l2 : Addr} {f : Bool} {oT : Obj} {k1 k2 : Nat} {us ys : Array Value} {x y : Value} {Q : Option Value → Shared → Prop} (D : ZipApart z TI TO i1 i2 l1 l2)
    (yz : IsZipHeld s.heap z TI TO T f) (yT : s.heap.get? T = some oT) (yTI : IsPair s.heap TI (.ref i1) (.ref i2))
    (y1 : s.heap.IsTupleIter i1 l1 k1) (y2 : s.heap.IsTupleIter i2 l2 k2) (yl1 : s.heap.IsTuple l1 us) (yl2 : s.heap.IsTuple l2 ys) (yx : us[k1]? = some x) (yy : ys[k2]? = some y)
    (yQ : ∀ h', IsZipHeld h' z TI TO T true → h'.IsTupleIter i1 l1 (k1 + 1) → h'.IsTupleIter i2 l2 (k2 + 1) → IsPair h' s.heap.objs.size x y → h'.objs.size = s.heap.objs.size + 1 →
      (∀ c o, c ≠ z → c ≠ i1 → c ≠ i2 → s.heap.get? c = some o → h'.get? c = some o) → Q (some (.ref s.heap.objs.size)) { s with heap := h' }) :
    wpAny (model prog w) A (pyNext (.ref z)) Q E s := by
  have yTy : s.TypeIs (.ref z) "zip" := ⟨_, yz, rfl⟩
  unfold pyNext
  exact wpAny_bind (wpAny_attempt (wpAny_callSpecial?_slot (name := Str.ofString "__next__") yTy F.slot_zip_next
    (wpAny_call_entry F.slot_zip_next yTy F.entry_zip_next
      (dz_item D yz yT yTI y1 y2 yl1 yl2 yx yy fun h' a1 a3 a4 a5 a6 a7 => wpAny_pure (yQ h' a1 a3 a4 a5 a6 a7)) (F.args_zip_next_1 _))))
theorem dz_next_end {z TI TO T i1 i2 l1 l2 : Addr} {f : Bool} {oT : Obj} {k1 k2 : Nat} {us ys : Array Value} {Q : Option Value → Shared → Prop} (hh : A.handled = none) (D : ZipApart z TI TO i1 i2 l1 l2)
    (yz : IsZipHeld s.heap z TI TO T f) (yT : s.heap.get? T = some oT) (yTI : IsPair s.heap TI (.ref i1) (.ref i2))
    (y1 : s.heap.IsTupleIter i1 l1 k1) (y2 : s.heap.IsTupleIter i2 l2 k2) (yl1 : s.heap.IsTuple l1 us) (yl2 : s.heap.IsTuple l2 ys) (yend : us[k1]? = none ∨ ys[k2]? = none)
    (yQ : ∀ h', (∀ c o, c ≠ z → c ≠ i1 → c ≠ i2 → s.heap.get? c = some o → h'.get? c = some o) → Q none { s with heap := h' }) : wpAny (model prog w) A (pyNext (.ref z)) Q E s := by
  have yTy : s.TypeIs (.ref z) "zip" := ⟨_, yz, rfl⟩
  unfold pyNext
  refine wpAny_bind (wpAny_attempt (wpAny_callSpecial?_slot (name := Str.ofString "__next__") yTy F.slot_zip_next
    (wpAny_call_entry F.slot_zip_next yTy F.entry_zip_next (dz_end hh D yz yT yTI y1 y2 yl1 yl2 yend fun h' e yk he => ?_) (F.args_zip_next_1 _))))
  obtain ⟨o, ho, hc⟩ := he
  refine wpAny_bind (wpAny_isInstance (T := "StopIteration") (b := true) ⟨o, ho, hc⟩ isSubtype_stop ?_)
  exact wpAny_pure (yQ _ yk)

end
section
variable {prog : Program} {w : World}
theorem dzArg (z TI TO i1 i2 l1 l2 : Addr) (D : ZipApart z TI TO i1 i2 l1 l2) (us ys : Array Value) :
    PairArg prog w "zip" z [z, TI, TO, i1, i2, l1, l2] [z, TO, i1, i2] (min us.size ys.size) (fun i k v => us[i]? = some k ∧ ys[i]? = some v)
      (fun h => IsZip h z TI TO .none ∧ IsPair h TI (.ref i1) (.ref i2) ∧ (∃ a b, IsPair h TO a b) ∧ h.IsTupleIter i1 l1 0 ∧ h.IsTupleIter i2 l2 0 ∧ h.IsTuple l1 us ∧ h.IsTuple l2 ys) where
  type := fun s okk => ⟨_, okk.1, rfl⟩
  notDict := by decide
  keep := fun h h' okk yk => by
    obtain ⟨yz, yTI, ⟨a, b, yTO⟩, y1, y2, yl1, yl2⟩ := okk
    exact ⟨yk _ _ yz, yk _ _ yTI, ⟨a, b, yk _ _ yTO⟩, y1.at fun o e => yk _ o e, y2.at fun o e => yk _ o e, yl1.at fun o e => yk _ o e, yl2.at fun o e => yk _ o e⟩
  there := fun h okk b hb => by
    obtain ⟨yz, yTI, ⟨a, c, yTO⟩, ⟨o1, y1, _⟩, ⟨o2, y2, _⟩, ⟨o3, yl1, _⟩, ⟨o4, yl2, _⟩⟩ := okk
    simp only [List.mem_cons, List.not_mem_nil, or_false] at hb
    rcases hb with rfl | rfl | rfl | rfl | rfl | rfl | rfl
    all_goals first | exact ⟨_, yz⟩ | exact ⟨_, yTI⟩ | exact ⟨_, yTO⟩ | exact ⟨_, y1⟩ | exact ⟨_, y2⟩ | exact ⟨_, yl1⟩ | exact ⟨_, yl2⟩
  sub := fun b hb => by simp at hb ⊢; rcases hb with rfl | rfl | rfl | rfl <;> simp
  noKeys := fun A s Q E yA okk h => getAttrOr_miss_zip okk.1 rfl rfl rfl zip_no_keys (by decide +kernel) yA h
  iter := fun A s d Q E yA okk hd hdf h => by
    obtain ⟨yz, yTI, ⟨a, b, yTO⟩, y1, y2, yl1, yl2⟩ := okk
    simp only [List.mem_cons, List.not_mem_nil, or_false, not_or] at hdf
    obtain ⟨dz, dTI, dTO, di1, di2, dl1, dl2⟩ := hdf
    refine wpAny_pyIter_zip yz (h z [z, TO, i1, i2] (fun i h => IsPair h TI (.ref i1) (.ref i2) ∧ h.IsTupleIter i1 l1 i ∧ h.IsTupleIter i2 l2 i ∧ h.IsTuple l1 us ∧ h.IsTuple l2 ys ∧
      ((IsZip h z TI TO .none ∧ ∃ a b, IsPair h TO a b) ∨ ∃ T f oT, IsZipHeld h z TI TO T f ∧ h.get? T = some oT ∧ T ≠ z ∧ T ≠ i1 ∧ T ≠ i2 ∧ T ≠ d)) s.heap s.toks ?_
      ⟨yTI, y1, y2, yl1, yl2, .inl ⟨yz, a, b, yTO⟩⟩ (fun _ _ e => e) fun b hb => .inl hb)
    exact {
      off := fun hm => by
        simp only [List.mem_cons, List.not_mem_nil, or_false] at hm
        rcases hm with e | e | e | e
        · exact dz e
        · exact dTO e
        · exact di1 e
        · exact di2 e
      frame := fun i j₁ j₂ stt yk => by
        obtain ⟨yTI, y1, y2, yl1, yl2, yz⟩ := stt
        refine ⟨yk _ _ (Ne.symm dTI) yTI, y1.at fun o e => yk _ o (Ne.symm di1) e, y2.at fun o e => yk _ o (Ne.symm di2) e, yl1.at fun o e => yk _ o (Ne.symm dl1) e, yl2.at fun o e => yk _ o (Ne.symm dl2) e, ?_⟩
        rcases yz with ⟨yz, a, b, yTO⟩ | ⟨T, f, oT, yz, yT, r1, r2, r3, r4⟩
        · exact .inl ⟨yk _ _ (Ne.symm dz) yz, a, b, yk _ _ (Ne.symm dTO) yTO⟩
        · exact .inr ⟨T, f, oT, yk _ _ (Ne.symm dz) yz, yk _ _ r4 yT, r1, r2, r3, r4⟩
      item := fun i r₁ Q₁ E₁ hi stt hds yQ => by
        obtain ⟨yTI, y1, y2, yl1, yl2, yz⟩ := stt
        have hix : i < us.size := Nat.lt_of_lt_of_le hi (Nat.min_le_left ..)
        have hiy : i < ys.size := Nat.lt_of_lt_of_le hi (Nat.min_le_right ..)
        have ex := Array.getElem?_eq_getElem hix
        have ey := Array.getElem?_eq_getElem hiy
        have lt : ∀ {c o}, r₁.heap.get? c = some o → r₁.heap.objs.size ≠ c := fun e => Nat.ne_of_gt (Heap.lt_size e)
        have n1 : r₁.heap.objs.size ≠ i1 := let ⟨_, e, _⟩ := y1; lt e
        have n2 : r₁.heap.objs.size ≠ i2 := let ⟨_, e, _⟩ := y2; lt e
        rcases yz with ⟨yz, a, b, yTO⟩ | ⟨T, f, oT, yz, yT, r1, r2, r3, r4⟩
        · refine RZ.pyNext_zipT_item D yz yTI yTO y1 y2 yl1 yl2 ex ey fun h' a1 a2 a3 a4 a5 a6 yk => ?_
          exact yQ r₁.heap.objs.size _ _ h' r₁.toks ⟨ex, ey⟩ (.inl ⟨_, a5, rfl, _, rfl⟩)
            ⟨yk _ _ D.TIz D.TITO D.TIi1 D.TIi2 yTI, a3, a4, yl1.at fun o e => yk _ o D.l1z D.l1TO D.l1i1 D.l1i2 e, yl2.at fun o e => yk _ o D.l2z D.l2TO D.l2i1 D.l2i2 e,
              .inr ⟨r₁.heap.objs.size, false, _, a1, a5, lt yz, n1, n2, Nat.ne_of_gt hds⟩⟩
            fun c o hc e => yk c o (fun x => hc (by simp [x])) (fun x => hc (by simp [x])) (fun x => hc (by simp [x])) (fun x => hc (by simp [x])) e
        · refine dz_next_item D yz yT yTI y1 y2 yl1 yl2 ex ey fun h' a1 a3 a4 a5 a6 yk => ?_
          exact yQ r₁.heap.objs.size _ _ h' r₁.toks ⟨ex, ey⟩ (.inl ⟨_, a5, rfl, _, rfl⟩)
            ⟨yk _ _ D.TIz D.TIi1 D.TIi2 yTI, a3, a4, yl1.at fun o e => yk _ o D.l1z D.l1i1 D.l1i2 e, yl2.at fun o e => yk _ o D.l2z D.l2i1 D.l2i2 e,
              .inr ⟨T, true, oT, a1, yk _ _ r1 r2 r3 yT, r1, r2, r3, r4⟩⟩
            fun c o hc e => yk c o (fun x => hc (by simp [x])) (fun x => hc (by simp [x])) (fun x => hc (by simp [x])) e
      done := fun r₁ Q₁ E₁ stt yQ => by
        obtain ⟨yTI, y1, y2, yl1, yl2, yz⟩ := stt
        have yend : us[min us.size ys.size]? = none ∨ ys[min us.size ys.size]? = none := by
          rcases Nat.le_total us.size ys.size with h | h
          · exact .inl (Array.getElem?_eq_none (by rw [Nat.min_eq_left h]; exact Nat.le_refl _))
          · exact .inr (Array.getElem?_eq_none (by rw [Nat.min_eq_right h]; exact Nat.le_refl _))
        rcases yz with ⟨yz, a, b, yTO⟩ | ⟨T, f, oT, yz, yT, r1, r2, r3, r4⟩
        · exact RZ.pyNext_zipT_end yA D yz yTI yTO y1 y2 yl1 yl2 yend fun h' yk => yQ h' r₁.toks fun c o hc e => yk c o (fun x => hc (by simp [x])) (fun x => hc (by simp [x])) (fun x => hc (by simp [x])) (fun x => hc (by simp [x])) e
        · exact dz_next_end yA D yz yT yTI y1 y2 yl1 yl2 yend fun h' yk => yQ h' r₁.toks fun c o hc e => yk c o (fun x => hc (by simp [x])) (fun x => hc (by simp [x])) (fun x => hc (by simp [x])) e }

end
end PySem
set_option maxHeartbeats 1000000
/-! Dl21: what never runs; dicts of the module; dict(zip(a, b)); list and tuple of a range of two. -/
namespace Dl
open PySem PySem.Spec PyProof.Rows L2
def fStuckE : FE := fun _ _ => .stuck
def fStuckT : FT := fun _ _ => .stuck
def fStuckS : FS := fun _ _ => .stuck
def fStuckI : FI := fun _ _ => .stuck
section
variable {X : Cx} {Z : XZ} {K : PySem.W.Frag}
theorem de_stuck {e : Expr} : DE X Z e fStuckE := ⟨⟨fun _ _ _ _ _ _ h => (by obtain ⟨_, _, _, _, _, _, h⟩ := h; exact h.elim)⟩⟩
theorem dt_stuck {e : Expr} : DT X Z e fStuckT := ⟨⟨fun _ _ _ _ _ _ h => (by obtain ⟨_, _, _, _, _, _, h⟩ := h; exact h.elim)⟩⟩
theorem ds_stuck {e : Stmt} : DS X Z e fStuckS := ⟨⟨fun _ _ _ _ _ _ h => (by obtain ⟨_, _, _, _, _, _, h⟩ := h; exact h.elim)⟩⟩
theorem di_stuck {tg e : Expr} : DI X Z tg e fStuckI := ⟨⟨fun _ _ _ _ _ _ h => (by obtain ⟨_, _, _, _, _, _, h⟩ := h; exact h.elim)⟩⟩

/-! ### a dict of the module with text keys -/
abbrev Tab := List (Str × Option D)
def tabAt : Tab → Str → Option (Option D)
  | [], _ => none
  | p :: r, x => if p.1 = x then some p.2 else tabAt r x
/-- tab: some of its keys, and some that it has not -/
structure GDict (K : PySem.W.Frag) (w : World) (a : Addr) (tab : Tab) : Prop where
  kd : ∃ es n, KDict K w a es n
  has : ∀ x d, (x, some d) ∈ tab → ∃ u v, PySem.W.nsIn K a x = some (some u) ∧ RelV v u ∧ ∀ Φ H, Rep K Φ H v d
  not : ∀ x, (x, none) ∈ tab → PySem.W.nsIn K a x = some none
inductive HasL (K : PySem.W.Frag) (a : Addr) : List (Str × D) → Prop
  | nil : HasL K a []
  | cons {x : Str} {d : D} {r : List (Str × D)} : (∃ u v, PySem.W.nsIn K a x = some (some u) ∧ RelV v u ∧ ∀ Φ H, Rep K Φ H v d) → HasL K a r → HasL K a ((x, d) :: r)
inductive NotL (K : PySem.W.Frag) (a : Addr) : List Str → Prop
  | nil : NotL K a []
  | cons {x : Str} {r : List Str} : PySem.W.nsIn K a x = some none → NotL K a r → NotL K a (x :: r)
theorem HasL.has {a : Addr} : ∀ {kvs : List (Str × D)}, HasL K a kvs → ∀ x d, (x, d) ∈ kvs → ∃ u v, PySem.W.nsIn K a x = some (some u) ∧ RelV v u ∧ ∀ Φ H, Rep K Φ H v d
  | _, .nil, _, _, h => by simp at h
  | _, .cons a t, x, d, h => by
    rcases List.mem_cons.mp h with e | h
    · cases e; exact a
    · exact t.has x d h
theorem NotL.not {a : Addr} : ∀ {ks : List Str}, NotL K a ks → ∀ x, x ∈ ks → PySem.W.nsIn K a x = some none
  | _, .nil, _, h => by simp at h
  | _, .cons a t, x, h => by
    rcases List.mem_cons.mp h with e | h
    · cases e; exact a
    · exact t.not x h
theorem gdict_mk {w : World} {a : Addr} {kvs : List (Str × D)} {abs : List Str} (kd : ∃ es n, KDict K w a es n) (h1 : HasL K a kvs) (h2 : NotL K a abs) : GDict K w a (kvs.map (fun p => (p.1, some p.2)) ++ abs.map fun k => (k, none)) := by
  refine ⟨kd, fun x d h => ?_, fun x h => ?_⟩
  · rcases List.mem_append.mp h with h | h
    · obtain ⟨p, hp, e⟩ := List.mem_map.mp h
      cases e
      exact h1.has _ _ hp
    · obtain ⟨p, hp, e⟩ := List.mem_map.mp h
      cases e
  · rcases List.mem_append.mp h with h | h
    · obtain ⟨p, hp, e⟩ := List.mem_map.mp h
      cases e
    · obtain ⟨p, hp, e⟩ := List.mem_map.mp h
      cases e
      exact h2.not _ hp
theorem tabAt_mem : ∀ {tab : Tab} {x : Str} {o : Option D}, tabAt tab x = some o → (x, o) ∈ tab
  | [], _, _, h => by cases h
  | (k, v) :: r, x, o, h => by
    unfold tabAt at h
    by_cases e : k = x
    · rw [if_pos e] at h; cases h; subst e; exact List.mem_cons_self
    · rw [if_neg e] at h; exact List.mem_cons_of_mem _ (tabAt_mem h)
def fGIn (neg : Bool) (tab : Tab) (fe : FE) : FE := fun sg S => (fe sg S).bind fun r S1 => match pk S1 r with
  | some (.str x) => match tabAt tab x with
    | some o => .ok (.d (.bool (xor neg o.isSome))) S1
    | none => .stuck
  | _ => .stuck
def fGSub (tab : Tab) (fe : FE) : FE := fun sg S => (fe sg S).bind fun r S1 => match pk S1 r with
  | some (.str x) => match tabAt tab x with
    | some (some d) => .ok (.d d) S1
    | _ => .stuck
  | _ => .stuck
theorem gd_rel {w : World} {a : Addr} {tab : Tab} (g : GDict K w a tab) {x : Str} {o : Option D} (h : tabAt tab x = some o) : ∃ r, PySem.W.nsIn K a x = some r ∧ r.isSome = o.isSome := by
  cases o with
  | none => exact ⟨none, g.not x (tabAt_mem h), rfl⟩
  | some d =>
    obtain ⟨u, v, e, _⟩ := g.has x d (tabAt_mem h)
    exact ⟨some u, e, rfl⟩
/-- x in G, by values -/
theorem gin_imp {neg : Bool} {a : Addr} {tab : Tab} {fe : FE} {σ : L2.St} {H : Hp} {Q : VK} (gd : GDict K X.w a tab) (q : tE K Z (fGIn neg tab fe) σ H Q) :
    tOp (fun x y H Q => ∃ (z : Str) (r : Option Value), x = .str z ∧ y = .ref a ∧ PySem.W.nsIn K a z = some r ∧ Q (.bl (xor neg r.isSome)) H) (tE K Z fe) (tC (.ref a)) σ H Q := by
  obtain ⟨sg, S, Φ, ρ, env, sim, q⟩ := q
  refine ⟨sg, S, Φ, ρ, env, sim, Out.wp_mono (Out.wp_bind q) (fun r S1 eo1 q Φ1 ρ1 H1 v t1 s1 r1 => ?_) (fun _ _ z => z)⟩
  clear eo1
  split at q
  · rename_i z e1
    split at q
    · rename_i o e2
      obtain ⟨r', h1, h2⟩ := gd_rel gd e2
      refine ⟨z, r', pk_ok r1 s1 e1, rfl, h1, ?_⟩
      rw [h2]
      exact q _ _ _ _ t1 s1 (.bl _)
    · exact q.elim
  · exact q.elim
theorem op_gin {neg : Bool} {a : Addr} {tab : Tab} (gd : GDict X.K X.w a tab) : OpR X (compareOp (match neg with | true => .NotIn | false => .In)) (fun x y H Q => ∃ (z : Str) (r : Option Value), x = .str z ∧ y = .ref a ∧ PySem.W.nsIn X.K a z = some r ∧ Q (.bl (xor neg r.isSome)) H) := by
  obtain ⟨es, n, kd⟩ := gd.kd
  cases neg with
  | false => exact OpR.imp (op_in_kd kd) fun x y H Q ⟨z, r, h1, h2, h3, h4⟩ => ⟨z, r, h1, h2, h3, by simpa using h4⟩
  | true => exact OpR.imp (op_notIn_kd kd) fun x y H Q ⟨z, r, h1, h2, h3, h4⟩ => ⟨z, r, h1, h2, h3, by simpa using h4⟩
theorem de_gin {e : Expr} {x : Str} {a : Addr} {tab : Tab} {p pos : Pos} {fe : FE} (hg : Gl X x) (hm : X.mg x = some (.ref a)) (gd : GDict X.K X.w a tab) (he : DE X Z e fe) (hd : (x == ("__debug__" : Str)) = false := by decide) (hb : behindInMarks .In (.Name x p) = false := by first | exact nomark _ | rfl) : DE X Z (.Compare e [.In] [.Name x p] pos) (fGIn false tab fe) :=
  ⟨PE.imp (pe_cmpR (op_gin (neg := false) gd) he.pe (pe_glob (v := .ref a) hg hm rfl hd) hb) fun _ _ _ q => gin_imp gd q⟩
theorem de_gnotin {e : Expr} {x : Str} {a : Addr} {tab : Tab} {p pos : Pos} {fe : FE} (hg : Gl X x) (hm : X.mg x = some (.ref a)) (gd : GDict X.K X.w a tab) (he : DE X Z e fe) (hd : (x == ("__debug__" : Str)) = false := by decide) (hb : behindInMarks .NotIn (.Name x p) = false := by first | exact nomark _ | rfl) : DE X Z (.Compare e [.NotIn] [.Name x p] pos) (fGIn true tab fe) :=
  ⟨PE.imp (pe_cmpR (op_gin (neg := true) gd) he.pe (pe_glob (v := .ref a) hg hm rfl hd) hb) fun _ _ _ q => gin_imp gd q⟩
theorem dt_gi {neg : Bool} {a : Addr} {tab : Tab} {fe : FE} {σ : L2.St} {H : Hp} {Q : Bool → Hp → Prop} (gd : GDict K X.w a tab) (q : tT K Z (fBoo (fGIn neg tab fe)) σ H Q) :
    tTest (tOp (fun x y H Q => ∃ (z : Str) (r : Option Value), x = .str z ∧ y = .ref a ∧ PySem.W.nsIn K a z = some r ∧ Q (.bl (xor neg r.isSome)) H) (tE K Z fe) (tC (.ref a))) σ H Q := by
  refine gin_imp (Z := Z) gd ?_
  obtain ⟨sg, S, Φ, ρ, env, sim, q⟩ := q
  refine ⟨sg, S, Φ, ρ, env, sim, Out.wp_mono (Out.wp_bind q) (fun r S1 _ q Φ1 ρ1 H1 v t1 s1 r1 => ?_) (fun _ _ z => z)⟩
  split at q
  · cases r1
    exact ⟨_, rfl, q _ _ _ t1 s1⟩
  · exact q.elim
theorem dt_gin {e : Expr} {x : Str} {a : Addr} {tab : Tab} {p pos : Pos} {fe : FE} (hg : Gl X x) (hm : X.mg x = some (.ref a)) (gd : GDict X.K X.w a tab) (he : DE X Z e fe) (hd : (x == ("__debug__" : Str)) = false := by decide) (hb : behindInMarks .In (.Name x p) = false := by first | exact nomark _ | rfl) : DT X Z (.Compare e [.In] [.Name x p] pos) (fBoo (fGIn false tab fe)) :=
  ⟨PT.imp (pt_cmpR (op_gin (neg := false) gd) he.pe (pe_glob (v := .ref a) hg hm rfl hd) hb) fun _ _ _ q => dt_gi gd q⟩
theorem dt_gnotin {e : Expr} {x : Str} {a : Addr} {tab : Tab} {p pos : Pos} {fe : FE} (hg : Gl X x) (hm : X.mg x = some (.ref a)) (gd : GDict X.K X.w a tab) (he : DE X Z e fe) (hd : (x == ("__debug__" : Str)) = false := by decide) (hb : behindInMarks .NotIn (.Name x p) = false := by first | exact nomark _ | rfl) : DT X Z (.Compare e [.NotIn] [.Name x p] pos) (fBoo (fGIn true tab fe)) :=
  ⟨PT.imp (pt_cmpR (op_gin (neg := true) gd) he.pe (pe_glob (v := .ref a) hg hm rfl hd) hb) fun _ _ _ q => dt_gi gd q⟩
theorem de_gsub {e : Expr} {x : Str} {a : Addr} {tab : Tab} {p pos : Pos} {fe : FE} (hg : Gl X x) (hm : X.mg x = some (.ref a)) (gd : GDict X.K X.w a tab) (he : DE X Z e fe) (hd : (x == ("__debug__" : Str)) = false := by decide) (hs : PlainIx e := by intro _ _; rfl) : DE X Z (.Subscript (.Name x p) e pos) (fGSub tab fe) := by
  obtain ⟨es, n, kd⟩ := gd.kd
  refine ⟨PE.imp (pe_ix ix_kdict (pe_glob (v := .ref a) hg hm rfl hd) he.pe hs) fun σ H Q q => ?_⟩
  obtain ⟨sg, S, Φ, ρ, env, sim, q⟩ := q
  refine ⟨sg, S, Φ, ρ, env, sim, Out.wp_mono (Out.wp_bind q) (fun r S1 eo1 q Φ1 ρ1 H1 v t1 s1 r1 => ?_) (fun _ _ z => z)⟩
  clear eo1
  split at q
  · rename_i z e1
    split at q
    · rename_i d e2
      obtain ⟨u, v0, h1, h2, h3⟩ := gd.has _ _ (tabAt_mem e2)
      have hv : v = .str z := pk_ok r1 s1 e1
      exact ⟨a, z, v0, rfl, hv, ⟨es, n, u, kd.at_, kd.lit, h1, h2⟩, q _ _ _ _ t1 s1 (h3 _ _)⟩
    · exact q.elim
  · exact q.elim

/-! ### dict(zip(a, b)), a and b tuples -/
def tDictZip (K : PySem.W.Frag) (ta : TA) : TE := fun σ H Q => ta σ H fun vs H1 => ∃ a b xs ys kvs, vs = [.ref a, .ref b] ∧ SqT K H1 a xs ∧ SqT K H1 b ys ∧ kvs.length = min xs.length ys.length ∧ kvs.length ≤ lim ∧
  (∀ (i : Nat) (x y : V), xs[i]? = some x → ys[i]? = some y → ∃ k, x = kV k ∧ kvs[i]? = some (k, y)) ∧ ∀ p, H1 p = none → Q (.ref p) (upd H1 p (.dK (mergeK [] kvs)))
theorem kv_by : ∀ {n : Nat} {kvs : List (Key × V)} {us : List Value}, kvs.length = n → us.length = n → (∀ (i : Nat) (k : Key) (y : V), kvs[i]? = some (k, y) → ∃ u : Value, us[i]? = some u ∧ RelV y u) → ∃ prs : List (Key × Value), KV kvs prs ∧ prs.length = n ∧ ∀ (i : Nat) (k : Key) (u : Value), prs[i]? = some (k, u) → us[i]? = some u ∧ ∃ y : V, kvs[i]? = some (k, y)
  | 0, kvs, us, h1, h2, h => by
    cases kvs with
    | nil => exact ⟨[], .nil, rfl, fun i k u e => by simp at e⟩
    | cons => cases h1
  | n + 1, kvs, us, h1, h2, h => by
    cases kvs with
    | nil => cases h1
    | cons p kvs =>
      cases us with
      | nil => cases h2
      | cons u us =>
        obtain ⟨u', e1, e2⟩ := h 0 p.1 p.2 rfl
        cases e1
        obtain ⟨prs, g1, g2, g3⟩ := kv_by (n := n) (kvs := kvs) (us := us) (by simpa using h1) (by simpa using h2) fun i k y e => by simpa using h (i + 1) k y (by simpa using e)
        refine ⟨(p.1, u) :: prs, .cons ⟨rfl, e2⟩ g1, by simp [g2], fun i k v e => ?_⟩
        cases i with
        | zero => cases e; exact ⟨rfl, p.2, rfl⟩
        | succ i => simpa using g3 i k v (by simpa using e)
theorem pe_dictZip {e e2 : Expr} {ta : TA} {p p2 pos pos2 : Pos} (hc : X.calm = true) (hg : Gl X "dict") (hm : X.mg "dict" = none) (hg2 : Gl X "zip") (hm2 : X.mg "zip" = none) (ha : PA X [e, e2] ta)
    (hs : starEach [e, e2] X.env = (false, eval e X.env) :: starEach [e2] X.env := by rfl) (hpl : (backTo pos2 (starEach [e2] X.env)).any (·.1) = false := by rfl)
    (na : starEach [.Call (.Name "zip" p2) [e, e2] [] pos2] X.env = (false, eval (.Call (.Name "zip" p2) [e, e2] [] pos2) X.env) :: starEach [] X.env := by rfl) : PE X (.Call (.Name "dict" p) [.Call (.Name "zip" p2) [e, e2] [] pos2] [] pos) (tDictZip X.K ta) := by
  refine ⟨fun pins s σ H Q I h => ?_⟩
  refine Call_ (ld_blt I hg hm PyProof.Rows.boot_dict (PyProof.Rows.callWith_type1 (args_cons (Call_ (ld_blt I hg2 hm2 PyProof.Rows.boot_zip (PyProof.Rows.callWith_type1 (thn (ha.run pos2 pins s σ H _ I h) fun us s1 ⟨vs, H1, I1, r1, q1⟩ => ?_) hs hpl))) na) na))
  obtain ⟨a, b, xs, ys, kvs, ex, hqx, hqy, hlen, hlim, hkv, q⟩ := q1
  subst ex
  cases r1 with
  | cons r rr =>
  cases rr with
  | cons r' rr =>
  cases rr
  cases r
  cases r'
  obtain ⟨its, rv, pa, _⟩ := I1.tuple hqx
  obtain ⟨its2, rv2, pb, _⟩ := I1.tuple hqy
  have la := rv.length
  have lb := rv2.length
  refine RZ.call_zipT (show s1.heap.IsTuple a its.toArray from pa) (show s1.heap.IsTuple b its2.toArray from pb) fun h' yz yTI yTO y1 y2 hsz yk => args_nil ?_
  have I2 : Inv X pins σ H1 { s1 with heap := h' } := I1.kept (t' := s1.toks) yk
  obtain ⟨oa, hoa, _⟩ := id pa
  obtain ⟨ob, hob, _⟩ := id pb
  have D := PySem.W.ktu_apart s1.heap.objs.size a b (Heap.lt_size hoa) (Heap.lt_size hob)
  have hmin : min its.toArray.size its2.toArray.size = kvs.length := by simp; omega
  obtain ⟨prs, g1, g2, g3⟩ := kv_by (n := kvs.length) (kvs := kvs) (us := its2.take kvs.length) rfl (by simp; omega) fun i k y e => by
    have hi : i < kvs.length := (List.getElem?_eq_some_iff.mp e).1
    have hx : xs[i]? = some xs[i] := List.getElem?_eq_getElem (by omega)
    have hy : ys[i]? = some ys[i] := List.getElem?_eq_getElem (by omega)
    obtain ⟨k', _, e2⟩ := hkv i _ _ hx hy
    rw [e] at e2
    cases e2
    obtain ⟨u, hu, ru⟩ := rv2.get hy
    exact ⟨u, by rw [List.getElem?_take_of_lt hi]; exact hu, ru⟩
  have isT : ∀ {c : Addr} {us : List Value}, IsTup s1.heap c us.toArray → h'.IsTuple c us.toArray := fun {c us} h => (show s1.heap.IsTuple c us.toArray from h).at fun o e => yk _ o e
  refine PySem.call_dict_pairs (knd := mixKind X.prog X.w) (kvs := prs) (PySem.dzArg _ _ _ _ _ a b D its.toArray its2.toArray) (I2.ok.hd hc) ⟨yz, yTI, ⟨_, _, yTO⟩, y1, y2, isT pa, isT pb⟩ ⟨by rw [g2, hmin], fun i key v hr => ?_⟩ (by rw [hmin]; exact lim_le hlim) fun h2 tk hd' k => ?_
  · obtain ⟨e1, e2⟩ := hr
    have e1 : its[i]? = some key := by simpa using e1
    have e2 : its2[i]? = some v := by simpa using e2
    have hi1 : i < its.length := (List.getElem?_eq_some_iff.mp e1).1
    have hi2 : i < its2.length := (List.getElem?_eq_some_iff.mp e2).1
    have hx : xs[i]? = some xs[i] := List.getElem?_eq_getElem (by omega)
    have hy : ys[i]? = some ys[i] := List.getElem?_eq_getElem (by omega)
    obtain ⟨k', ek, ekv⟩ := hkv i _ _ hx hy
    obtain ⟨u, hu, ru⟩ := rv.get hx
    rw [e1] at hu; cases hu
    have hip : i < prs.length := by rw [g2]; exact (List.getElem?_eq_some_iff.mp ekv).1
    have ep : prs[i]? = some prs[i] := List.getElem?_eq_getElem hip
    obtain ⟨f1, y', f2⟩ := g3 i prs[i].1 prs[i].2 ep
    rw [ekv] at f2
    have hk : k' = prs[i].1 := by cases f2; rfl
    rw [List.getElem?_take_of_lt (by rw [← g2]; exact hip), e2] at f1
    refine ⟨k', ?_, ?_⟩
    · rw [ep, hk]
      have : v = prs[i].2 := Option.some.inj f1
      rw [this]
    · rw [ek] at ru; exact kV_is ru
  · have hm' : (h'.objs.size == sysModules) = false := beq_eq_false_iff_ne.mpr (Nat.ne_of_gt I2.big)
    have hl2 : (mergeK [] kvs).length ≤ sizeLine := by
      refine Nat.le_trans (length_mergeK kvs []) ?_
      rw [List.length_nil, Nat.zero_add]
      exact lim_le hlim
    have new : ∀ c o, s1.heap.get? c = some o → h2.get? c = some o := fun c o e => k c o (fun (hmem : c ∈ [s1.heap.objs.size + 4, s1.heap.objs.size + 3, s1.heap.objs.size, s1.heap.objs.size + 1]) => by
      have hlt := Heap.lt_size e
      simp only [List.mem_cons, List.not_mem_nil, or_false] at hmem
      rcases hmem with e' | e' | e' | e' <;> rw [e'] at hlt <;> first | exact absurd hlt (Nat.lt_irrefl _) | exact absurd (Nat.lt_of_le_of_lt (Nat.le_add_right _ _) hlt) (Nat.lt_irrefl _)) (yk c o e)
    have hge : s1.heap.objs.size ≤ h'.objs.size := by omega
    exact ⟨.ref h'.objs.size, upd H1 h'.objs.size (.dK (mergeK [] kvs)), I1.laid (t' := tk) new hge (show ObjOk X.prog X.w _ _ _ (.dK (mergeK [] kvs)) from ⟨hl2, hm', merged [] prs, KV.merge g1 .nil, hd'⟩), rfl, q _ (I1.hok.fresh hge)⟩
def keysOf : List D → List D → Option (List (Key × D))
  | x :: xs, y :: ys => match keyD x, keysOf xs ys with
    | some k, some r => some ((k, y) :: r)
    | _, _ => none
  | _, _ => some []
theorem keysOf_ok {Φ : Addr → Prop} {H : Hp} : ∀ {xs ys : List D} {us ws : List V} {kvs : List (Key × D)}, RepA K Φ H us xs → RepA K Φ H ws ys → keysOf xs ys = some kvs →
    ∃ kws : List (Key × V), RepKV K Φ H kws kvs ∧ kws.length = min us.length ws.length ∧ ∀ (i : Nat) (x y : V), us[i]? = some x → ws[i]? = some y → ∃ k, x = kV k ∧ kws[i]? = some (k, y)
  | [], _, _, _, _, .nil, _, e => by
    cases e
    exact ⟨[], ⟨rfl, .nil⟩, by simp, fun i x y h => by simp at h⟩
  | _ :: _, [], _, _, _, .cons _ _, .nil, e => by
    cases e
    exact ⟨[], ⟨rfl, .nil⟩, by simp, fun i x y _ h => by simp at h⟩
  | x :: xs, y :: ys, _, _, kvs, .cons a t, .cons b u, e => by
    unfold keysOf at e
    split at e
    · rename_i k r e1 e2
      cases e
      obtain ⟨kws, h1, h2, h3⟩ := keysOf_ok t u e2
      refine ⟨(k, _) :: kws, ⟨by simp only [List.map_cons, h1.1], .cons b h1.2⟩, by simp only [List.length_cons, h2]; omega, fun i x y f1 f2 => ?_⟩
      cases i with
      | zero =>
        simp at f1 f2
        subst f1 f2
        exact ⟨k, keyD_view a.view e1, rfl⟩
      | succ i => simpa using h3 i x y (by simpa using f1) (by simpa using f2)
    · cases e
def fDictZip (fa : FA) : FE := fun sg S => (fa sg S).bind fun ws S1 => (wsD ws S1).bind fun ds S2 => match ds with
  | [.tuple xs, .tuple ys] => match keysOf xs ys with
    | some kvs => gate (decide (kvs.length ≤ lim)) (.ok (.newd (mergeD [] kvs)) S2)
    | none => .stuck
  | _ => .stuck
theorem de_dictZip {e e2 : Expr} {fa : FA} {p p2 pos pos2 : Pos} (hc : X.calm = true) (hg : Gl X "dict") (hm : X.mg "dict" = none) (hg2 : Gl X "zip") (hm2 : X.mg "zip" = none) (ha : DA X Z [e, e2] fa)
    (hs : starEach [e, e2] X.env = (false, eval e X.env) :: starEach [e2] X.env := by rfl) (hpl : (backTo pos2 (starEach [e2] X.env)).any (·.1) = false := by rfl)
    (na : starEach [.Call (.Name "zip" p2) [e, e2] [] pos2] X.env = (false, eval (.Call (.Name "zip" p2) [e, e2] [] pos2) X.env) :: starEach [] X.env := by rfl) : DE X Z (.Call (.Name "dict" p) [.Call (.Name "zip" p2) [e, e2] [] pos2] [] pos) (fDictZip fa) := by
  refine ⟨PE.imp (pe_dictZip hc hg hm hg2 hm2 ha.pa hs hpl na) fun σ H Q q => ?_⟩
  obtain ⟨sg, S, Φ, ρ, env, sim, q⟩ := q
  refine ⟨sg, S, Φ, ρ, env, sim, Out.wp_mono (Out.wp_bind q) (fun ws S1 _ q Φ1 ρ1 H1 vs t1 s1 r1 => ?_) (fun _ _ z => z)⟩
  obtain ⟨ds, S2, Φ2, q, t2, s2, r2⟩ := wsD_wp r1 s1 (Out.wp_bind q)
  have t12 := t1.trans t2
  split at q
  · rename_i xs ys
    cases r2 with
    | cons ra r2 =>
    cases r2 with
    | cons rb r2 =>
    cases r2
    cases ra with
    | tup sqa ra =>
    cases rb with
    | tup sqb rb =>
    rename_i a us b ws'
    split at q
    · rename_i kvs e1
      obtain ⟨hl, q⟩ := gate_wp q
      obtain ⟨kws, h1, h2, h3⟩ := keysOf_ok ra rb e1
      refine ⟨a, b, us, ws', kws, rfl, sqa, sqb, h2, by rw [h1.len]; exact of_dec hl, h3, fun L hL => ?_⟩
      have rm := RepKV.merge h1 (ws := []) (kvs := []) ⟨rfl, .nil⟩
      have ta := Tr.newObj (Φ := Φ2) (ρ := ρ1) (S := S2) (o := .dK (mergeK [] kws)) hL
      have np : ¬ Φ2 L := fun e => s2.phi L e hL
      have nm : ¬ MutAt ρ1 S2 L := fun m => by
        obtain ⟨o, e, _⟩ := s2.mutl m
        rw [hL] at e; cases e
      have hH : H L = none := by
        cases e : H L with
        | none => rfl
        | some o => exact absurd hL (t12.there L (by rw [e]; simp))
      exact q _ _ _ _ (t12.trans ta) (s2.newObj hL) ⟨L, _, rfl, upd_same, rm.mono s2 ta, np, nm, hH⟩
    · exact q.elim
  · exact q.elim

/-! ### list(range(a, b)), tuple(range(..)) -/
def rgTwo (r1 r2 : R) : Option (Int × Int) := match r1, r2 with
  | .d (.int i), .d (.int j) => some (i, j)
  | _, _ => none
def fListRg2 (fa fb : FE) : FE := fun sg S => (fa sg S).bind fun r1 S1 => (fb sg S1).bind fun r2 S2 => match rgTwo r1 r2 with
  | some (i, j) => gate (rngOk i && rngOk j) (.ok (.new (rangeD i (j - i).toNat)) S2)
  | none => .stuck
def fTupRg2 (fa fb : FE) : FE := fun sg S => (fa sg S).bind fun r1 S1 => (fb sg S1).bind fun r2 S2 => match rgTwo r1 r2 with
  | some (i, j) => gate (rngOk i && rngOk j) (.ok (.d (.tuple (rangeD i (j - i).toNat))) S2)
  | none => .stuck
theorem rgTwo_ok {r1 r2 : R} {i j : Int} (h : rgTwo r1 r2 = some (i, j)) : r1 = .d (.int i) ∧ r2 = .d (.int j) := by
  unfold rgTwo at h
  split at h
  · cases h; exact ⟨rfl, rfl⟩
  · cases h
theorem rgV_rep2 {Φ : Addr → Prop} {H : Hp} (i j : Int) : RepA K Φ H (rgV i j) (rangeD i (j - i).toNat) := by
  have e1 : rgV i j = ((List.range (j - i).toNat).map fun (m : Nat) => i + m).map V.int := by
    unfold rgV; rw [List.map_map]; rfl
  have e2 : rangeD i (j - i).toNat = ((List.range (j - i).toNat).map fun (m : Nat) => i + m).map PyData.int := by
    unfold rangeD; rw [List.map_map]; rfl
  rw [e1, e2]
  exact repInts _
theorem rg_ok2 {i j : Int} (h : (rngOk i && rngOk j) = true) : RgOk i j := by
  obtain ⟨h1, h2⟩ := Bool.and_eq_true_iff.mp h
  have h1 := of_dec (show decide (i.natAbs ≤ 1000000) = true from h1)
  have h2 := of_dec (show decide (j.natAbs ≤ 1000000) = true from h2)
  exact ⟨by omega, by omega, by omega, by omega, by omega⟩
theorem de_listRg2 {a b : Expr} {fa fb : FE} {p p2 pos pos2 : Pos} (hc : X.calm = true) (hg : Gl X "list") (hm : X.mg "list" = none) (hg2 : Gl X "range") (hm2 : X.mg "range" = none) (ha : DE X Z a fa) (hb : DE X Z b fb)
    (na : starEach [a, b] X.env = (false, eval a X.env) :: starEach [b] X.env := by rfl) (nb : starEach [b] X.env = (false, eval b X.env) :: starEach [] X.env := by rfl) (hp : (backTo pos2 (starEach [b] X.env)).any (·.1) = false := by rfl)
    (na2 : starEach [.Call (.Name "range" p2) [a, b] [] pos2] X.env = (false, eval (.Call (.Name "range" p2) [a, b] [] pos2) X.env) :: starEach [] X.env := by rfl) : DE X Z (.Call (.Name "list" p) [.Call (.Name "range" p2) [a, b] [] pos2] [] pos) (fListRg2 fa fb) := by
  refine ⟨PE.imp (pe_listRg hc hg hm (prg_2 hg2 hm2 ha.pe hb.pe na nb hp) na2) fun σ H Q q => ?_⟩
  obtain ⟨sg, S, Φ, ρ, env, sim, q⟩ := q
  refine ⟨sg, S, Φ, ρ, env, sim, Out.wp_mono (Out.wp_bind q) (fun r S1 eo1 q Φ1 ρ1 H1 v t1 s1 r1 => ?_) (fun _ _ z => z)⟩
  clear eo1
  refine ⟨sg, S1, Φ1, ρ1, env.mono sim t1, s1, Out.wp_mono (Out.wp_bind q) (fun r' S2 eo2 qb Φ2 ρ2 H2 v2 t2 s2 r2 => ?_) (fun _ _ z => Z.after z t1)⟩
  clear eo2 q
  have t12 := t1.trans t2
  split at qb
  · rename_i i j e
    obtain ⟨rfl, rfl⟩ := rgTwo_ok e
    obtain ⟨hl, qc⟩ := gate_wp qb
    cases r1
    cases r2
    refine ⟨i, j, rfl, rfl, rg_ok2 hl, fun p hp => ?_⟩
    exact qc _ _ _ _ (t12.trans (Tr.newObj hp)) (s2.newObj hp) ((RepR.newL s2 hp (rgV_rep2 i j)).early t12.there)
  · exact qb.elim
theorem de_tupRg2 {a b : Expr} {fa fb : FE} {p p2 pos pos2 : Pos} (hc : X.calm = true) (hg : Gl X "tuple") (hm : X.mg "tuple" = none) (hg2 : Gl X "range") (hm2 : X.mg "range" = none) (ha : DE X Z a fa) (hb : DE X Z b fb)
    (na : starEach [a, b] X.env = (false, eval a X.env) :: starEach [b] X.env := by rfl) (nb : starEach [b] X.env = (false, eval b X.env) :: starEach [] X.env := by rfl) (hp : (backTo pos2 (starEach [b] X.env)).any (·.1) = false := by rfl)
    (na2 : starEach [.Call (.Name "range" p2) [a, b] [] pos2] X.env = (false, eval (.Call (.Name "range" p2) [a, b] [] pos2) X.env) :: starEach [] X.env := by rfl) : DE X Z (.Call (.Name "tuple" p) [.Call (.Name "range" p2) [a, b] [] pos2] [] pos) (fTupRg2 fa fb) := by
  refine ⟨PE.imp (pe_tupRg hc hg hm (prg_2 hg2 hm2 ha.pe hb.pe na nb hp) na2) fun σ H Q q => ?_⟩
  obtain ⟨sg, S, Φ, ρ, env, sim, q⟩ := q
  refine ⟨sg, S, Φ, ρ, env, sim, Out.wp_mono (Out.wp_bind q) (fun r S1 eo1 q Φ1 ρ1 H1 v t1 s1 r1 => ?_) (fun _ _ z => z)⟩
  clear eo1
  refine ⟨sg, S1, Φ1, ρ1, env.mono sim t1, s1, Out.wp_mono (Out.wp_bind q) (fun r' S2 eo2 qb Φ2 ρ2 H2 v2 t2 s2 r2 => ?_) (fun _ _ z => Z.after z t1)⟩
  clear eo2 q
  have t12 := t1.trans t2
  split at qb
  · rename_i i j e
    obtain ⟨rfl, rfl⟩ := rgTwo_ok e
    obtain ⟨hl, qc⟩ := gate_wp qb
    cases r1
    cases r2
    refine ⟨i, j, rfl, rfl, rg_ok2 hl, fun p hp => ?_⟩
    exact qc _ _ _ _ (t12.trans (Tr.newObj hp)) (s2.newObj hp) (Rep.newT s2 hp (rgV_rep2 i j))
  · exact qb.elim
end
end Dl
set_option maxHeartbeats 1000000
/-! Dl22: comprehensions over a dict: it is locked meanwhile; nothing else of the store is seen. -/
namespace Dl
open PySem PySem.Spec PyProof.Rows L2
def dropO (c : Nat) : Option Wv → Option Wv
  | some (.ref k) => if k = c then some (.ref 0) else none
  | o => o
def dropR (c : Nat) (sg : Sg) : Sg := sg.map (dropO c)
def fLockE (i : Nat) (f : FE) : FE := fun sg S => match sg[i]? with
  | some (some (.ref c)) => match S[c]? with
    | some (.dct kvs) => (noX (f (dropR c sg) [.lck kvs])).bind fun r _ => match r with
      | .ref _ => .stuck
      | r => .ok r S
    | _ => .stuck
  | _ => .stuck
section
variable {X : Cx} {Z : XZ} {K : PySem.W.Frag} {Φ Φ2 : Addr → Prop} {ρ ρ2 : List Addr} {S S2 : Sto} {H H2 : Hp} {L : Addr} {o1 : HO}
mutual
theorem Rep.updF {o : Obj} {kvs : List (Key × V)} (hL : H L = some (.frz o (.dK kvs))) (hp : ¬ Φ L) : ∀ {v : V} {d : D}, Rep K Φ H v d → Rep K Φ (upd H L o1) v d
  | _, _, .non => .non
  | _, _, .bl b => .bl b
  | _, _, .int i => .int i
  | _, _, .str x => .str x
  | _, _, .lst q h r => .lst q (by rw [upd_ne (by rintro rfl; exact hp q)]; exact h) (RepA.updF hL hp r)
  | _, _, .lstK h r => .lstK h (RepA.updF hL hp r)
  | _, _, .lstF h r => .lstF (by rw [upd_ne (by rintro rfl; rw [hL] at h; cases h)]; exact h) (RepA.updF hL hp r)
  | _, _, .tup h r => .tup (by
      rcases h with (h | ⟨o, h⟩) | h
      · exact .inl (.inl (by rw [upd_ne (by rintro rfl; rw [hL] at h; cases h)]; exact h))
      · exact .inl (.inr ⟨o, by rw [upd_ne (by rintro rfl; rw [hL] at h; cases h)]; exact h⟩)
      · exact .inr h) (RepA.updF hL hp r)
theorem RepA.updF {o : Obj} {kvs : List (Key × V)} (hL : H L = some (.frz o (.dK kvs))) (hp : ¬ Φ L) : ∀ {vs : List V} {ds : List D}, RepA K Φ H vs ds → RepA K Φ (upd H L o1) vs ds
  | _, _, .nil => .nil
  | _, _, .cons a b => .cons (Rep.updF hL hp a) (RepA.updF hL hp b)
end
theorem env_drop {σ : L2.St} {sg : Sg} {c : Nat} {a : Addr} {ws : List (Key × V)} {od : Obj} (env : EnvR K Φ ρ H σ sg) (hk : ρ[c]? = some a) (h1 : H a = some (.dK ws)) (hp : ¬ Φ a) : EnvR K Φ [a] (upd H a (.frz od (.dK ws))) σ (dropR c sg) := by
  refine ⟨by simp [dropR, env.len], fun i w hw => ?_⟩
  simp only [dropR, List.getElem?_map] at hw
  cases e : sg[i]? with
  | none => rw [e] at hw; cases hw
  | some o =>
    rw [e] at hw
    cases o with
    | none => simp [dropO] at hw
    | some u =>
      obtain ⟨v, hv, rv⟩ := env.get i u e
      cases u with
      | d x =>
        simp only [Option.map_some, dropO, Option.some.injEq] at hw
        subst hw
        exact ⟨v, hv, Rep.updN h1 trivial hp rv⟩
      | ref k =>
        simp only [Option.map_some, dropO, Option.some.injEq] at hw
        by_cases ek : k = c
        · rw [if_pos ek] at hw
          cases hw
          subst ek
          obtain ⟨b, rfl, hb⟩ := rv
          rw [hk] at hb; cases hb
          exact ⟨_, hv, a, rfl, rfl⟩
        · rw [if_neg ek] at hw; cases hw
theorem sim_lock {kvs : List (Key × D)} {a : Addr} {ws : List (Key × V)} {od : Obj} (s : Sim K Φ ρ H S) (h1 : H a = some (.dK ws)) (r : RepKV K Φ H ws kvs) (hp : ¬ Φ a) : Sim K Φ [a] (upd H a (.frz od (.dK ws))) [.lck kvs] := by
  have key : ∀ (k : Nat) (b : Addr) (c : Cell), ([a] : List Addr)[k]? = some b → ([Cell.lck kvs] : Sto)[k]? = some c → k = 0 ∧ b = a ∧ c = .lck kvs := fun k b c e1 e2 => by
    cases k with
    | zero => cases e1; cases e2; exact ⟨rfl, rfl, rfl⟩
    | succ k => simp at e1
  refine ⟨rfl, fun k b c e1 e2 => ?_, fun i j b c d e1 e2 e3 e4 e5 e6 => ?_, fun k c e => ?_, fun b e => ?_⟩
  · obtain ⟨rfl, rfl, rfl⟩ := key k b c e1 e2
    exact ⟨od, ws, upd_same, ⟨r.1, RepA.updN h1 trivial hp r.2⟩⟩
  · obtain ⟨rfl, rfl, rfl⟩ := key i b c e1 e3
    cases e5
  · cases k with
    | zero => cases e; trivial
    | succ k => simp at e
  · unfold upd
    split
    · simp
    · exact s.phi b e
theorem unlock {kvs : List (Key × D)} {c : Nat} {a : Addr} {ws : List (Key × V)} {od : Obj} (s : Sim K Φ ρ H S) (hk : ρ[c]? = some a) (hc : S[c]? = some (.dct kvs)) (h1 : H a = some (.dK ws)) (hp : ¬ Φ a)
    (t : Tr Φ [a] [.lck kvs] (upd H a (.frz od (.dK ws))) Φ2 ρ2 S2 H2) (s2 : Sim K Φ2 ρ2 H2 S2) :
    H2 a = some (.frz od (.dK ws)) ∧ ¬ Φ2 a ∧ Tr Φ ρ S H Φ2 ρ S (upd H2 a (.dK ws)) ∧ Sim K Φ2 ρ (upd H2 a (.dK ws)) S := by
  have nm : ∀ b, ¬ MutAt [a] [Cell.lck kvs] b := fun b ⟨k, d, e1, e2, e3⟩ => by
    cases k with
    | zero => cases e2; cases e3
    | succ k => simp at e1
  have m : MutAt ρ S a := ⟨c, _, hk, hc, rfl⟩
  have hu : (upd H a (.frz od (.dK ws))) a = some (.frz od (.dK ws)) := upd_same
  have h2 := t.keep a _ hu (nm a)
  have old : ∀ b o, b ≠ a → H b = some o → H2 b = some o := fun b o hb e => t.keep b o (by rw [upd_ne hb]; exact e) (nm b)
  have nphi : ∀ b, Φ2 b → Φ b ∨ (b ≠ a ∧ H b = none) := fun b e => by
    rcases t.phi' b e with z | z | z | z
    · exact .inl z
    · refine .inr ⟨fun e' => ?_, ?_⟩
      · subst e'; rw [hu] at z; cases z
      · by_cases hb : b = a
        · subst hb; rw [hu] at z; cases z
        · rw [upd_ne hb] at z; exact z
    · exact (nm b z).elim
    · exact z.elim
  have np2 : ¬ Φ2 a := fun e => (nphi a e).elim hp fun z => z.1 rfl
  have T : Tr Φ ρ S H Φ2 ρ S (upd H2 a (.dK ws)) := ⟨fun b o e n => by
      have hb : b ≠ a := fun e' => n (e' ▸ m)
      rw [upd_ne hb]; exact old b o hb e, fun b e => by
      unfold upd
      split
      · simp
      · rename_i hb
        cases q : H b with
        | none => exact absurd q e
        | some o => rw [old b o (fun z => hb z) q]; simp, t.phi, fun b e => (nphi b e).imp id fun z => .inl z.2, ⟨[], by simp⟩, fun b e => .inl e⟩
  refine ⟨h2, np2, T, s.mono' T (fun b mb => ⟨fun e => ?_, ?_⟩) fun b e => ?_⟩
  · obtain ⟨o, e1, _, e3⟩ := s.mutl mb
    exact (nphi b e).elim e3 fun z => by rw [z.2] at e1; cases e1
  · by_cases hb : b = a
    · subst hb; rw [upd_same]; exact h1.symm
    · obtain ⟨o, e1, _, _⟩ := s.mutl mb
      rw [upd_ne hb, e1]; exact old b o hb e1
  · unfold upd
    split
    · simp
    · exact s2.phi b e
theorem lock_imp {i : Nat} {f : FE} {σ : L2.St} {Q : VK} (q : tE K Z (fLockE i f) σ H Q) : tLockE (tE K Z f) σ H Q := by
  obtain ⟨sg, S, Φ, ρ, env, sim, q⟩ := q
  unfold fLockE at q
  split at q
  · rename_i c h0
    split at q
    · rename_i kvs h3
      obtain ⟨v, hv, a, rfl, hk⟩ := env.get i _ h0
      obtain ⟨ws, h1, r, hp⟩ := sim.cell c a _ hk h3
      refine ⟨a, .dK ws, h1, trivial, fun od => ⟨dropR c sg, [.lck kvs], Φ, [a], env_drop env hk h1 hp, sim_lock sim h1 r hp, ?_⟩⟩
      refine Out.wp_mono (noX_wp (Out.wp_bind q)) (fun r S' _ q Φ2 ρ2 H2 v t s2 rv => ?_) (fun _ _ z => z.elim)
      obtain ⟨g1, g2, g3, g4⟩ := unlock sim hk h3 h1 hp t s2
      refine ⟨g1, ?_⟩
      have fresh : ∀ b, (upd H a (.frz od (.dK ws))) b = none → H b = none ∧ b ≠ a := fun b e => by
        by_cases hb : b = a
        · subst hb; rw [upd_same] at e; cases e
        · rw [upd_ne hb] at e; exact ⟨e, hb⟩
      cases r with
      | ref k => exact q.elim
      | d x => exact q Φ2 ρ _ v g3 g4 (Rep.updF g1 g2 rv)
      | new xs =>
        obtain ⟨b, us, rfl, k1, k2, k3, k4, k5⟩ := rv
        obtain ⟨f1, f2⟩ := fresh b k5
        refine q Φ2 ρ _ _ g3 g4 ⟨b, us, rfl, by rw [upd_ne f2]; exact k1, RepA.updF g1 g2 k2, k3, fun mb => ?_, f1⟩
        obtain ⟨o, e1, _⟩ := sim.mutl mb
        rw [f1] at e1; cases e1
      | newd xs =>
        obtain ⟨b, us, rfl, k1, k2, k3, k4, k5⟩ := rv
        obtain ⟨f1, f2⟩ := fresh b k5
        refine q Φ2 ρ _ _ g3 g4 ⟨b, us, rfl, by rw [upd_ne f2]; exact k1, ⟨k2.1, RepA.updF g1 g2 k2.2⟩, k3, fun mb => ?_, f1⟩
        obtain ⟨o, e1, _⟩ := sim.mutl mb
        rw [f1] at e1; cases e1
    · exact q.elim
  · exact q.elim
theorem de_lockE {i : Nat} {e : Expr} {f : FE} (h : DE X Z e f) : DE X Z e (fLockE i f) := ⟨PE.imp (pe_lock h.pe) fun _ _ _ q => lock_imp q⟩
/-- name = [.. over the dict in slot l] -/
theorem ds_setCL {i l : Nat} {y : Str} {py : Pos} {elt tg iter : Expr} {ifs : List Expr} {scope : Scope} {own : List (Str × Nat)} {pos spos : Pos} {fi : FI} {b : FB} {ft : FT} {fe : FE} (hc : X.calm = true) (hN : X.N.Nodup) (hy : X.N[i]? = some y) (hyl : X.env.scope.names.lookup y = some .local)
    (hsw : swapsWith (.ListComp elt [⟨tg, iter, ifs, 0⟩] scope pos) (some (.Name y py)) spos.line X.env = pure true) (hi : DI X Z tg iter fi) (ok : blkC X.N X.env.scope scope own = true)
    (hg : ∀ (s : Shared) (H : Hp) (C : Addr) (cl : List (Str × Addr)) (fp : List Addr), DG (X.blk s H scope (compEnvC scope cl C X.env) fp) tg (own.map (·.2)) b)
    (ht : ∀ (s : Shared) (H : Hp) (C : Addr) (cl : List (Str × Addr)) (fp : List Addr), DTs (X.blk s H scope (compEnvC scope cl C X.env) fp) XZ.no ifs ft)
    (he : ∀ (s : Shared) (H : Hp) (C : Addr) (cl : List (Str × Addr)) (fp : List Addr), DE (X.blk s H scope (compEnvC scope cl C X.env) fp) XZ.no elt fe) (hs : ∀ x, foldedSetIterable iter X.env x = pure x := by intro _; rfl) :
    DS X Z (.Assign [.Name y py] (.ListComp elt [⟨tg, iter, ifs, 0⟩] scope pos) spos) (fSet i (fLockE l (fComp (own.map (·.2)) fi b ft fe))) :=
  ⟨PS.imp (ps_lock (ps_setLc hc hN hy hyl hsw hi.pi (blkOk_by ok) (fun s H C cl fp => (hg s H C cl fp).pg) (fun s H C cl fp => (ht s H C cl fp).pt) (fun s H C cl fp => (he s H C cl fp).pe) hs)) fun D σ H q => by
    have q1 : tE X.K Z (fLockE l (fComp (own.map (·.2)) fi b ft fe)) σ H (fun x H1 => gName i x σ H1 D.nx) := set_imp q
    obtain ⟨d, u, h1, h2, q2⟩ := lock_imp q1
    exact ⟨d, u, h1, h2, fun od => comp_imp (Z := Z) (Q := fun x H1 => gName i x σ H1 fun σ' H' => H' d = some (.frz od u) ∧ D.nx σ' (upd H' d u)) (q2 od)⟩⟩

/-! ### what is walked -/
def keyToD : Key → D
  | .inl i => .int i
  | .inr x => .str x
theorem rep_key {k : Key} : Rep K Φ H (kV k) (keyToD k) := by
  cases k with
  | inl i => exact .int i
  | inr x => exact .str x
def lckOf (S : Sto) : R → Option (List (Key × D))
  | .ref k => match S[k]? with
    | some (.lck kvs) => some kvs
    | _ => none
  | _ => none
theorem lckOf_ok {H0 : Hp} {v : V} {r : R} {kvs : List (Key × D)} (h : RepR K Φ ρ S H H0 v r) (s : Sim K Φ ρ H S) (e : lckOf S r = some kvs) : ∃ a o ws, v = .ref a ∧ H a = some (.frz o (.dK ws)) ∧ RepKV K Φ H ws kvs := by
  cases r with
  | ref k =>
    obtain ⟨a, rfl, hk⟩ := h
    simp only [lckOf] at e
    split at e
    · rename_i kvs' hc
      cases e
      obtain ⟨o, ws, h1, h2⟩ := s.cell k a _ hk hc
      exact ⟨a, o, ws, rfl, h1, h2⟩
    · cases e
  | _ => cases e
def itemsD (kvs : List (Key × D)) : List D := kvs.map fun p => .tuple [keyToD p.1, p.2]
def fItems (fd : FE) : FI := fun sg S => (fd sg S).bind fun r S1 => match lckOf S1 r with
  | some kvs => .ok (itemsD kvs) S1
  | none => .stuck
def fKeys (fd : FE) : FI := fun sg S => (fd sg S).bind fun r S1 => match lckOf S1 r with
  | some kvs => .ok (kvs.map fun p => keyToD p.1) S1
  | none => .stuck
theorem kv_at {ws : List (Key × V)} {kvs : List (Key × D)} (r : RepKV K Φ H ws kvs) {i : Nat} (hi : i < kvs.length) : ∃ p q, ws[i]? = some p ∧ kvs[i]? = some q ∧ p.1 = q.1 ∧ Rep K Φ H p.2 q.2 := by
  have hl := r.len
  have h1 : ws[i]? = some ws[i] := List.getElem?_eq_getElem (by omega)
  have h2 : kvs[i]? = some kvs[i] := List.getElem?_eq_getElem hi
  refine ⟨_, _, h1, h2, ?_, ?_⟩
  · have := congrArg (fun l => l[i]?) r.1
    simp only [List.getElem?_map, h1, h2, Option.map_some, Option.some.injEq] at this
    exact this
  · obtain ⟨d, e1, e2⟩ := RepA.get' (i := i) r.2 (v := ws[i].2) (by simp [h1])
    simp only [List.getElem?_map, h2, Option.map_some, Option.some.injEq] at e1
    rw [e1]; exact e2
theorem di_items {o : Expr} {apos cpos tpos : Pos} {elts : List Expr} {kk : Nat} {fo : FE} (ho : DE X Z o fo) (hbase : attributeBase o "items" X.env (eval o X.env) = eval o X.env := by rfl) (hline : (apos.endLine == cpos.line) = true := by rfl) :
    DI X Z (.Tuple elts kk tpos) (.Call (.Attribute o "items" apos) [] [] cpos) (fItems fo) := by
  refine ⟨PI.imp (pi_items ho.pe hbase hline) fun σ H Q q => ?_⟩
  obtain ⟨sg, S, Φ, ρ, env, sim, q⟩ := q
  refine ⟨sg, S, Φ, ρ, env, sim, Out.wp_mono (Out.wp_bind q) (fun r S1 eo1 q Φ1 ρ1 H1 v t1 s1 r1 => ?_) (fun _ _ z => z)⟩
  clear eo1
  split at q
  · rename_i kvs e1
    obtain ⟨a, o', ws, rfl, h1, h2⟩ := lckOf_ok r1 s1 e1
    have hl : (itemsD kvs).length = ws.length := by simp [itemsD, h2.len]
    refine ⟨a, o', ws, rfl, h1, q _ _ _ _ t1 s1 ⟨_, _, hl ▸ walk_items, fun Φ3 ρ3 S3 H3 t3 s3 => ⟨t3.keep _ _ h1 (.inr id), fun i x H4 hi y => ?_⟩⟩⟩
    obtain ⟨p, p', g1, g2, g3, g4⟩ := kv_at h2 (i := i) (by rw [hl, h2.len] at hi; exact hi)
    refine ⟨.tuple [keyToD p'.1, p'.2], by simp [itemsD, g2], pair_walkD (Φ := Φ1) (ρ := ρ1) (S := S1) (H := H1) s3 y (fun v e => ?_) (fun v e => ?_)⟩
    · rw [g1] at e
      cases e
      show Rep X.K Φ3 _ (kV p.1) _
      rw [g3]; exact rep_key
    · rw [g1] at e
      cases e
      exact Rep.tw t3 g4
  · exact q.elim
theorem di_keys {tg o : Expr} {fo : FE} (ho : DE X Z o fo) : DI X Z tg o (fKeys fo) := by
  refine ⟨PI.imp (pi_keys ho.pe) fun σ H Q q => ?_⟩
  obtain ⟨sg, S, Φ, ρ, env, sim, q⟩ := q
  refine ⟨sg, S, Φ, ρ, env, sim, Out.wp_mono (Out.wp_bind q) (fun r S1 eo1 q Φ1 ρ1 H1 v t1 s1 r1 => ?_) (fun _ _ z => z)⟩
  clear eo1
  split at q
  · rename_i kvs e1
    obtain ⟨a, o', ws, rfl, h1, h2⟩ := lckOf_ok r1 s1 e1
    have hl : (kvs.map fun p => keyToD p.1).length = ws.length := by simp [h2.len]
    refine ⟨a, o', rfl, .inl ⟨ws, h1, q _ _ _ _ t1 s1 ⟨_, _, hl ▸ walk_keys, fun Φ3 ρ3 S3 H3 t3 s3 => ⟨t3.keep _ _ h1 (.inr id), fun i x H4 hi y => ?_⟩⟩⟩⟩
    obtain ⟨rfl, k, v, g0, rfl⟩ := y
    obtain ⟨p, p', g1, g2, g3, g4⟩ := kv_at h2 (i := i) (by rw [hl, h2.len] at hi; exact hi)
    rw [g1] at g0
    cases g0
    refine ⟨keyToD p'.1, by simp [g2], .refl, s3, ?_⟩
    rw [← g3]; exact rep_key
  · exact q.elim
end
end Dl
/-! Dl23: sorted(set(list or tuple of ints)). -/
namespace L2
open PySem PySem.Spec PyProof.Rows
section
variable {P : Program} {w : World} {A : Around} {E : Value → Shared → Prop} {s : Shared}
theorem call_set_lstI {l : Addr} {items : Array Value} (ns : List Int) {Q : Value → Shared → Prop} (hh : A.handled = none) (hl : s.heap.IsList l items) (hit : IntsAre items.toList ns) (hb : ns.length + 1 < scanBound)
    (h : ∀ (h' : Heap) (tk c : Nat), SetR w h' s.heap.objs.size (fun j => decide (j ∈ ns)) c → c ≤ ns.length → (∀ b o, s.heap.get? b = some o → h'.get? b = some o) → Q (.ref s.heap.objs.size) { s with heap := h', toks := tk }) :
    wpAny (model P w) A (call (.type "set") [.ref l]) Q E s := by
  have hisz : items.size = ns.length := by
    have q := IntsAre.length hit
    rw [Array.length_toList] at q
    exact q
  obtain ⟨c, tl, hmro⟩ := F.called_set.mro
  have hmade := F.called_set.made
  have hsub := F.called_set.sub
  refine wpAny_call (codeAny_of_tree ?_)
  show wpAny _ _ (callAny (.type "set") _) _ _ _
  refine wpAny_pure ⟨Code.quiet_builtin _ (by decide +kernel), codeAny_builtin F.entry_type_call ?_⟩
  rw [Around.under_plain (weight_type_call_type "set" [.ref l] []) rfl]
  have h1 := F.called_set.notType
  have h2 := F.called_set.canCreate
  have hct := F.typeCall_set_1 (.ref l)
  repeat (any_goals (first | assumption | wp_step))

  refine codeAny_mono (code_set_led1 (.ref l) (E := E) (Q₁ := fun obj s₁ => obj = .ref s.heap.objs.size ∧ s₁ = { s with heap := s.heap.push { cls := .type "set", dict := none, data := .set #[] 0 (.fresh 0 0 (!w.params.followText "set-order")) } }) ⟨rfl, rfl⟩) fun r s₁ hr => ?_
  cases r with
  | error e => exact hr
  | ok fl =>
    cases fl with
    | ret obj =>
      obtain ⟨rfl, rfl⟩ := hr
      have hS : (s.heap.push { cls := .type "set", dict := none, data := .set #[] 0 (.fresh 0 0 (!w.params.followText "set-order")) }).get? s.heap.objs.size = some { cls := .type "set", dict := none, data := .set #[] 0 (.fresh 0 0 (!w.params.followText "set-order")) } := Heap.get?_push_size _ rfl
      have hT : Shared.TypeIs { s with heap := s.heap.push { cls := .type "set", dict := none, data := .set #[] 0 (.fresh 0 0 (!w.params.followText "set-order")) } } (.ref s.heap.objs.size) "set" := ⟨_, hS, rfl⟩
      have hli := F.called_set.init.lookup
      have hbi := F.called_set.init.bind (.ref s.heap.objs.size)
      repeat (any_goals (first | assumption | wp_step))

      refine codeAny_mono (codeAny_call_builtin (R := wants (fun r s₂ => r = .none ∧ ∃ h' tk c, s₂ = { s with heap := h', toks := tk } ∧ SetR w h' s.heap.objs.size (fun j => decide (j ∈ ns)) c ∧ c ≤ ns.length ∧
          (∀ b o, s.heap.get? b = some o → h'.get? b = some o)) E) F.called_set.init.plain F.entry_set_init (check_set_init_1 hT ?_)) fun r₂ s₂ hr₂ => ?_
      · obtain ⟨ol, hol, hcl, nl, hdl⟩ := hl
        obtain ⟨ocls, odict, odata, oslots⟩ := ol
        simp only at hcl hdl
        subst hcl; subst hdl
        have hol' : (s.heap.push { cls := .type "set", dict := none, data := .set #[] 0 (.fresh 0 0 (!w.params.followText "set-order")) }).get? l = some { cls := .type "list", dict := odict, data := .seq items nl, slots := oslots } := Heap.get?_push_of_some _ hol
        have hsls := F.sub_list_set
        have hslf := F.sub_list_frozenset
        have hne : (Value.type "list" == Value.type "dict") = false := by decide
        have hl1 : (s.heap.push { cls := .type "set", dict := none, data := .set #[] 0 (.fresh 0 0 (!w.params.followText "set-order")) }).IsList l items := ⟨_, hol', rfl, nl, rfl⟩
        unfold Builtin.«set.__init__» noKeywords Builtin.Frozenset.updateFrom
        generalize hPI : pyIter = PI
        wp_walk
        subst hPI

        refine wpAny_pyIter_list hl1 ?_
        refine wpAny_bind (wpAny_runValue ?_)
        have hlS : l < s.heap.objs.size := Heap.lt_size hol
        have hh3 : A.in1.in1.in1.handled = none := by simp [hh]
        have hz1 : (s.heap.push { cls := .type "set", dict := none, data := .set #[] 0 (.fresh 0 0 (!w.params.followText "set-order")) }).objs.size = s.heap.objs.size + 1 := Heap.size_push ..
        have hneI : l ≠ (s.heap.push { cls := .type "set", dict := none, data := .set #[] 0 (.fresh 0 0 (!w.params.followText "set-order")) }).objs.size := by
          rw [Heap.size_push]; exact Nat.ne_of_lt (Nat.lt_succ_of_lt hlS)
        have hSf : s.heap.objs.size ∉ [(s.heap.push { cls := .type "set", dict := none, data := .set #[] 0 (.fresh 0 0 (!w.params.followText "set-order")) }).objs.size, l] := by
          rw [Heap.size_push]; simp only [List.mem_cons, List.mem_singleton, List.not_mem_nil, or_false, not_or]
          exact ⟨Nat.ne_of_lt (Nat.lt_succ_self _), Nat.ne_of_gt hlS⟩
        have hval : ∀ (i : Nat) (v : Value), items[i]? = some v → ∃ k t, ns[i]? = some k ∧ v = .int k t := fun i v hv => by
          have hi : i < ns.length := by rw [← hisz]; exact (Array.getElem?_eq_some_iff.mp hv).1
          obtain ⟨t, e⟩ := PyProof.Rows.IntsAre.int_at hit i v (by rw [Array.getElem?_toList]; exact hv)
          refine ⟨ns[i], t, List.getElem?_eq_getElem hi, ?_⟩
          rw [e, List.getD_eq_getElem?_getD, List.getElem?_eq_getElem hi] <;> rfl
        refine set_update_ints ((Walks.list hh3 _ l hneI items).toS) s.heap.objs.size
          hSf ns hisz hb hval (items.size - 0) 0 _ (by omega) (Nat.zero_le _)
          ⟨⟨_, Heap.get?_push_size _ rfl, rfl, rfl⟩, (hl1.push _)⟩ ?hS0 ?hR
        case hS0 =>
          have hget : ((s.heap.push { cls := .type "set", dict := none, data := .set #[] 0 (.fresh 0 0 (!w.params.followText "set-order")) }).push { cls := .type "list_iterator", data := .fields #[.ref l, .int 0 0] }).get? s.heap.objs.size
              = some { cls := .type "set", dict := none, data := .set #[] 0 (.fresh 0 0 (!w.params.followText "set-order")) } := Heap.get?_push_of_some _ hS
          exact ⟨0, Nat.le_refl 0, setR_new_at hget⟩
        case hR =>
          intro s' c' hm hc' hS'
          obtain ⟨h', g2, d', tk', os'⟩ := s'
          have eg : g2 = s.gens := hm.gens
          have ed : d' = s.drawn := hm.drawn
          have eo : os' = s.os := hm.os
          subst eg; subst ed; subst eo
          show wpAny _ _ _ _ _ _
          refine wpAny_pure ?_
          show wpAny _ _ (ret Value.none) _ _ _
          rw [hisz] at hc'
          refine wpAny_pure ⟨rfl, h', tk', c', rfl, hS', hc', fun b o e => ?_⟩
          have hb0 : b < s.heap.objs.size := Heap.lt_size e
          have hb1 : b ≠ s.heap.objs.size := Nat.ne_of_lt hb0
          have hb2 : b ≠ (s.heap.push { cls := .type "set", dict := none, data := .set #[] 0 (.fresh 0 0 (!w.params.followText "set-order")) }).objs.size := by
            rw [Heap.size_push]; exact Nat.ne_of_lt (Nat.lt_succ_of_lt hb0)
          exact hm.heap b o (by simp only [List.mem_cons, List.mem_singleton, List.not_mem_nil, or_false, not_or]; exact ⟨hb1, hb2⟩) (Heap.get?_push_of_some _ (Heap.get?_push_of_some _ e))

      · cases r₂ with
        | error e => exact hr₂
        | ok fl₂ =>
          cases fl₂ with
          | ret r =>
            obtain ⟨rfl, h', tk, c', rfl, hS', hc', hk'⟩ := hr₂
            repeat (any_goals (first | assumption | wp_step))
            exact h _ _ _ hS' hc' hk'
          | _ => exact hr₂.elim
    | _ => exact hr.elim
end
end L2
namespace Dl
open PySem PySem.Spec PyProof.Rows L2
variable {X : Cx} {Z : XZ} {K : PySem.W.Frag}
def rSetBI (K : PySem.W.Frag) (w : World) : List V → Hp → VK → Prop := fun vs H Q => ∃ (a : Addr) (ns : List Int), vs = [.ref a] ∧ (SqT K H a (ns.map V.int) ∨ SqL K H a (ns.map V.int)) ∧ ns.length ≤ 1000 ∧
  ∀ (p : Addr) (c : Nat), c ≤ ns.length → H p = none → Q (.ref p) (upd H p (SetO w p (fun j => decide (j ∈ ns)) c))
theorem cr_setBI (hc : X.calm = true) : CallR X (.type "set") (rSetBI X.K X.w) := by
  intro pins s σ H xs us Q I r h
  obtain ⟨a, ns, rfl, hq, hl, q⟩ := h
  rcases hq with hq | hq
  · exact cr_setTI hc pins s σ H _ us Q I r ⟨a, ns, rfl, hq, hl, q⟩
  · rw [Vals.ref1 r]
    obtain ⟨its, rv, pl, hz⟩ := I.list hq
    have hi := rv.ints
    have hbd : (1001 : Nat) < scanBound := by decide
    refine call_set_lstI ns (I.ok.hd hc) pl.isList (by simpa using hi) (by omega) fun h' tk c hS hcl hk => ?_
    exact ⟨.ref _, upd H s.heap.objs.size (SetO X.w s.heap.objs.size (fun j => decide (j ∈ ns)) c), I.laid (t' := tk) (fun b u e => hk b u e) (Nat.le_refl _) (setO_new hS), rfl, q _ _ hcl (I.hok.fresh (Nat.le_refl _))⟩
def seqOf : D → Option (List D)
  | .tuple ds => some ds
  | .list ds => some ds
  | _ => none
def fSortSet2 (fa : FA) : FE := fun sg S => (fa sg S).bind fun ws S1 => match ws with
  | [w] => match (pkW S1 w).bind seqOf with
    | some ds => match intsOf ds with
      | some ns => gate (decide (ns.length < 64)) (.ok (.new ((sortU ns).map .int)) S1)
      | none => .stuck
    | _ => .stuck
  | _ => .stuck
theorem de_sortSet2 {x y : Str} {p p2 pos pos2 : Pos} {e : Expr} {fa : FA} (hc : X.calm = true) (hg : Gl X x) (hm : X.mg x = none) (hv : bootBuiltins x = some (.builtin "sorted")) (hg2 : Gl X y) (hm2 : X.mg y = none) (hv2 : bootBuiltins y = some (.type "set")) (ha : DA X Z [e] fa)
    (hn : x ≠ "__name__" := by decide) (hdb : (x == ("__debug__" : Str)) = false := by decide) (hn2 : y ≠ "__name__" := by decide) (hdb2 : (y == ("__debug__" : Str)) = false := by decide)
    (he : starEach [e] X.env = (false, eval e X.env) :: starEach [] X.env := by rfl)
    (he3 : starEach [.Call (.Name y p2) [e] [] pos2] X.env = (false, eval (.Call (.Name y p2) [e] [] pos2) X.env) :: starEach [] X.env := by rfl) : DE X Z (.Call (.Name x p) [.Call (.Name y p2) [e] [] pos2] [] pos) (fSortSet2 fa) := by
  refine ⟨PE.imp (pe_callB (cr_sortedSet hc) hg hm hv (pa_cons (pe_callTy (cr_setBI hc) hg2 hm2 hv2 ha.pa hn2 hdb2 he rfl) pa_nil he3) hn hdb he3 rfl) fun σ H Q q => ?_⟩
  obtain ⟨sg, S, Φ, ρ, env, sim, q⟩ := q
  refine ⟨sg, S, Φ, ρ, env, sim, Out.wp_mono (Out.wp_bind q) (fun ws S1 eo q Φ1 ρ1 H1 vs t1 s1 r1 => ?_) (fun _ _ z => z)⟩
  clear eo
  split at q
  · rename_i w
    obtain ⟨v, rfl, r2⟩ := repws1 r1
    split at q
    · rename_i ds e1
      cases e0 : pkW S1 w with
      | none => rw [e0] at e1; cases e1
      | some d0 =>
        rw [e0] at e1
        have key : ∃ a us, v = .ref a ∧ (SqT X.K H1 a us ∨ SqL X.K H1 a us) ∧ RepA X.K Φ1 H1 us ds := by
          cases d0 with
          | tuple ds' => cases e1; obtain ⟨a, us, h0, h1, r3⟩ := pkW_ok r2 s1 e0; exact ⟨a, us, h0, .inl h1, r3⟩
          | list ds' => cases e1; obtain ⟨a, us, h0, h1, r3⟩ := pkW_ok r2 s1 e0; exact ⟨a, us, h0, .inr h1, r3⟩
          | _ => cases e1
        obtain ⟨a, us, rfl, h1, r3⟩ := key
        split at q
        · rename_i ns e2
          obtain rfl := intsOf_ok r3 e2
          obtain ⟨hl, q⟩ := gate_wp q
          have hl := of_dec hl
          refine ⟨a, ns, rfl, h1, by omega, fun p c hcl hp => ?_⟩
          have ta := Tr.newObj (Φ := Φ1) (ρ := ρ1) (S := S1) (o := SetO X.w p (fun j => decide (j ∈ ns)) c) hp
          have sa := s1.newObj (o := SetO X.w p (fun j => decide (j ∈ ns)) c) hp
          refine ⟨p, _, c, rfl, upd_same .., by omega, fun ns' p' hpw hmem hlen hp' => ?_⟩
          have en : ns' = sortU ns := incr_one hpw (sortU_pw ns) fun z => (hmem z).trans (by simp [sortU_mem])
          subst en
          exact q _ _ _ _ (t1.trans (ta.trans (Tr.newObj hp'))) (sa.newObj hp') ((RepR.newL sa hp' (repInts _)).early (t1.trans ta).there)
        · exact q.elim
    · exact q.elim
  · exact q.elim
end Dl
namespace K25
open PySem L2 Dl
abbrev tab_FACTORS : Dl.Tab := [("full", some (.tuple [.int 1, .int 2, .int (-1), .int (-1), .int (-1)])), ("borrow", some (.tuple [.int 1, .int (-2), .int (-1), .int 1, .int 1])), ("not", none), ("and", none), ("or", none), ("unlike", none), ("like", none)]
/-- form: 0 constant, 1 pairs, 2 sums*, 3 name, 4 coefficient -/
def d_form : FD := fDef 5 (fSeq (fSetM 2 (fDNew)) (fSeq (fFor (fSeqI (fVar 1)) (bTup [3, 4]) (fSetSub (fVar 2) (fVar 3) (xAdd (fGet2 (fVar 2) (fVar 3) (fC (.int 0))) (fVar 4)))) (fRet (fTup (fCons (fVar 0) (fCons (fCB gTuple (fCons (fComp [3] (fSeqI (fCBW gSorted (fCons (fVar 2) (fNil)))) (bName 3) (fBoo (fBin kNe (yIx (fVar 2) (fVar 3)) (fC (.int 0)))) (fTup (fCons (fVar 3) (fCons (yIx (fVar 2) (fVar 3)) (fNil))))) (fNil))) (fNil)))))))
/-- is_integer: 0 datum -/
def d_is_integer : FD := fDef 1 (fRet (fAndV (fIsi isInt (fVar 0)) (fNotV (fIsi isBool (fVar 0)))))
/-- is_count: 0 datum -/
def d_is_count : FD := fDef 1 (fRet (fAndV (fCall 1 d_is_integer (fCons (fVar 0) (fNil))) (fBin kGe (fVar 0) (fC (.int 0)))))
/-- is_tuple: 0 datum, 1 many -/
def d_is_tuple : FD := fDef 2 (fRet (fAndV (fIsi isTup (fVar 0)) (fBin kEq (fCB gLen (fCons (fVar 0) (fNil))) (fVar 1))))
/-- is_wire: 0 datum, 1 wires -/
def d_is_wire : FD := fDef 2 (fRet (fAndV (fCall 1 d_is_count (fCons (fVar 0) (fNil))) (fBin kLt (fVar 0) (fVar 1))))
/-- ascending: 0 wires -/
def d_ascending : FD := fDef 1 (fRet (fCB gTuple (fCons (fSortSet2 (fCons (fVar 0) (fNil))) (fNil))))
/-- clause_of: 0 literals, 1 yes, 2 wire, 3 sign -/
def d_clause_of : FD := fDef 4 (fSeq (fSet 1 (fComp [2, 3] (fSeqI (fVar 0)) (bTup [2, 3]) (fTru (fVar 3)) (fVar 2))) (fRet (fTup (fCons (fCall 1 d_ascending (fCons (fVar 1) (fNil))) (fCons (fCall 1 d_ascending (fCons (fComp [2, 3] (fSeqI (fVar 0)) (bTup [2, 3]) (fNotT (fTru (fVar 3))) (fVar 2)) (fNil))) (fNil))))))
/-- wire_name: 0 wire -/
def d_wire_name : FD := fDef 1 (fRet (xAdd (fC (.str "w_")) (fCB gStr (fCons (fVar 0) (fNil)))))
/-- table_of: 0 kind, 1 signs, 2 total, 3 half -/
def d_table_of : FD := fDef 4 (fSeq (fIfS (fBoo (fBin kEq (fVar 0) (fC (.str "not")))) (fRet (fTup (fCons (xSub (fC (.int 1)) (yIx (fVar 1) (fC (.int 0)))) (fNil)))) (fNext)) (fSeq (fIfS (fBoo (fBin kEq (fVar 0) (fC (.str "and")))) (fRet (fTup (fCons (xMul (yIx (fVar 1) (fC (.int 0))) (yIx (fVar 1) (fC (.int 1)))) (fNil)))) (fNext)) (fSeq (fIfS (fBoo (fBin kEq (fVar 0) (fC (.str "or")))) (fRet (fTup (fCons (fCB gMax (fCons (fVar 1) (fNil))) (fNil)))) (fNext)) (fSeq (fIfS (fBoo (fBin kIn2 (fVar 0) (fTup (fCons (fC (.str "unlike")) (fCons (fC (.str "like")) (fNil)))))) (fRet (fTup (fCons (fCB gInt (fCons (fBin kEq (fBin kEq (yIx (fVar 1) (fC (.int 0))) (yIx (fVar 1) (fC (.int 1)))) (fBin kEq (fVar 0) (fC (.str "like")))) (fNil))) (fNil)))) (fNext)) (fSeq (fSet 2 (fIf (fBoo (fBin kEq (fVar 0) (fC (.str "full")))) (xAdd (xAdd (yIx (fVar 1) (fC (.int 0))) (yIx (fVar 1) (fC (.int 1)))) (yIx (fVar 1) (fC (.int 2)))) (xSub (xSub (yIx (fVar 1) (fC (.int 0))) (yIx (fVar 1) (fC (.int 1)))) (yIx (fVar 1) (fC (.int 2)))))) (fSeq (fSet 3 (xDiv (fVar 2) (fC (.int 2)))) (fRet (fTup (fCons (xSub (fVar 2) (xMul (fC (.int 2)) (fVar 3))) (fCons (fCB gAbs (fCons (fVar 3) (fNil))) (fNil)))))))))))
/-- rows_of: 0 many, 1 row, 2 place -/
def d_rows_of : FD := fDef 3 (fRet (fComp [1] (fRange1 (fCons (xShl (fC (.int 1)) (fVar 0)) (fNil))) (bName 1) (fYes) (fCB gTuple (fCons (fComp [2] (fRange1 (fCons (fVar 0) (fNil))) (bName 2) (fYes) (fCB gInt (fCons (fBin kNe (xAnd (fVar 1) (xShl (fC (.int 1)) (fVar 2))) (fC (.int 0))) (fNil)))) (fNil)))))
/-- cell_wants: 0 cell, 1 kind, 2 ins, 3 outs, 4 found*, 5 row, 6 signs, 7 denied, 8 wire, 9 sign -/
def d_cell_wants : FD := fDef 10 (fSeq (fAsgT (bTup [1, 2, 3]) (fVar 0)) (fSeq (fSetM 4 (fLst (fNil))) (fSeq (fFor (fSeqI (fCall 1 d_rows_of (fCons (fCB gLen (fCons (fVar 2) (fNil))) (fNil)))) (bName 5) (fSeq (fSet 6 (fDictZip (fCons (fVar 2) (fCons (fVar 5) (fNil))))) (fIfS (fAndT (fBoo (fBin kEq (fComp [8] (fSeqI (fVar 2)) (bName 8) (fYes) (yIx (fVar 6) (fVar 8))) (fCB gList (fCons (fVar 5) (fNil))))) (fBoo (fBin kEq (fGet2 (fVar 6) (fC (.int 0)) (fC (.int 1))) (fC (.int 1))))) (fSeq (fSet 7 (fLockE 6 (fComp [8, 9] (fItems (fVar 6)) (bTup [8, 9]) (fBoo (fBin kNe (fVar 8) (fC (.int 0)))) (fTup (fCons (fVar 8) (fCons (fBin kEq (fVar 9) (fC (.int 0))) (fNil))))))) (fFor (fZip (fCons (fVar 3) (fCons (fCall 2 d_table_of (fCons (fVar 1) (fCons (fVar 5) (fNil)))) (fNil)))) (bTup [8, 9]) (fUpd uAppend (fVar 4) (fCons (fCall 1 d_clause_of (fCons (xAdd (fVar 7) (fLst (fCons (fTup (fCons (fVar 8) (fCons (fBin kEq (fVar 9) (fC (.int 1))) (fNil)))) (fNil)))) (fNil))) fNil)))) (fNext)))) (fRet (fVar 4)))))
/-- cell_equations: 0 cell, 1 kind, 2 ins, 3 outs, 4 numbers, 5 wires, 6 wire -/
def d_cell_equations : FD := fDef 7 (fSeq (fAsgT (bTup [1, 2, 3]) (fVar 0)) (fSeq (fIfS (fBoo (fGIn true tab_FACTORS (fVar 1))) (fRet (fLst (fNil))) (fNext)) (fSeq (fSet 4 (fDictZip (fCons (xAdd (fVar 3) (fVar 2)) (fCons (fGSub tab_FACTORS (fVar 1)) (fNil))))) (fSeq (fSet 5 (fCall 1 d_ascending (fCons (xAdd (fVar 3) (fVar 2)) (fNil)))) (fRet (fLst (fCons (fTup (fCons (fVar 5) (fCons (fCB gTuple (fCons (fComp [6] (fSeqI (fVar 5)) (bName 6) (fYes) (yIx (fVar 4) (fVar 6))) (fNil))) (fCons (fC (.int 0)) (fNil))))) (fNil))))))))
/-- is_equation: 0 datum, 1 wires, 2 wire, 3 number -/
def d_is_equation : FD := fDef 4 (fSeq (fIfS (fOrT (fNotT (fTru (fCall 2 d_is_tuple (fCons (fVar 0) (fCons (fC (.int 3)) (fNil)))))) (fOrT (fNotT (fTru (fIsi isTup (yIx (fVar 0) (fC (.int 0)))))) (fNotT (fTru (fCall 1 d_is_integer (fCons (yIx (fVar 0) (fC (.int 2))) (fNil))))))) (fRet (fC (.bool false))) (fNext)) (fSeq (fIfS (fOrT (fNotT (fTru (fCB gAll (fCons (fComp [2] (fSeqI (yIx (fVar 0) (fC (.int 0)))) (bName 2) (fYes) (fCall 2 d_is_wire (fCons (fVar 2) (fCons (fVar 1) (fNil))))) (fNil))))) (fBoo (fBin kNe (yIx (fVar 0) (fC (.int 0))) (fCall 1 d_ascending (fCons (yIx (fVar 0) (fC (.int 0))) (fNil)))))) (fRet (fC (.bool false))) (fNext)) (fSeq (fIfS (fOrT (fBoo (fBin kGt (fCB gLen (fCons (yIx (fVar 0) (fC (.int 0))) (fNil))) (fC (.int 6)))) (fNotT (fTru (fCall 2 d_is_tuple (fCons (yIx (fVar 0) (fC (.int 1))) (fCons (fCB gLen (fCons (yIx (fVar 0) (fC (.int 0))) (fNil))) (fNil))))))) (fRet (fC (.bool false))) (fNext)) (fRet (fCB gAll (fCons (fComp [3] (fSeqI (yIx (fVar 0) (fC (.int 1)))) (bName 3) (fYes) (fCall 1 d_is_integer (fCons (fVar 3) (fNil)))) (fNil)))))))
/-- equation_form: 0 equation, 1 wire, 2 number -/
def d_equation_form : FD := fDef 3 (fRet (fCall 2 d_form (fCons (yIx (fVar 0) (fC (.int 2))) (fCons (fComp [1, 2] (fZip (fCons (yIx (fVar 0) (fC (.int 0))) (fCons (yIx (fVar 0) (fC (.int 1))) (fNil)))) (bTup [1, 2]) (fYes) (fTup (fCons (fCall 1 d_wire_name (fCons (fVar 1) (fNil))) (fCons (fVar 2) (fNil))))) (fNil)))))
/-- holds_at: 0 clause, 1 signs, 2 wire -/
def d_holds_at : FD := fDef 3 (fRet (fOrV (fCB gAny (fCons (fComp [2] (fSeqI (yIx (fVar 0) (fC (.int 0)))) (bName 2) (fYes) (yIx (fVar 1) (fVar 2))) (fNil))) (fCB gAny (fCons (fComp [2] (fSeqI (yIx (fVar 0) (fC (.int 1)))) (bName 2) (fYes) (fNotV (yIx (fVar 1) (fVar 2)))) (fNil)))))
/-- is_kept: 0 clauses, 1 equation, 2 wires, 3 numbers, 4 constant, 5 row, 6 signs, 7 total, 8 place, 9 wire, 10 number, 11 clause -/
def d_is_kept : FD := fDef 12 (fSeq (fAsgT (bTup [2, 3, 4]) (fVar 1)) (fSeq (fFor (fRange1 (fCons (xShl (fC (.int 1)) (fCB gLen (fCons (fVar 2) (fNil)))) (fNil))) (bName 5) (fSeq (fSet 6 (fDc [8, 9] (fEnum (fVar 2)) (bTup [8, 9]) (fYes) (fVar 9) (fBin kNe (xAnd (fVar 5) (xShl (fC (.int 1)) (fVar 8))) (fC (.int 0))))) (fSeq (fSet 7 (xAdd (fVar 4) (fCB gSum (fCons (fComp [9, 10] (fZip (fCons (fVar 2) (fCons (fVar 3) (fNil)))) (bTup [9, 10]) (fTru (yIx (fVar 6) (fVar 9))) (fVar 10)) (fNil))))) (fIfS (fAndT (fBoo (fBin kNe (fVar 7) (fC (.int 0)))) (fAndT (fTru (fGet2 (fVar 6) (fC (.int 0)) (fC (.bool true)))) (fTru (fCB gAll (fCons (fComp [11] (fSeqI (fVar 0)) (bName 11) (fYes) (fCall 2 d_holds_at (fCons (fVar 11) (fCons (fVar 6) (fNil))))) (fNil)))))) (fRet (fC (.bool false))) (fNext))))) (fRet (fC (.bool true)))))
/-- _law_start: 0 script -/
def d__law_start : FD := fDef 1 (fRet (fLst (fCons (fCB gList (fCons (fVar 0) (fNil))) (fCons (fC (.int 0)) (fCons (fC (.int 0)) (fCons (fC (.int 0)) (fNil)))))))
/-- _law_draw: 0 state*, 1 most, 2 found, 3 cell, 4 mixed -/
def d__law_draw : FD := fDef 5 (fSeq (fSetSub (fVar 0) (fC (.int 3)) (xAdd (yIx (fVar 0) (fC (.int 3))) (fC (.int 1)))) (fSeq (fIfS (fBoo (fBin kGt (yIx (fVar 0) (fC (.int 2))) (fC (.int 0)))) (fSeq (fSet 2 (xMod (fCB gInt (fCons (yIx (fVar 0) (fC (.int 2))) (fNil))) (fVar 1))) (fSeq (fSetSub (fVar 0) (fC (.int 2)) (xDiv (yIx (fVar 0) (fC (.int 2))) (fVar 1))) (fRet (fVar 2)))) (fNext)) (fSeq (fSet 3 (fC (.int 0))) (fSeq (fIfS (fBoo (fBin kGt (fCB gLen (fCons (yIx (fVar 0) (fC (.int 0))) (fNil))) (fC (.int 0)))) (fSet 3 (fCB gAbs (fCons (yIx (yIx (fVar 0) (fC (.int 0))) (xMod (fCB gInt (fCons (yIx (fVar 0) (fC (.int 1))) (fNil))) (fCB gLen (fCons (yIx (fVar 0) (fC (.int 0))) (fNil))))) (fNil)))) (fNext)) (fSeq (fSetSub (fVar 0) (fC (.int 1)) (xAdd (yIx (fVar 0) (fC (.int 1))) (fC (.int 1)))) (fSeq (fIfS (fBoo (fBin kGe (fVar 3) (xPow (fC (.int 10)) (fC (.int 18))))) (fSeq (fSetSub (fVar 0) (fC (.int 2)) (xDiv (fVar 3) (fVar 1))) (fRet (xMod (fCB gInt (fCons (fVar 3) (fNil))) (fVar 1)))) (fNext)) (fSeq (fSet 4 (xMod (fCB gInt (fCons (xAdd (xMul (xAdd (fVar 3) (fC (.int 1))) (fC (.int 48271))) (xMul (yIx (fVar 0) (fC (.int 3))) (fC (.int 69621)))) (fNil))) (fC (.int 2147483647)))) (fSeq (fSet 4 (xMod (fCB gInt (fCons (xAdd (xAdd (xMul (fVar 4) (fC (.int 16807))) (xDiv (fVar 3) (fC (.int 97)))) (yIx (fVar 0) (fC (.int 3)))) (fNil))) (fC (.int 2147483629)))) (fRet (xMod (xDiv (fVar 4) (fC (.int 11))) (fVar 1)))))))))))
/-- _law_one_of: 0 state*, 1 items -/
def d__law_one_of : FD := fDef 2 (fRet (yIx (fVar 1) (fCall 2 d__law_draw (fCons (fVar 0) (fCons (fCB gLen (fCons (fVar 1) (fNil))) (fNil))))))
/-- _law_shuffled: 0 state*, 1 items, 2 found*, 3 item -/
def d__law_shuffled : FD := fDef 4 (fSeq (fSetM 2 (fLst (fNil))) (fSeq (fFor (fSeqI (fVar 1)) (bName 3) (fUpd uInsert (fVar 2) (fCons (fCall 2 d__law_draw (fCons (fVar 0) (fCons (xAdd (fCB gLen (fCons (fVar 2) (fNil))) (fC (.int 1))) (fNil)))) (fCons (fVar 3) fNil)))) (fRet (fVar 2))))
/-- _law_is_int: 0 x -/
def d__law_is_int : FD := fDef 1 (fRet (fAndV (fIsi isInt (fVar 0)) (fNotV (fIsi isBool (fVar 0)))))
/-- _law_same: 0 x, 1 y, 2 k -/
def d__law_same : Nat → FD
  | 0 => fun _ _ => .stuck
  | N + 1 => fDef 3 (fSeq (fIfS (fTru (fIsi isTup (fVar 1))) (fSeq (fIfS (fOrT (fNotT (fTru (fIsi isTup (fVar 0)))) (fBoo (fBin kNe (fCB gLen (fCons (fVar 0) (fNil))) (fCB gLen (fCons (fVar 1) (fNil)))))) (fRet (fC (.bool false))) (fNext)) (fRet (fCB gAll (fCons (fComp [2] (fRange1 (fCons (fCB gLen (fCons (fVar 1) (fNil))) (fNil))) (bName 2) (fYes) (fCall 2 (d__law_same N) (fCons (yIx (fVar 0) (fVar 2)) (fCons (yIx (fVar 1) (fVar 2)) (fNil))))) (fNil))))) (fNext)) (fSeq (fIfS (fTru (fIsi isStr (fVar 1))) (fRet (fAndV (fIsi isStr (fVar 0)) (fBin kEq (fVar 0) (fVar 1)))) (fNext)) (fRet (fAndV (fCall 1 d__law_is_int (fCons (fVar 0) (fNil))) (fBin kEq (fVar 0) (fVar 1))))))
/-- _law_table: 0 kind, 1 row, 2 total -/
def d__law_table : FD := fDef 3 (fSeq (fSet 2 (fCB gSum (fCons (fVar 1) (fNil)))) (fSeq (fIfS (fBoo (fBin kEq (fVar 0) (fC (.str "not")))) (fRet (fTup (fCons (xSub (fC (.int 1)) (fVar 2)) (fNil)))) (fNext)) (fSeq (fIfS (fBoo (fBin kEq (fVar 0) (fC (.str "and")))) (fRet (fTup (fCons (fCB gInt (fCons (fBin kEq (fVar 2) (fC (.int 2))) (fNil))) (fNil)))) (fNext)) (fSeq (fIfS (fBoo (fBin kEq (fVar 0) (fC (.str "or")))) (fRet (fTup (fCons (fCB gInt (fCons (fBin kGt (fVar 2) (fC (.int 0))) (fNil))) (fNil)))) (fNext)) (fSeq (fIfS (fBoo (fBin kIn2 (fVar 0) (fLst (fCons (fC (.str "unlike")) (fCons (fC (.str "like")) (fNil)))))) (fRet (fTup (fCons (fCB gInt (fCons (fBin kEq (fBin kEq (fVar 2) (fC (.int 1))) (fBin kEq (fVar 0) (fC (.str "unlike")))) (fNil))) (fNil)))) (fNext)) (fSeq (fIfS (fBoo (fBin kEq (fVar 0) (fC (.str "full")))) (fRet (fTup (fCons (xAnd (fVar 2) (fC (.int 1))) (fCons (xShr (fVar 2) (fC (.int 1))) (fNil))))) (fNext)) (fSeq (fSet 2 (xSub (xSub (yIx (fVar 1) (fC (.int 0))) (yIx (fVar 1) (fC (.int 1)))) (yIx (fVar 1) (fC (.int 2))))) (fRet (fTup (fCons (xAnd (fVar 2) (fC (.int 1))) (fCons (fCB gInt (fCons (fBin kLt (fVar 2) (fC (.int 0))) (fNil))) (fNil))))))))))))
/-- _law_clause: 0 pairs, 1 yes, 2 wire, 3 sign -/
def d__law_clause : FD := fDef 4 (fSeq (fSet 1 (fSortSet2 (fCons (fComp [2, 3] (fSeqI (fVar 0)) (bTup [2, 3]) (fTru (fVar 3)) (fVar 2)) (fNil)))) (fRet (fTup (fCons (fCB gTuple (fCons (fVar 1) (fNil))) (fCons (fCB gTuple (fCons (fSortSet2 (fCons (fComp [2, 3] (fSeqI (fVar 0)) (bTup [2, 3]) (fNotT (fTru (fVar 3))) (fVar 2)) (fNil))) (fNil))) (fNil))))))
/-- _law_wants: 0 cell, 1 kind, 2 ins, 3 outs, 4 found*, 5 number, 6 row, 7 signs*, 8 fits, 9 at, 10 lost, 11 told, 12 wire -/
def d__law_wants : FD := fDef 13 (fSeq (fAsgT (bTup [1, 2, 3]) (fVar 0)) (fSeq (fSetM 4 (fLst (fNil))) (fSeq (fFor (fRange1 (fCons (xShl (fC (.int 1)) (fCB gLen (fCons (fVar 2) (fNil)))) (fNil))) (bName 5) (fSeq (fSet 6 (fComp [9] (fRange1 (fCons (fCB gLen (fCons (fVar 2) (fNil))) (fNil))) (bName 9) (fYes) (xAnd (xShr (fVar 5) (fVar 9)) (fC (.int 1))))) (fSeq (fSetM 7 (fDisp ((fC (.int 0), fC (.int 1)) :: []))) (fSeq (fSet 8 (fC (.bool true))) (fSeq (fFor (fRange1 (fCons (fCB gLen (fCons (fVar 2) (fNil))) (fNil))) (bName 9) (fSeq (fIfS (fBoo (fBin kNe (fGet2 (fVar 7) (yIx (fVar 2) (fVar 9)) (yIx (fVar 6) (fVar 9))) (yIx (fVar 6) (fVar 9)))) (fSet 8 (fC (.bool false))) (fNext)) (fSetSub (fVar 7) (yIx (fVar 2) (fVar 9)) (yIx (fVar 6) (fVar 9))))) (fSeq (fSet 10 (fLockE 7 (fComp [12] (fKeys (fVar 7)) (bName 12) (fBoo (fBin kNe (fVar 12) (fC (.int 0)))) (fTup (fCons (fVar 12) (fCons (fBin kEq (yIx (fVar 7) (fVar 12)) (fC (.int 0))) (fNil))))))) (fIfS (fTru (fVar 8)) (fSeq (fSet 11 (fCall 2 d__law_table (fCons (fVar 1) (fCons (fVar 6) (fNil))))) (fFor (fRange1 (fCons (fCB gLen (fCons (fVar 3) (fNil))) (fNil))) (bName 9) (fUpd uAppend (fVar 4) (fCons (fCall 1 d__law_clause (fCons (xAdd (fVar 10) (fLst (fCons (fTup (fCons (yIx (fVar 3) (fVar 9)) (fCons (fBin kEq (yIx (fVar 11) (fVar 9)) (fC (.int 1))) (fNil)))) (fNil)))) (fNil))) fNil)))) (fNext)))))))) (fRet (fVar 4)))))
/-- _law_slice: 0 state*, 1 some, 2 kind, 3 numbers, 4 table*, 5 at, 6 due, 7 wire -/
def d__law_slice : FD := fDef 8 (fSeq (fSet 1 (fSl (fCall 2 d__law_shuffled (fCons (fVar 0) (fCons (fListRg2 (fC (.int 1)) (fC (.int 12))) (fNil)))) (fNoP) (fPart (fC (.int 5))))) (fSeq (fSet 2 (yIx (fLst (fCons (fC (.str "full")) (fCons (fC (.str "borrow")) (fNil)))) (fCall 2 d__law_draw (fCons (fVar 0) (fCons (fC (.int 2)) (fNil)))))) (fSeq (fSet 3 (yIx (fDisp ((fC (.str "full"), fLst (fCons (fC (.int 1)) (fCons (fC (.int 2)) (fCons (xNeg (fC (.int 1))) (fCons (xNeg (fC (.int 1))) (fCons (xNeg (fC (.int 1))) (fNil))))))) :: (fC (.str "borrow"), fLst (fCons (fC (.int 1)) (fCons (xNeg (fC (.int 2))) (fCons (xNeg (fC (.int 1))) (fCons (fC (.int 1)) (fCons (fC (.int 1)) (fNil))))))) :: [])) (fVar 2))) (fSeq (fSetM 4 (fDNew)) (fSeq (fFor (fRange1 (fCons (fC (.int 5)) (fNil))) (bName 5) (fSetSub (fVar 4) (yIx (fVar 1) (fVar 5)) (yIx (fVar 3) (fVar 5)))) (fSeq (fSet 6 (fTup (fCons (fCB gTuple (fCons (fCBW gSorted (fCons (fVar 1) (fNil))) (fNil))) (fCons (fCB gTuple (fCons (fComp [7] (fSeqI (fCBW gSorted (fCons (fVar 1) (fNil)))) (bName 7) (fYes) (yIx (fVar 4) (fVar 7))) (fNil))) (fCons (fC (.int 0)) (fNil)))))) (fRet (fTup (fCons (fTup (fCons (fVar 2) (fCons (fCB gTuple (fCons (fSl (fVar 1) (fPart (fC (.int 2))) (fNoP)) (fNil))) (fCons (fCB gTuple (fCons (fSl (fVar 1) (fNoP) (fPart (fC (.int 2)))) (fNil))) (fNil))))) (fCons (fVar 6) (fNil)))))))))))
/-- _law_other_cell: 0 state*, 1 kind, 2 ins, 3 at -/
def d__law_other_cell : FD := fDef 4 (fSeq (fSet 1 (fCall 2 d__law_one_of (fCons (fVar 0) (fCons (fLst (fCons (fC (.str "not")) (fCons (fC (.str "and")) (fCons (fC (.str "or")) (fCons (fC (.str "unlike")) (fCons (fC (.str "like")) (fNil))))))) (fNil))))) (fSeq (fSet 2 (fCB gTuple (fCons (fComp [3] (fRange1 (fCons (yIx (fLst (fCons (fC (.int 2)) (fCons (fC (.int 1)) (fNil)))) (fCB gInt (fCons (fBin kEq (fVar 1) (fC (.str "not"))) (fNil)))) (fNil))) (bName 3) (fYes) (fCall 2 d__law_draw (fCons (fVar 0) (fCons (fC (.int 5)) (fNil))))) (fNil)))) (fRet (fTup (fCons (fVar 1) (fCons (fVar 2) (fCons (fTup (fCons (xAdd (fC (.int 7)) (fCall 2 d__law_draw (fCons (fVar 0) (fCons (fC (.int 3)) (fNil))))) (fNil))) (fNil))))))))
/-- _law_form_of: 0 equation, 1 pairs*, 2 at, 3 x -/
def d__law_form_of : FD := fDef 4 (fSeq (fSetM 1 (fDNew)) (fSeq (fFor (fRange1 (fCons (fCB gLen (fCons (yIx (fVar 0) (fC (.int 0))) (fNil))) (fNil))) (bName 2) (fSetSub (fVar 1) (xAdd (fC (.str "w_")) (fCB gStr (fCons (yIx (yIx (fVar 0) (fC (.int 0))) (fVar 2)) (fNil)))) (yIx (yIx (fVar 0) (fC (.int 1))) (fVar 2)))) (fRet (fTup (fCons (yIx (fVar 0) (fC (.int 2))) (fCons (fCB gTuple (fCons (fComp [3] (fSeqI (fCBW gSorted (fCons (fVar 1) (fNil)))) (bName 3) (fBoo (fBin kNe (yIx (fVar 1) (fVar 3)) (fC (.int 0)))) (fTup (fCons (fVar 3) (fCons (yIx (fVar 1) (fVar 3)) (fNil))))) (fNil))) (fNil)))))))
/-- _law_slice_fits: 0 state*, 1 cell, 2 due, 3 wants, 4 at, 5 some, 6 numbers, 7 constant, 8 other -/
def d__law_slice_fits : FD := fDef 9 (fSeq (fSet 3 (fCall 1 d_cell_wants (fCons (fVar 1) (fNil)))) (fSeq (fIfS (fOrT (fNotT (fTru (fCall 2 (d__law_same 4) (fCons (fCB gTuple (fCons (fCall 1 d_cell_equations (fCons (fVar 1) (fNil))) (fNil))) (fCons (fTup (fCons (fVar 2) (fNil))) (fNil)))))) (fBoo (fBin kIsNot (fCall 2 d_is_equation (fCons (fVar 2) (fCons (fC (.int 12)) (fNil)))) (fC (.bool true))))) (fRet (fC (.bool false))) (fNext)) (fSeq (fIfS (fOrT (fNotT (fTru (fCall 2 (d__law_same 4) (fCons (fCall 1 d_equation_form (fCons (fVar 2) (fNil))) (fCons (fCall 1 d__law_form_of (fCons (fVar 2) (fNil))) (fNil)))))) (fBoo (fBin kIsNot (fCall 2 d_is_kept (fCons (fVar 3) (fCons (fVar 2) (fNil)))) (fC (.bool true))))) (fRet (fC (.bool false))) (fNext)) (fSeq (fSet 4 (fCall 2 d__law_draw (fCons (fVar 0) (fCons (fCB gLen (fCons (fVar 3) (fNil))) (fNil))))) (fSeq (fIfS (fBoo (fBin kIsNot (fCall 2 d_is_kept (fCons (xAdd (fSl (fVar 3) (fNoP) (fPart (fVar 4))) (fSl (fVar 3) (fPart (xAdd (fVar 4) (fC (.int 1)))) (fNoP))) (fCons (fVar 2) (fNil)))) (fC (.bool false)))) (fRet (fC (.bool false))) (fNext)) (fSeq (fAsgT (bTup [5, 6, 7]) (fVar 2)) (fSeq (fSet 4 (fCall 2 d__law_draw (fCons (fVar 0) (fCons (fC (.int 5)) (fNil))))) (fSeq (fSet 8 (fTup (fCons (fVar 5) (fCons (xAdd (xAdd (fSl (fVar 6) (fNoP) (fPart (fVar 4))) (fTup (fCons (xAdd (xAdd (yIx (fVar 6) (fVar 4)) (fC (.int 1))) (fCall 2 d__law_draw (fCons (fVar 0) (fCons (fC (.int 2)) (fNil))))) (fNil)))) (fSl (fVar 6) (fPart (xAdd (fVar 4) (fC (.int 1)))) (fNoP))) (fCons (fVar 7) (fNil)))))) (fRet (fAndV (fBin kIs (fCall 2 d_is_kept (fCons (fVar 3) (fCons (fVar 8) (fNil)))) (fC (.bool false))) (fBin kIs (fCall 2 d_is_kept (fCons (fVar 3) (fCons (fTup (fCons (fVar 5) (fCons (fVar 6) (fCons (fC (.int 1)) (fNil))))) (fNil)))) (fC (.bool false)))))))))))))
/-- law: 0 script, 1 state*, 2 turn, 3 cell, 4 due -/
def d_law : FD := fDef 5 (fSeq (fSetM 1 (fCall 1 d__law_start (fCons (fVar 0) (fNil)))) (fSeq (fFor (fRange1 (fCons (fC (.int 12)) (fNil))) (bName 2) (fSeq (fIfS (fBoo (fBin kEq (fCall 2 d__law_draw (fCons (fVar 1) (fCons (fC (.int 2)) (fNil)))) (fC (.int 0)))) (fSeq (fAsgT (bTup [3, 4]) (fCall 1 d__law_slice (fCons (fVar 1) (fNil)))) (fIfS (fNotT (fTru (fCall 3 d__law_slice_fits (fCons (fVar 1) (fCons (fVar 3) (fCons (fVar 4) (fNil))))))) (fRet (fC (.bool false))) (fNext))) (fSeq (fSet 3 (fCall 1 d__law_other_cell (fCons (fVar 1) (fNil)))) (fIfS (fNotT (fTru (fCall 2 (d__law_same 4) (fCons (fCB gTuple (fCons (fCall 1 d_cell_equations (fCons (fVar 3) (fNil))) (fNil))) (fCons (fTup (fNil)) (fNil)))))) (fRet (fC (.bool false))) (fNext)))) (fIfS (fNotT (fTru (fCall 2 (d__law_same 4) (fCons (fCB gTuple (fCons (fCall 1 d_cell_wants (fCons (fVar 3) (fNil))) (fNil))) (fCons (fCB gTuple (fCons (fCall 1 d__law_wants (fCons (fVar 3) (fNil))) (fNil))) (fNil)))))) (fRet (fC (.bool false))) (fNext)))) (fRet (fC (.bool true)))))
end K25
namespace K25
open PySem L2 Dl
theorem drawE : d__law_draw = dlDraw := rfl
theorem oneE : d__law_one_of = dlOneOf := rfl
theorem shufE : d__law_shuffled = dlShuf := rfl
abbrev Lit := Int × Bool
def litD (l : Lit) : D := .tuple [.int l.1, .bool l.2]
def yesL (ls : List Lit) : List Int := (ls.filter (·.2)).map (·.1)
def noL (ls : List Lit) : List Int := (ls.filter fun l => !l.2).map (·.1)
def clsD (ls : List Lit) : D := .tuple [.tuple ((sortU (yesL ls)).map PyData.int), .tuple ((sortU (noL ls)).map PyData.int)]
theorem yes_ev {u0 u1 : Option Wv} (S : Sto) : ∀ ls : List Lit, compL [u0, u1, none, none] (bTup [2, 3]) (fTru (fVar 3)) (fVar 2) (ls.map litD) S = .ok ((yesL ls).map PyData.int) S
  | [] => rfl
  | (w, b) :: ls => by
    have ih := yes_ev (u0 := u0) (u1 := u1) S ls
    simp only [List.map_cons, litD, compL]
    simp only [fDef, fRet, fRetN, fSeq, fIfS, fTru, fBoo, fAndT, fOrT, fNotT, fAndV, fOrV, fNotV, fIf, fVar, fC, fCall, fCons, fNil, fBin, fUn, on2, on1, pk, pkW, toD, toW, wD, wsD, gate_true, noX_ok, viewsOf, onA, fCB, startG, finD, fIsi, noX_cond, fNext, fDrop, fSet, fSetM, fTup, fLst, fAsgT, bTup, bAll, bName, List.getElem?_cons_zero, List.getElem?_cons_succ, List.map_cons, List.map_nil, List.length_cons, List.length_nil, List.replicate, Nat.reduceAdd, Nat.reduceSub, Nat.zero_add, Nat.sub_self, List.append_nil, List.cons_append, List.nil_append, List.take_length, decide_true, gate_dec, okD, truD, List.set_cons_zero, List.set_cons_succ, cond_true, cond_false, gLen, gAdd, Dl.gSub, gNeg, gEq_int, gNe_int, gLt, gGt, gLe, gGe, cond_and_d, cond_and_d', cond_or_d, cond_or_t, cond_and_t, cond_id, isInt, isBool, isTup, isStr, isLst, gIx, fNoP, fPart, fChain, gList, gTuple, fSeqI, take_app, fComp, fYes, wipeG, atI_0, atI_1, atI_2, atI_3, Bool.and_true, Bool.true_and, Bool.and_false, Bool.false_and, Bool.or_true, Bool.true_or, Bool.or_false, Bool.false_or, Bool.not_true, Bool.not_false, lim, Nat.reduceLeDiff, Nat.reduceLT, cast_beq, Option.map_some, shaped_int, fSetSub, ixN_40, ixN_41, ixN_42, ixN_43, fUpd, uAppend, get_last, set_last, if_true, if_false, not_lt_self, cutL_toI, cutL_fromI, Bool.true_xor, Bool.false_xor, gAll_map, rngOk_lit, smallI_lit, divOk_lit, Int.cast_ofNat_Int, Int.natCast_zero, Int.natCast_one, Int.reduceToNat, Int.reduceNeg, Int.reduceLE, Int.reduceLT, Int.reduceAdd, Int.reduceSub, Int.reduceMul, Int.reducePow, Nat.reduceMul, Nat.reducePow, Nat.reduceBEq, cast_beqL, cast_bneL, Nat.reduceBeqDiff, Nat.reduceBneDiff, eqv_str, eqv_int, ofString_beq, ofString_bne, String.reduceBEq, String.reduceBNe, shaped_strS, List.any_cons, List.any_nil, flatD, List.all_cons, List.all_nil, fFld, fMeth, fMake, fInit, endI, fSetFld, toWM, wR, fLook, putFW, List.lookup_cons, List.lookup_nil, Option.isNone, dk, putSub, gSub2, gIn2, keyD, fExt, Option.map_some, Option.map_none, Int.reduceBEq, Int.reduceBNe, and_self, decide_false, List.take_succ_cons, List.take_zero, List.drop_succ_cons, List.drop_zero, Int.natAbs_one, ↓bind_bd, bd_ok, bd_cond, ih]
    cases b <;> rfl
theorem no_ev {u0 u1 : Option Wv} (S : Sto) : ∀ ls : List Lit, compL [u0, u1, none, none] (bTup [2, 3]) (fNotT (fTru (fVar 3))) (fVar 2) (ls.map litD) S = .ok ((noL ls).map PyData.int) S
  | [] => rfl
  | (w, b) :: ls => by
    have ih := no_ev (u0 := u0) (u1 := u1) S ls
    simp only [List.map_cons, litD, compL]
    simp only [fDef, fRet, fRetN, fSeq, fIfS, fTru, fBoo, fAndT, fOrT, fNotT, fAndV, fOrV, fNotV, fIf, fVar, fC, fCall, fCons, fNil, fBin, fUn, on2, on1, pk, pkW, toD, toW, wD, wsD, gate_true, noX_ok, viewsOf, onA, fCB, startG, finD, fIsi, noX_cond, fNext, fDrop, fSet, fSetM, fTup, fLst, fAsgT, bTup, bAll, bName, List.getElem?_cons_zero, List.getElem?_cons_succ, List.map_cons, List.map_nil, List.length_cons, List.length_nil, List.replicate, Nat.reduceAdd, Nat.reduceSub, Nat.zero_add, Nat.sub_self, List.append_nil, List.cons_append, List.nil_append, List.take_length, decide_true, gate_dec, okD, truD, List.set_cons_zero, List.set_cons_succ, cond_true, cond_false, gLen, gAdd, Dl.gSub, gNeg, gEq_int, gNe_int, gLt, gGt, gLe, gGe, cond_and_d, cond_and_d', cond_or_d, cond_or_t, cond_and_t, cond_id, isInt, isBool, isTup, isStr, isLst, gIx, fNoP, fPart, fChain, gList, gTuple, fSeqI, take_app, fComp, fYes, wipeG, atI_0, atI_1, atI_2, atI_3, Bool.and_true, Bool.true_and, Bool.and_false, Bool.false_and, Bool.or_true, Bool.true_or, Bool.or_false, Bool.false_or, Bool.not_true, Bool.not_false, lim, Nat.reduceLeDiff, Nat.reduceLT, cast_beq, Option.map_some, shaped_int, fSetSub, ixN_40, ixN_41, ixN_42, ixN_43, fUpd, uAppend, get_last, set_last, if_true, if_false, not_lt_self, cutL_toI, cutL_fromI, Bool.true_xor, Bool.false_xor, gAll_map, rngOk_lit, smallI_lit, divOk_lit, Int.cast_ofNat_Int, Int.natCast_zero, Int.natCast_one, Int.reduceToNat, Int.reduceNeg, Int.reduceLE, Int.reduceLT, Int.reduceAdd, Int.reduceSub, Int.reduceMul, Int.reducePow, Nat.reduceMul, Nat.reducePow, Nat.reduceBEq, cast_beqL, cast_bneL, Nat.reduceBeqDiff, Nat.reduceBneDiff, eqv_str, eqv_int, ofString_beq, ofString_bne, String.reduceBEq, String.reduceBNe, shaped_strS, List.any_cons, List.any_nil, flatD, List.all_cons, List.all_nil, fFld, fMeth, fMake, fInit, endI, fSetFld, toWM, wR, fLook, putFW, List.lookup_cons, List.lookup_nil, Option.isNone, dk, putSub, gSub2, gIn2, keyD, fExt, Option.map_some, Option.map_none, Int.reduceBEq, Int.reduceBNe, and_self, decide_false, List.take_succ_cons, List.take_zero, List.drop_succ_cons, List.drop_zero, Int.natAbs_one, ↓bind_bd, bd_ok, bd_cond, ih]
    cases b <;> rfl
theorem sortU_len (xs : List Int) : (sortU xs).length ≤ xs.length := by
  have ins : ∀ (x : Int) (ys : List Int), (insU x ys).length ≤ ys.length + 1 := by
    intro x ys
    induction ys with
    | nil => simp [insU]
    | cons y ys ih =>
      unfold insU
      cases decide (x < y) <;> cases decide (x = y) <;> simp <;> omega
  induction xs with
  | nil => simp [sortU]
  | cons x xs ih =>
    have := ins x (sortU xs)
    simp only [sortU, List.length_cons]; omega
theorem ascL_ev (ns : List Int) (S : Sto) (h : ns.length < 64) : d_ascending [.d (.list (ns.map PyData.int))] S = .ok (.d (.tuple ((sortU ns).map PyData.int))) S := by
  have e := intsOf_map ns
  have h1 : decide (ns.length < 64) = true := decide_eq_true h
  unfold d_ascending
  simp only [fDef, fRet, fRetN, fSeq, fIfS, fTru, fBoo, fAndT, fOrT, fNotT, fAndV, fOrV, fNotV, fIf, fVar, fC, fCall, fCons, fNil, fBin, fUn, on2, on1, pk, pkW, toD, toW, wD, wsD, gate_true, noX_ok, viewsOf, onA, fCB, startG, finD, fIsi, noX_cond, fNext, fDrop, fSet, fSetM, fTup, fLst, fAsgT, bTup, bAll, bName, List.getElem?_cons_zero, List.getElem?_cons_succ, List.map_cons, List.map_nil, List.length_cons, List.length_nil, List.replicate, Nat.reduceAdd, Nat.reduceSub, Nat.zero_add, Nat.sub_self, List.append_nil, List.cons_append, List.nil_append, List.take_length, decide_true, gate_dec, okD, truD, List.set_cons_zero, List.set_cons_succ, cond_true, cond_false, gLen, gAdd, Dl.gSub, gNeg, gEq_int, gNe_int, gLt, gGt, gLe, gGe, cond_and_d, cond_and_d', cond_or_d, cond_or_t, cond_and_t, cond_id, isInt, isBool, isTup, isStr, isLst, gIx, fNoP, fPart, fChain, gList, gTuple, fSeqI, take_app, fComp, fYes, wipeG, atI_0, atI_1, atI_2, atI_3, Bool.and_true, Bool.true_and, Bool.and_false, Bool.false_and, Bool.or_true, Bool.true_or, Bool.or_false, Bool.false_or, Bool.not_true, Bool.not_false, lim, Nat.reduceLeDiff, Nat.reduceLT, cast_beq, Option.map_some, shaped_int, fSetSub, ixN_40, ixN_41, ixN_42, ixN_43, fUpd, uAppend, get_last, set_last, if_true, if_false, not_lt_self, cutL_toI, cutL_fromI, Bool.true_xor, Bool.false_xor, gAll_map, rngOk_lit, smallI_lit, divOk_lit, Int.cast_ofNat_Int, Int.natCast_zero, Int.natCast_one, Int.reduceToNat, Int.reduceNeg, Int.reduceLE, Int.reduceLT, Int.reduceAdd, Int.reduceSub, Int.reduceMul, Int.reducePow, Nat.reduceMul, Nat.reducePow, Nat.reduceBEq, cast_beqL, cast_bneL, Nat.reduceBeqDiff, Nat.reduceBneDiff, eqv_str, eqv_int, ofString_beq, ofString_bne, String.reduceBEq, String.reduceBNe, shaped_strS, List.any_cons, List.any_nil, flatD, List.all_cons, List.all_nil, fFld, fMeth, fMake, fInit, endI, fSetFld, toWM, wR, fLook, putFW, List.lookup_cons, List.lookup_nil, Option.isNone, dk, putSub, gSub2, gIn2, keyD, fExt, Option.map_some, Option.map_none, Int.reduceBEq, Int.reduceBNe, and_self, decide_false, List.take_succ_cons, List.take_zero, List.drop_succ_cons, List.drop_zero, Int.natAbs_one, ↓bind_bd, bd_ok, bd_cond, fSortSet2, pkW, seqOf, Option.bind_some, e, h1]
theorem ascT_ev (ns : List Int) (S : Sto) (h : ns.length < 64) : d_ascending [.d (.tuple (ns.map PyData.int))] S = .ok (.d (.tuple ((sortU ns).map PyData.int))) S := by
  have e := intsOf_map ns
  have h1 : decide (ns.length < 64) = true := decide_eq_true h
  unfold d_ascending
  simp only [fDef, fRet, fRetN, fSeq, fIfS, fTru, fBoo, fAndT, fOrT, fNotT, fAndV, fOrV, fNotV, fIf, fVar, fC, fCall, fCons, fNil, fBin, fUn, on2, on1, pk, pkW, toD, toW, wD, wsD, gate_true, noX_ok, viewsOf, onA, fCB, startG, finD, fIsi, noX_cond, fNext, fDrop, fSet, fSetM, fTup, fLst, fAsgT, bTup, bAll, bName, List.getElem?_cons_zero, List.getElem?_cons_succ, List.map_cons, List.map_nil, List.length_cons, List.length_nil, List.replicate, Nat.reduceAdd, Nat.reduceSub, Nat.zero_add, Nat.sub_self, List.append_nil, List.cons_append, List.nil_append, List.take_length, decide_true, gate_dec, okD, truD, List.set_cons_zero, List.set_cons_succ, cond_true, cond_false, gLen, gAdd, Dl.gSub, gNeg, gEq_int, gNe_int, gLt, gGt, gLe, gGe, cond_and_d, cond_and_d', cond_or_d, cond_or_t, cond_and_t, cond_id, isInt, isBool, isTup, isStr, isLst, gIx, fNoP, fPart, fChain, gList, gTuple, fSeqI, take_app, fComp, fYes, wipeG, atI_0, atI_1, atI_2, atI_3, Bool.and_true, Bool.true_and, Bool.and_false, Bool.false_and, Bool.or_true, Bool.true_or, Bool.or_false, Bool.false_or, Bool.not_true, Bool.not_false, lim, Nat.reduceLeDiff, Nat.reduceLT, cast_beq, Option.map_some, shaped_int, fSetSub, ixN_40, ixN_41, ixN_42, ixN_43, fUpd, uAppend, get_last, set_last, if_true, if_false, not_lt_self, cutL_toI, cutL_fromI, Bool.true_xor, Bool.false_xor, gAll_map, rngOk_lit, smallI_lit, divOk_lit, Int.cast_ofNat_Int, Int.natCast_zero, Int.natCast_one, Int.reduceToNat, Int.reduceNeg, Int.reduceLE, Int.reduceLT, Int.reduceAdd, Int.reduceSub, Int.reduceMul, Int.reducePow, Nat.reduceMul, Nat.reducePow, Nat.reduceBEq, cast_beqL, cast_bneL, Nat.reduceBeqDiff, Nat.reduceBneDiff, eqv_str, eqv_int, ofString_beq, ofString_bne, String.reduceBEq, String.reduceBNe, shaped_strS, List.any_cons, List.any_nil, flatD, List.all_cons, List.all_nil, fFld, fMeth, fMake, fInit, endI, fSetFld, toWM, wR, fLook, putFW, List.lookup_cons, List.lookup_nil, Option.isNone, dk, putSub, gSub2, gIn2, keyD, fExt, Option.map_some, Option.map_none, Int.reduceBEq, Int.reduceBNe, and_self, decide_false, List.take_succ_cons, List.take_zero, List.drop_succ_cons, List.drop_zero, Int.natAbs_one, ↓bind_bd, bd_ok, bd_cond, fSortSet2, pkW, seqOf, Option.bind_some, e, h1]
theorem yes_len (ls : List Lit) : (yesL ls).length ≤ ls.length := by simp only [yesL, List.length_map]; exact List.length_filter_le _ _
theorem no_len (ls : List Lit) : (noL ls).length ≤ ls.length := by simp only [noL, List.length_map]; exact List.length_filter_le _ _
theorem clause_of_ev (ls : List Lit) (S : Sto) (h : ls.length < 64) : d_clause_of [.d (.list (ls.map litD))] S = .ok (.d (clsD ls)) S := by
  have a1 := yes_len ls
  have a2 := no_len ls
  have q1 := fun u1 => yes_ev (u0 := some (.d (.list (ls.map litD)))) (u1 := u1) S ls
  have q2 := fun u1 => no_ev (u0 := some (.d (.list (ls.map litD)))) (u1 := u1) S ls
  have e1 := ascL_ev (yesL ls) S (by omega)
  have e2 := ascL_ev (noL ls) S (by omega)
  have l0 : ls.length ≤ 1000000 := by omega
  unfold d_clause_of
  simp only [fDef, fRet, fRetN, fSeq, fIfS, fTru, fBoo, fAndT, fOrT, fNotT, fAndV, fOrV, fNotV, fIf, fVar, fC, fCall, fCons, fNil, fBin, fUn, on2, on1, pk, pkW, toD, toW, wD, wsD, gate_true, noX_ok, viewsOf, onA, fCB, startG, finD, fIsi, noX_cond, fNext, fDrop, fSet, fSetM, fTup, fLst, fAsgT, bTup, bAll, bName, List.getElem?_cons_zero, List.getElem?_cons_succ, List.map_cons, List.map_nil, List.length_cons, List.length_nil, List.replicate, Nat.reduceAdd, Nat.reduceSub, Nat.zero_add, Nat.sub_self, List.append_nil, List.cons_append, List.nil_append, List.take_length, decide_true, gate_dec, okD, truD, List.set_cons_zero, List.set_cons_succ, cond_true, cond_false, gLen, gAdd, Dl.gSub, gNeg, gEq_int, gNe_int, gLt, gGt, gLe, gGe, cond_and_d, cond_and_d', cond_or_d, cond_or_t, cond_and_t, cond_id, isInt, isBool, isTup, isStr, isLst, gIx, fNoP, fPart, fChain, gList, gTuple, fSeqI, take_app, fComp, fYes, wipeG, atI_0, atI_1, atI_2, atI_3, Bool.and_true, Bool.true_and, Bool.and_false, Bool.false_and, Bool.or_true, Bool.true_or, Bool.or_false, Bool.false_or, Bool.not_true, Bool.not_false, lim, Nat.reduceLeDiff, Nat.reduceLT, cast_beq, Option.map_some, shaped_int, fSetSub, ixN_40, ixN_41, ixN_42, ixN_43, fUpd, uAppend, get_last, set_last, if_true, if_false, not_lt_self, cutL_toI, cutL_fromI, Bool.true_xor, Bool.false_xor, gAll_map, rngOk_lit, smallI_lit, divOk_lit, Int.cast_ofNat_Int, Int.natCast_zero, Int.natCast_one, Int.reduceToNat, Int.reduceNeg, Int.reduceLE, Int.reduceLT, Int.reduceAdd, Int.reduceSub, Int.reduceMul, Int.reducePow, Nat.reduceMul, Nat.reducePow, Nat.reduceBEq, cast_beqL, cast_bneL, Nat.reduceBeqDiff, Nat.reduceBneDiff, eqv_str, eqv_int, ofString_beq, ofString_bne, String.reduceBEq, String.reduceBNe, shaped_strS, List.any_cons, List.any_nil, flatD, List.all_cons, List.all_nil, fFld, fMeth, fMake, fInit, endI, fSetFld, toWM, wR, fLook, putFW, List.lookup_cons, List.lookup_nil, Option.isNone, dk, putSub, gSub2, gIn2, keyD, fExt, Option.map_some, Option.map_none, Int.reduceBEq, Int.reduceBNe, and_self, decide_false, List.take_succ_cons, List.take_zero, List.drop_succ_cons, List.drop_zero, Int.natAbs_one, ↓bind_bd, bd_ok, bd_cond, q1, q2, e1, e2, l0, List.length_map, clsD]
theorem law_clause_ev (ls : List Lit) (S : Sto) (h : ls.length < 64) : d__law_clause [.d (.list (ls.map litD))] S = .ok (.d (clsD ls)) S := by
  have a1 := yes_len ls
  have a2 := no_len ls
  have q1 := fun u1 => yes_ev (u0 := some (.d (.list (ls.map litD)))) (u1 := u1) S ls
  have q2 := fun u1 => no_ev (u0 := some (.d (.list (ls.map litD)))) (u1 := u1) S ls
  have i1 := intsOf_map (yesL ls)
  have i2 := intsOf_map (noL ls)
  have l0 : ls.length ≤ 1000000 := by omega
  have l1 : decide ((yesL ls).length < 64) = true := decide_eq_true (by omega)
  have l2 : decide ((noL ls).length < 64) = true := decide_eq_true (by omega)
  unfold d__law_clause
  simp only [fDef, fRet, fRetN, fSeq, fIfS, fTru, fBoo, fAndT, fOrT, fNotT, fAndV, fOrV, fNotV, fIf, fVar, fC, fCall, fCons, fNil, fBin, fUn, on2, on1, pk, pkW, toD, toW, wD, wsD, gate_true, noX_ok, viewsOf, onA, fCB, startG, finD, fIsi, noX_cond, fNext, fDrop, fSet, fSetM, fTup, fLst, fAsgT, bTup, bAll, bName, List.getElem?_cons_zero, List.getElem?_cons_succ, List.map_cons, List.map_nil, List.length_cons, List.length_nil, List.replicate, Nat.reduceAdd, Nat.reduceSub, Nat.zero_add, Nat.sub_self, List.append_nil, List.cons_append, List.nil_append, List.take_length, decide_true, gate_dec, okD, truD, List.set_cons_zero, List.set_cons_succ, cond_true, cond_false, gLen, gAdd, Dl.gSub, gNeg, gEq_int, gNe_int, gLt, gGt, gLe, gGe, cond_and_d, cond_and_d', cond_or_d, cond_or_t, cond_and_t, cond_id, isInt, isBool, isTup, isStr, isLst, gIx, fNoP, fPart, fChain, gList, gTuple, fSeqI, take_app, fComp, fYes, wipeG, atI_0, atI_1, atI_2, atI_3, Bool.and_true, Bool.true_and, Bool.and_false, Bool.false_and, Bool.or_true, Bool.true_or, Bool.or_false, Bool.false_or, Bool.not_true, Bool.not_false, lim, Nat.reduceLeDiff, Nat.reduceLT, cast_beq, Option.map_some, shaped_int, fSetSub, ixN_40, ixN_41, ixN_42, ixN_43, fUpd, uAppend, get_last, set_last, if_true, if_false, not_lt_self, cutL_toI, cutL_fromI, Bool.true_xor, Bool.false_xor, gAll_map, rngOk_lit, smallI_lit, divOk_lit, Int.cast_ofNat_Int, Int.natCast_zero, Int.natCast_one, Int.reduceToNat, Int.reduceNeg, Int.reduceLE, Int.reduceLT, Int.reduceAdd, Int.reduceSub, Int.reduceMul, Int.reducePow, Nat.reduceMul, Nat.reducePow, Nat.reduceBEq, cast_beqL, cast_bneL, Nat.reduceBeqDiff, Nat.reduceBneDiff, eqv_str, eqv_int, ofString_beq, ofString_bne, String.reduceBEq, String.reduceBNe, shaped_strS, List.any_cons, List.any_nil, flatD, List.all_cons, List.all_nil, fFld, fMeth, fMake, fInit, endI, fSetFld, toWM, wR, fLook, putFW, List.lookup_cons, List.lookup_nil, Option.isNone, dk, putSub, gSub2, gIn2, keyD, fExt, Option.map_some, Option.map_none, Int.reduceBEq, Int.reduceBNe, and_self, decide_false, List.take_succ_cons, List.take_zero, List.drop_succ_cons, List.drop_zero, Int.natAbs_one, ↓bind_bd, bd_ok, bd_cond, q1, q2, fSortSet2, pkW, seqOf, Option.bind_some, i1, i2, l1, l2, l0, List.length_map, clsD]
end K25
set_option maxHeartbeats 1000000
namespace K25
open PySem L2 Dl
abbrev Row3 := Int × Int × Int
def rows8 : List Row3 := [(0, 0, 0), (1, 0, 0), (0, 1, 0), (1, 1, 0), (0, 0, 1), (1, 0, 1), (0, 1, 1), (1, 1, 1)]
def row3D (r : Row3) : D := .tuple [.int r.1, .int r.2.1, .int r.2.2]
def kd (k : Bool) : Str := cond k "full" "borrow"
def tb (k : Bool) (r : Row3) : Int × Int := cond k ((r.1 + r.2.1 + r.2.2) % 2, (r.1 + r.2.1 + r.2.2) / 2) ((r.1 - r.2.1 - r.2.2) % 2, (((r.1 - r.2.1 - r.2.2) / 2).natAbs : Int))
theorem rows_ev (x y : Cell) : d_rows_of [.d (.int 3)] [x, y] = .ok (.new (rows8.map row3D)) [x, y] := by kernel_rfl
theorem take_fix {o : Out R} {S : Sto} {r : R} (h : o = .ok r (S.take S.length)) : o = .ok r S := by rw [h, List.take_length]
theorem table_ev (k : Bool) (S : Sto) : ∀ r ∈ rows8, d_table_of [.d (.str (kd k)), .d (row3D r)] S = .ok (.d (.tuple [.int (tb k r).1, .int (tb k r).2])) S := by
  intro r hr
  refine take_fix ?_
  simp only [rows8, List.mem_cons, List.not_mem_nil, or_false] at hr
  cases k <;> rcases hr with rfl | rfl | rfl | rfl | rfl | rfl | rfl | rfl <;> kernel_rfl
theorem law_table_ev (k : Bool) (S : Sto) : ∀ r ∈ rows8, d__law_table [.d (.str (kd k)), .d (.list [.int r.1, .int r.2.1, .int r.2.2])] S = .ok (.d (.tuple [.int (tb k r).1, .int (tb k r).2])) S := by
  intro r hr
  refine take_fix ?_
  simp only [rows8, List.mem_cons, List.not_mem_nil, or_false] at hr
  cases k <;> rcases hr with rfl | rfl | rfl | rfl | rfl | rfl | rfl | rfl <;> kernel_rfl
/-- the two clauses of a row -/
def cls2 (a b c d e : Int) (k : Bool) (r : Row3) : List (List Lit) :=
  [[(a, r.1 == 0), (b, r.2.1 == 0), (c, r.2.2 == 0), (d, (tb k r).1 == 1)], [(a, r.1 == 0), (b, r.2.1 == 0), (c, r.2.2 == 0), (e, (tb k r).2 == 1)]]
def cellD (a b c d e : Int) (k : Bool) : D := .tuple [.str (kd k), .tuple [.int a, .int b, .int c], .tuple [.int d, .int e]]
theorem clause4 (a b c d : Int) (p q r t : Bool) (S : Sto) : d_clause_of [.d (.list [.tuple [.int a, .bool p], .tuple [.int b, .bool q], .tuple [.int c, .bool r], .tuple [.int d, .bool t]])] S = .ok (.d (clsD [(a, p), (b, q), (c, r), (d, t)])) S :=
  clause_of_ev [(a, p), (b, q), (c, r), (d, t)] S (by simp)
theorem law_clause4 (a b c d : Int) (p q r t : Bool) (S : Sto) : d__law_clause [.d (.list [.tuple [.int a, .bool p], .tuple [.int b, .bool q], .tuple [.int c, .bool r], .tuple [.int d, .bool t]])] S = .ok (.d (clsD [(a, p), (b, q), (c, r), (d, t)])) S :=
  law_clause_ev [(a, p), (b, q), (c, r), (d, t)] S (by simp)
def wantsB : FS := (fSeq (fSet 6 (fDictZip (fCons (fVar 2) (fCons (fVar 5) (fNil))))) (fIfS (fAndT (fBoo (fBin kEq (fComp [8] (fSeqI (fVar 2)) (bName 8) (fYes) (yIx (fVar 6) (fVar 8))) (fCB gList (fCons (fVar 5) (fNil))))) (fBoo (fBin kEq (fGet2 (fVar 6) (fC (.int 0)) (fC (.int 1))) (fC (.int 1))))) (fSeq (fSet 7 (fLockE 6 (fComp [8, 9] (fItems (fVar 6)) (bTup [8, 9]) (fBoo (fBin kNe (fVar 8) (fC (.int 0)))) (fTup (fCons (fVar 8) (fCons (fBin kEq (fVar 9) (fC (.int 0))) (fNil))))))) (fFor (fZip (fCons (fVar 3) (fCons (fCall 2 d_table_of (fCons (fVar 1) (fCons (fVar 5) (fNil)))) (fNil)))) (bTup [8, 9]) (fUpd uAppend (fVar 4) (fCons (fCall 1 d_clause_of (fCons (xAdd (fVar 7) (fLst (fCons (fTup (fCons (fVar 8) (fCons (fBin kEq (fVar 9) (fC (.int 1))) (fNil)))) (fNil)))) (fNil))) fNil)))) (fNext)))
theorem gEq3 (S : Sto) (p q r : Int) : gEq S (.list [.int p, .int q, .int r]) (.list [.int p, .int q, .int r]) = .ok (.d (.bool true)) S := by
  have h : SeqAt.shaped (.list [.int p, .int q, .int r]) = true := by kernel_rfl
  simp only [gEq, h, PyData.eqv, PyData.eqvAll, beq_self_eq_true, Bool.and_true]
  rfl
def kv3 (a b c p q s : Int) : List (Key × D) := [(.inl a, .int p), (.inl b, .int q), (.inl c, .int s)]
theorem merge3 {a b c p q s : Int} (n1 : a ≠ b) (n2 : a ≠ c) (n3 : b ≠ c) : mergeD [] [(.inl a, .int p), (.inl b, .int q), (.inl c, .int s)] = kv3 a b c p q s := by
  simp [mergeD, dPut, kv3, n1, n2, n3]
theorem get3a {a b c p q s : Int} : dGet (kv3 a b c p q s) (.inl a) = some (.int p) := by simp [dGet, kv3]
theorem get3b {a b c p q s : Int} (n1 : a ≠ b) : dGet (kv3 a b c p q s) (.inl b) = some (.int q) := by simp [dGet, kv3, n1]
theorem get3c {a b c p q s : Int} (n2 : a ≠ c) (n3 : b ≠ c) : dGet (kv3 a b c p q s) (.inl c) = some (.int s) := by simp [dGet, kv3, n2, n3]
theorem get3z {a b c p q s : Int} (z1 : a ≠ 0) (z2 : b ≠ 0) (z3 : c ≠ 0) : dGet (kv3 a b c p q s) (.inl 0) = none := by simp [dGet, kv3, z1, z2, z3]
theorem items3 {a b c p q s : Int} : itemsD (kv3 a b c p q s) = [.tuple [.int a, .int p], .tuple [.int b, .int q], .tuple [.int c, .int s]] := rfl
theorem body_ev {a b c d e : Int} {k : Bool} {r : Row3} (hr : r ∈ rows8) (n1 : a ≠ b) (n2 : a ≠ c) (n3 : b ≠ c) (z1 : a ≠ 0) (z2 : b ≠ 0) (z3 : c ≠ 0) {acc : List D} (ha : acc.length < 1000) {st : Cell} {T : Sto} {u0 u6 u7 u8 u9 : Option Wv} :
    W (wantsB [u0, some (.d (.str (kd k))), some (.d (.tuple [.int a, .int b, .int c])), some (.d (.tuple [.int d, .int e])), some (.ref 1), some (.d (row3D r)), u6, u7, u8, u9] (st :: .lst acc :: T))
      (fun fl S' => ∃ v6 v7 v8 v9 T', fl = .nx [u0, some (.d (.str (kd k))), some (.d (.tuple [.int a, .int b, .int c])), some (.d (.tuple [.int d, .int e])), some (.ref 1), some (.d (row3D r)), v6, v7, v8, v9] ∧ S' = st :: .lst (acc ++ (cls2 a b c d e k r).map clsD) :: T') := by
  have tE := table_ev k
  have h1 : acc.length < 1000000 := by omega
  have h2 : acc.length + 1 < 1000000 := by omega
  have h3 : ∀ x y, uAppend (acc ++ [x]) [y] = some (acc ++ [x] ++ [y]) := fun x y => uAppend_ok (by simp; omega)
  obtain ⟨p, q, s⟩ := r
  have t := fun S => tE S _ hr
  unfold row3D at t
  unfold wantsB row3D
  have y1 : (a != 0) = true := by simpa using z1
  have y2 : (b != 0) = true := by simpa using z2
  have y3 : (c != 0) = true := by simpa using z3
  have y4 : ¬ b = a := fun e => n1 e.symm
  simp (disch := omega) only [fDef, fRet, fRetN, fSeq, fIfS, fTru, fBoo, fAndT, fOrT, fNotT, fAndV, fOrV, fNotV, fIf, fVar, fC, fCall, fCons, fNil, fBin, fUn, on2, on1, pk, pkW, toD, toW, wD, wsD, gate_true, noX_ok, viewsOf, onA, fCB, startG, finD, fIsi, noX_cond, fNext, fDrop, fSet, fSetM, fTup, fLst, fAsgT, bTup, bAll, bName, List.getElem?_cons_zero, List.getElem?_cons_succ, List.map_cons, List.map_nil, List.length_cons, List.length_nil, List.replicate, Nat.reduceAdd, Nat.reduceSub, Nat.zero_add, Nat.sub_self, List.append_nil, List.cons_append, List.nil_append, List.take_length, decide_true, gate_dec, okD, truD, List.set_cons_zero, List.set_cons_succ, cond_true, cond_false, gLen, gAdd, Dl.gSub, gNeg, gEq_int, gNe_int, gLt, gGt, gLe, gGe, cond_and_d, cond_and_d', cond_or_d, cond_or_t, cond_and_t, cond_id, isInt, isBool, isTup, isStr, isLst, gIx, fNoP, fPart, gList, gTuple, fSeqI, take_app, fComp, fYes, wipeG, atI_0, atI_1, atI_2, atI_3, Bool.and_true, Bool.true_and, Bool.and_false, Bool.false_and, Bool.or_true, Bool.true_or, Bool.or_false, Bool.false_or, Bool.not_true, Bool.not_false, lim, Nat.reduceLeDiff, Nat.reduceLT, cast_beq, Option.map_some, shaped_int, fSetSub, ixN_40, ixN_41, ixN_42, ixN_43, fUpd, get_last, set_last, if_true, if_false, not_lt_self, cutL_toI, cutL_fromI, Bool.true_xor, Bool.false_xor, gAll_map, rngOk_lit, smallI_lit, divOk_lit, Int.cast_ofNat_Int, Int.natCast_zero, Int.natCast_one, Int.reduceToNat, Int.reduceNeg, Int.reduceLE, Int.reduceLT, Int.reduceAdd, Int.reduceSub, Int.reduceMul, Int.reducePow, Nat.reduceMul, Nat.reducePow, Nat.reduceBEq, cast_beqL, cast_bneL, Nat.reduceBeqDiff, Nat.reduceBneDiff, eqv_str, eqv_int, ofString_beq, ofString_bne, String.reduceBEq, String.reduceBNe, shaped_strS, List.any_cons, List.any_nil, flatD, List.all_cons, List.all_nil, fFld, fMeth, fMake, fInit, endI, fSetFld, toWM, wR, fLook, putFW, List.lookup_cons, List.lookup_nil, Option.isNone, dk, putSub, gSub2, gIn2, keyD, fExt, Option.map_some, Option.map_none, Int.reduceBEq, Int.reduceBNe, and_self, decide_false, List.take_succ_cons, List.take_zero, List.drop_succ_cons, List.drop_zero, Int.natAbs_one, gate_and, fChainE, boolR_b, uAppend_ok, uInsert_ok, rangeD_len, ↓bind_bd, bd_ok, W_bd, W_ok, W_noX, drawE, fFor, fRange1, fRange2, fSl, gSl, List.length_append, List.length_map, List.length_reverse, List.length_take, List.length_drop, fDictZip, keysOf, keyD, merge3 n1 n2 n3, compL, get3a, get3b n1, get3c n2 n3, get3z z1 z2 z3, get_last, gEq3, fGet2, Option.getD_none, fLockE, fItems, lckOf, items3, dropR, dropO, y1, y2, y3, fZip, zipD, t, forL, clause4, h3]
  refine ⟨_, _, _, _, T ++ [.dct (kv3 a b c p q s)], rfl, ?_⟩
  simp [cls2]
theorem cls2_len (a b c d e : Int) (k : Bool) (r : Row3) : ((cls2 a b c d e k r).map clsD).length = 2 := rfl
theorem loop_ev {a b c d e : Int} {k : Bool} (n1 : a ≠ b) (n2 : a ≠ c) (n3 : b ≠ c) (z1 : a ≠ 0) (z2 : b ≠ 0) (z3 : c ≠ 0) {st : Cell} {u0 : Option Wv} : ∀ (rs : List Row3) (acc : List D) (T : Sto) (u5 u6 u7 u8 u9 : Option Wv), (∀ r ∈ rs, r ∈ rows8) → acc.length + 2 * rs.length < 1000 →
    W (forL (bName 5) wantsB (rs.map row3D) [u0, some (.d (.str (kd k))), some (.d (.tuple [.int a, .int b, .int c])), some (.d (.tuple [.int d, .int e])), some (.ref 1), u5, u6, u7, u8, u9] (st :: .lst acc :: T))
      (fun fl S' => ∃ v5 v6 v7 v8 v9 T', fl = .nx [u0, some (.d (.str (kd k))), some (.d (.tuple [.int a, .int b, .int c])), some (.d (.tuple [.int d, .int e])), some (.ref 1), v5, v6, v7, v8, v9] ∧ S' = st :: .lst (acc ++ (rs.flatMap (cls2 a b c d e k)).map clsD) :: T')
  | [], acc, T, u5, u6, u7, u8, u9, _, _ => ⟨_, _, _, _, _, T, rfl, by simp⟩
  | r :: rs, acc, T, u5, u6, u7, u8, u9, hr, hl => by
    simp only [List.length_cons] at hl
    simp only [List.map_cons, forL, bName]
    refine W.bind ((body_ev (d := d) (e := e) (k := k) (hr r (by simp)) n1 n2 n3 z1 z2 z3 (acc := acc) (by omega)).mono ?_)
    rintro _ _ ⟨v6, v7, v8, v9, T', rfl, rfl⟩
    refine (loop_ev n1 n2 n3 z1 z2 z3 rs _ T' _ v6 v7 v8 v9 (fun x hx => hr x (by simp [hx])) (by rw [List.length_append, cls2_len]; omega)).mono ?_
    rintro _ _ ⟨w5, w6, w7, w8, w9, T2, rfl, rfl⟩
    exact ⟨w5, w6, w7, w8, w9, T2, rfl, by simp⟩
def wantsL (a b c d e : Int) (k : Bool) : List (List Lit) := rows8.flatMap (cls2 a b c d e k)
theorem wants_W {a b c d e : Int} {k : Bool} (n1 : a ≠ b) (n2 : a ≠ c) (n3 : b ≠ c) (z1 : a ≠ 0) (z2 : b ≠ 0) (z3 : c ≠ 0) (st : Cell) :
    W (d_cell_wants [.d (cellD a b c d e k)] [st]) (fun r S => r = .new ((wantsL a b c d e k).map clsD) ∧ S = [st]) := by
  unfold d_cell_wants cellD
  simp (disch := omega) only [fDef, fRet, fRetN, fSeq, fIfS, fTru, fBoo, fAndT, fOrT, fNotT, fAndV, fOrV, fNotV, fIf, fVar, fC, fCall, fCons, fNil, fBin, fUn, on2, on1, pk, pkW, toD, toW, wD, wsD, gate_true, noX_ok, viewsOf, onA, fCB, startG, finD, fIsi, noX_cond, fNext, fDrop, fSet, fSetM, fTup, fLst, fAsgT, bTup, bAll, bName, List.getElem?_cons_zero, List.getElem?_cons_succ, List.map_cons, List.map_nil, List.length_cons, List.length_nil, List.replicate, Nat.reduceAdd, Nat.reduceSub, Nat.zero_add, Nat.sub_self, List.append_nil, List.cons_append, List.nil_append, List.take_length, decide_true, gate_dec, okD, truD, List.set_cons_zero, List.set_cons_succ, cond_true, cond_false, gLen, gAdd, Dl.gSub, gNeg, gEq_int, gNe_int, gLt, gGt, gLe, gGe, cond_and_d, cond_and_d', cond_or_d, cond_or_t, cond_and_t, cond_id, isInt, isBool, isTup, isStr, isLst, gIx, fNoP, fPart, gList, gTuple, fSeqI, take_app, fComp, fYes, wipeG, atI_0, atI_1, atI_2, atI_3, Bool.and_true, Bool.true_and, Bool.and_false, Bool.false_and, Bool.or_true, Bool.true_or, Bool.or_false, Bool.false_or, Bool.not_true, Bool.not_false, lim, Nat.reduceLeDiff, Nat.reduceLT, cast_beq, Option.map_some, shaped_int, fSetSub, ixN_40, ixN_41, ixN_42, ixN_43, fUpd, get_last, set_last, if_true, if_false, not_lt_self, cutL_toI, cutL_fromI, Bool.true_xor, Bool.false_xor, gAll_map, rngOk_lit, smallI_lit, divOk_lit, Int.cast_ofNat_Int, Int.natCast_zero, Int.natCast_one, Int.reduceToNat, Int.reduceNeg, Int.reduceLE, Int.reduceLT, Int.reduceAdd, Int.reduceSub, Int.reduceMul, Int.reducePow, Nat.reduceMul, Nat.reducePow, Nat.reduceBEq, cast_beqL, cast_bneL, Nat.reduceBeqDiff, Nat.reduceBneDiff, eqv_str, eqv_int, ofString_beq, ofString_bne, String.reduceBEq, String.reduceBNe, shaped_strS, List.any_cons, List.any_nil, flatD, List.all_cons, List.all_nil, fFld, fMeth, fMake, fInit, endI, fSetFld, toWM, wR, fLook, putFW, List.lookup_cons, List.lookup_nil, Option.isNone, dk, putSub, gSub2, gIn2, keyD, fExt, Option.map_some, Option.map_none, Int.reduceBEq, Int.reduceBNe, and_self, decide_false, List.take_succ_cons, List.take_zero, List.drop_succ_cons, List.drop_zero, Int.natAbs_one, gate_and, fChainE, boolR_b, uAppend_ok, uInsert_ok, rangeD_len, ↓bind_bd, bd_ok, W_bd, W_ok, W_noX, drawE, fFor, fRange1, fRange2, fSl, gSl, List.length_append, List.length_map, List.length_reverse, List.length_take, List.length_drop, rows_ev]
  refine (loop_ev (k := k) n1 n2 n3 z1 z2 z3 (d := d) (e := e) rows8 [] [] _ _ _ _ _ (fun r h => h) (by simp [rows8])).mono ?_
  rintro _ _ ⟨v5, v6, v7, v8, v9, T', rfl, rfl⟩
  simp (disch := omega) only [fDef, fRet, fRetN, fSeq, fIfS, fTru, fBoo, fAndT, fOrT, fNotT, fAndV, fOrV, fNotV, fIf, fVar, fC, fCall, fCons, fNil, fBin, fUn, on2, on1, pk, pkW, toD, toW, wD, wsD, gate_true, noX_ok, viewsOf, onA, fCB, startG, finD, fIsi, noX_cond, fNext, fDrop, fSet, fSetM, fTup, fLst, fAsgT, bTup, bAll, bName, List.getElem?_cons_zero, List.getElem?_cons_succ, List.map_cons, List.map_nil, List.length_cons, List.length_nil, List.replicate, Nat.reduceAdd, Nat.reduceSub, Nat.zero_add, Nat.sub_self, List.append_nil, List.cons_append, List.nil_append, List.take_length, decide_true, gate_dec, okD, truD, List.set_cons_zero, List.set_cons_succ, cond_true, cond_false, gLen, gAdd, Dl.gSub, gNeg, gEq_int, gNe_int, gLt, gGt, gLe, gGe, cond_and_d, cond_and_d', cond_or_d, cond_or_t, cond_and_t, cond_id, isInt, isBool, isTup, isStr, isLst, gIx, fNoP, fPart, gList, gTuple, fSeqI, take_app, fComp, fYes, wipeG, atI_0, atI_1, atI_2, atI_3, Bool.and_true, Bool.true_and, Bool.and_false, Bool.false_and, Bool.or_true, Bool.true_or, Bool.or_false, Bool.false_or, Bool.not_true, Bool.not_false, lim, Nat.reduceLeDiff, Nat.reduceLT, cast_beq, Option.map_some, shaped_int, fSetSub, ixN_40, ixN_41, ixN_42, ixN_43, fUpd, get_last, set_last, if_true, if_false, not_lt_self, cutL_toI, cutL_fromI, Bool.true_xor, Bool.false_xor, gAll_map, rngOk_lit, smallI_lit, divOk_lit, Int.cast_ofNat_Int, Int.natCast_zero, Int.natCast_one, Int.reduceToNat, Int.reduceNeg, Int.reduceLE, Int.reduceLT, Int.reduceAdd, Int.reduceSub, Int.reduceMul, Int.reducePow, Nat.reduceMul, Nat.reducePow, Nat.reduceBEq, cast_beqL, cast_bneL, Nat.reduceBeqDiff, Nat.reduceBneDiff, eqv_str, eqv_int, ofString_beq, ofString_bne, String.reduceBEq, String.reduceBNe, shaped_strS, List.any_cons, List.any_nil, flatD, List.all_cons, List.all_nil, fFld, fMeth, fMake, fInit, endI, fSetFld, toWM, wR, fLook, putFW, List.lookup_cons, List.lookup_nil, Option.isNone, dk, putSub, gSub2, gIn2, keyD, fExt, Option.map_some, Option.map_none, Int.reduceBEq, Int.reduceBNe, and_self, decide_false, List.take_succ_cons, List.take_zero, List.drop_succ_cons, List.drop_zero, Int.natAbs_one, gate_and, fChainE, boolR_b, uAppend_ok, uInsert_ok, rangeD_len, ↓bind_bd, bd_ok, W_bd, W_ok, W_noX, drawE, fFor, fRange1, fRange2, fSl, gSl, List.length_append, List.length_map, List.length_reverse, List.length_take, List.length_drop]
  exact ⟨rfl, trivial⟩
end K25
set_option maxHeartbeats 1000000
namespace K25
open PySem L2 Dl
def lwantsB : FS := (fSeq (fSet 6 (fComp [9] (fRange1 (fCons (fCB gLen (fCons (fVar 2) (fNil))) (fNil))) (bName 9) (fYes) (xAnd (xShr (fVar 5) (fVar 9)) (fC (.int 1))))) (fSeq (fSetM 7 (fDisp ((fC (.int 0), fC (.int 1)) :: []))) (fSeq (fSet 8 (fC (.bool true))) (fSeq (fFor (fRange1 (fCons (fCB gLen (fCons (fVar 2) (fNil))) (fNil))) (bName 9) (fSeq (fIfS (fBoo (fBin kNe (fGet2 (fVar 7) (yIx (fVar 2) (fVar 9)) (yIx (fVar 6) (fVar 9))) (yIx (fVar 6) (fVar 9)))) (fSet 8 (fC (.bool false))) (fNext)) (fSetSub (fVar 7) (yIx (fVar 2) (fVar 9)) (yIx (fVar 6) (fVar 9))))) (fSeq (fSet 10 (fLockE 7 (fComp [12] (fKeys (fVar 7)) (bName 12) (fBoo (fBin kNe (fVar 12) (fC (.int 0)))) (fTup (fCons (fVar 12) (fCons (fBin kEq (yIx (fVar 7) (fVar 12)) (fC (.int 0))) (fNil))))))) (fIfS (fTru (fVar 8)) (fSeq (fSet 11 (fCall 2 d__law_table (fCons (fVar 1) (fCons (fVar 6) (fNil))))) (fFor (fRange1 (fCons (fCB gLen (fCons (fVar 3) (fNil))) (fNil))) (bName 9) (fUpd uAppend (fVar 4) (fCons (fCall 1 d__law_clause (fCons (xAdd (fVar 10) (fLst (fCons (fTup (fCons (yIx (fVar 3) (fVar 9)) (fCons (fBin kEq (yIx (fVar 11) (fVar 9)) (fC (.int 1))) (fNil)))) (fNil)))) (fNil))) fNil)))) (fNext)))))))
/-- the row's number -/
def rowOf (n : Nat) : Row3 := rows8.getD n (0, 0, 0)
theorem lrow_ev {u0 u1 u2 u3 u4 u6 u7 u8 u10 u11 u12 : Option Wv} (S : Sto) : ∀ n, n < 8 → compL [u0, u1, u2, u3, u4, some (.d (.int (0 + (n : Nat)))), u6, u7, u8, none, u10, u11, u12] (bName 9) fYes (xAnd (xShr (fVar 5) (fVar 9)) (fC (.int 1))) [.int 0, .int 1, .int 2] S = .ok [.int (rowOf n).1, .int (rowOf n).2.1, .int (rowOf n).2.2] S := by
  intro n hn
  have h : n = 0 ∨ n = 1 ∨ n = 2 ∨ n = 3 ∨ n = 4 ∨ n = 5 ∨ n = 6 ∨ n = 7 := by omega
  rcases h with rfl | rfl | rfl | rfl | rfl | rfl | rfl | rfl <;> kernel_rfl
theorem rowOf_mem {n : Nat} (h : n < 8) : rowOf n ∈ rows8 := by
  have h : n = 0 ∨ n = 1 ∨ n = 2 ∨ n = 3 ∨ n = 4 ∨ n = 5 ∨ n = 6 ∨ n = 7 := by omega
  rcases h with rfl | rfl | rfl | rfl | rfl | rfl | rfl | rfl <;> simp [rowOf, rows8]
def kvz (a b c p q s : Int) : List (Key × D) := [(.inl 0, .int 1), (.inl a, .int p), (.inl b, .int q), (.inl c, .int s)]
theorem getza {a b c p q s : Int} (z1 : a ≠ 0) : dGet (kvz a b c p q s) (.inl a) = some (.int p) := by simp [dGet, kvz, z1.symm]
theorem getzb {a b c p q s : Int} (z2 : b ≠ 0) (n1 : a ≠ b) : dGet (kvz a b c p q s) (.inl b) = some (.int q) := by simp [dGet, kvz, n1, z2.symm]
theorem getzc {a b c p q s : Int} (z3 : c ≠ 0) (n2 : a ≠ c) (n3 : b ≠ c) : dGet (kvz a b c p q s) (.inl c) = some (.int s) := by simp [dGet, kvz, n2, n3, z3.symm]
theorem g1 {a : Int} (z1 : a ≠ 0) : dGet ([(.inl 0, .int 1)] : List (Key × D)) (.inl a) = none := by simp [dGet, z1.symm]
theorem g2 {a b p : Int} (z2 : b ≠ 0) (n1 : a ≠ b) : dGet ([(.inl 0, .int 1), (.inl a, .int p)] : List (Key × D)) (.inl b) = none := by simp [dGet, z2.symm, n1]
theorem g3 {a b c p q : Int} (z3 : c ≠ 0) (n2 : a ≠ c) (n3 : b ≠ c) : dGet ([(.inl 0, .int 1), (.inl a, .int p), (.inl b, .int q)] : List (Key × D)) (.inl c) = none := by simp [dGet, z3.symm, n2, n3]
theorem p1 {a p : Int} (z1 : a ≠ 0) : dPut ([(.inl 0, .int 1)] : List (Key × D)) (.inl a) (.int p) = [(.inl 0, .int 1), (.inl a, .int p)] := by simp [dPut, z1.symm]
theorem p2 {a b p q : Int} (z2 : b ≠ 0) (n1 : a ≠ b) : dPut ([(.inl 0, .int 1), (.inl a, .int p)] : List (Key × D)) (.inl b) (.int q) = [(.inl 0, .int 1), (.inl a, .int p), (.inl b, .int q)] := by simp [dPut, z2.symm, n1]
theorem p3 {a b c p q s : Int} (z3 : c ≠ 0) (n2 : a ≠ c) (n3 : b ≠ c) : dPut ([(.inl 0, .int 1), (.inl a, .int p), (.inl b, .int q)] : List (Key × D)) (.inl c) (.int s) = kvz a b c p q s := by simp [dPut, z3.symm, n2, n3, kvz]
theorem rg3 : rangeD 0 3 = [.int 0, .int 1, .int 2] := rfl
theorem rg2 : rangeD 0 2 = [.int 0, .int 1] := rfl
theorem keysz {a b c p q s : Int} : (kvz a b c p q s).map (fun p => keyToD p.1) = [.int 0, .int a, .int b, .int c] := rfl
theorem lbody_ev {a b c d e : Int} {k : Bool} {n : Nat} (hn : n < 8) (n1 : a ≠ b) (n2 : a ≠ c) (n3 : b ≠ c) (z1 : a ≠ 0) (z2 : b ≠ 0) (z3 : c ≠ 0) {acc : List D} (ha : acc.length < 1000) {st : Cell} {T : Sto} {u0 u6 u7 u8 u9 u10 u11 u12 : Option Wv} :
    W (lwantsB [u0, some (.d (.str (kd k))), some (.d (.tuple [.int a, .int b, .int c])), some (.d (.tuple [.int d, .int e])), some (.ref 1), some (.d (.int (0 + (n : Nat)))), u6, u7, u8, u9, u10, u11, u12] (st :: .lst acc :: T))
      (fun fl S' => ∃ v5 v6 v7 v8 v9 v10 v11 v12 T', fl = .nx [u0, some (.d (.str (kd k))), some (.d (.tuple [.int a, .int b, .int c])), some (.d (.tuple [.int d, .int e])), some (.ref 1), v5, v6, v7, v8, v9, v10, v11, v12] ∧ S' = st :: .lst (acc ++ (cls2 a b c d e k (rowOf n)).map clsD) :: T') := by
  have h1 : acc.length < 1000000 := by omega
  have h3 : ∀ x y, uAppend (acc ++ [x]) [y] = some (acc ++ [x] ++ [y]) := fun x y => uAppend_ok (by simp; omega)
  have t := fun S => law_table_ev k S _ (rowOf_mem hn)
  have lr := fun {u0 u1 u2 u3 u4 u6 u7 u8 u10 u11 u12} S => lrow_ev (u0 := u0) (u1 := u1) (u2 := u2) (u3 := u3) (u4 := u4) (u6 := u6) (u7 := u7) (u8 := u8) (u10 := u10) (u11 := u11) (u12 := u12) S n hn
  unfold cls2
  generalize tb k (rowOf n) = tt at t
  obtain ⟨tt, tu⟩ := tt
  revert t lr
  generalize rowOf n = rr
  obtain ⟨p, q, s⟩ := rr
  intro lr t
  generalize (0 + (n : Int)) = nn at lr
  have y1 : (a != 0) = true := by simpa using z1
  have y2 : (b != 0) = true := by simpa using z2
  have y3 : (c != 0) = true := by simpa using z3
  unfold lwantsB
  simp (disch := omega) only [fDef, fRet, fRetN, fSeq, fIfS, fTru, fBoo, fAndT, fOrT, fNotT, fAndV, fOrV, fNotV, fIf, fVar, fC, fCall, fCons, fNil, fBin, fUn, on2, on1, pk, pkW, toD, toW, wD, wsD, gate_true, noX_ok, viewsOf, onA, fCB, startG, finD, fIsi, noX_cond, fNext, fDrop, fSet, fSetM, fTup, fLst, fAsgT, bTup, bAll, bName, List.getElem?_cons_zero, List.getElem?_cons_succ, List.map_cons, List.map_nil, List.length_cons, List.length_nil, List.replicate, Nat.reduceAdd, Nat.reduceSub, Nat.zero_add, Nat.sub_self, List.append_nil, List.cons_append, List.nil_append, List.take_length, decide_true, gate_dec, okD, truD, List.set_cons_zero, List.set_cons_succ, cond_true, cond_false, gLen, gAdd, Dl.gSub, gNeg, gEq_int, gNe_int, gLt, gGt, gLe, gGe, cond_and_d, cond_and_d', cond_or_d, cond_or_t, cond_and_t, cond_id, isInt, isBool, isTup, isStr, isLst, gIx, fNoP, fPart, gList, gTuple, fSeqI, take_app, fComp, fYes, wipeG, atI_0, atI_1, atI_2, atI_3, Bool.and_true, Bool.true_and, Bool.and_false, Bool.false_and, Bool.or_true, Bool.true_or, Bool.or_false, Bool.false_or, Bool.not_true, Bool.not_false, lim, Nat.reduceLeDiff, Nat.reduceLT, cast_beq, Option.map_some, shaped_int, fSetSub, ixN_40, ixN_41, ixN_42, ixN_43, fUpd, get_last, set_last, if_true, if_false, not_lt_self, cutL_toI, cutL_fromI, Bool.true_xor, Bool.false_xor, gAll_map, rngOk_lit, smallI_lit, divOk_lit, Int.cast_ofNat_Int, Int.natCast_zero, Int.natCast_one, Int.reduceToNat, Int.reduceNeg, Int.reduceLE, Int.reduceLT, Int.reduceAdd, Int.reduceSub, Int.reduceMul, Int.reducePow, Nat.reduceMul, Nat.reducePow, Nat.reduceBEq, cast_beqL, cast_bneL, Nat.reduceBeqDiff, Nat.reduceBneDiff, eqv_str, eqv_int, ofString_beq, ofString_bne, String.reduceBEq, String.reduceBNe, shaped_strS, List.any_cons, List.any_nil, flatD, List.all_cons, List.all_nil, fFld, fMeth, fMake, fInit, endI, fSetFld, toWM, wR, fLook, putFW, List.lookup_cons, List.lookup_nil, Option.isNone, dk, putSub, gSub2, gIn2, keyD, fExt, Option.map_some, Option.map_none, Int.reduceBEq, Int.reduceBNe, and_self, decide_false, List.take_succ_cons, List.take_zero, List.drop_succ_cons, List.drop_zero, Int.natAbs_one, gate_and, fChainE, boolR_b, uAppend_ok, uInsert_ok, rangeD_len, ↓bind_bd, bd_ok, W_bd, W_ok, W_noX, drawE, fFor, fRange1, fRange2, fSl, gSl, List.length_append, List.length_map, List.length_reverse, List.length_take, List.length_drop, rg3, rg2, lr, fDisp, fPairs, keyD, mergeD, List.foldl_cons, List.foldl_nil, show dPut ([] : List (Key × D)) (.inl 0) (.int 1) = [(.inl 0, .int 1)] from rfl, forL, fGet2, get_last, set_last, bne_self_eq_false, g1 z1, g2 z2 n1, g3 z3 n2 n3, p1 z1, p2 z2 n1, p3 z3 n2 n3, Option.getD_none, fLockE, fKeys, lckOf, keysz, dropR, dropO, y1, y2, y3, getza z1, getzb z2 n1, getzc z3 n2 n3, t, law_clause4, h3]
  simp (disch := omega) only [fDef, fRet, fRetN, fSeq, fIfS, fTru, fBoo, fAndT, fOrT, fNotT, fAndV, fOrV, fNotV, fIf, fVar, fC, fCall, fCons, fNil, fBin, fUn, on2, on1, pk, pkW, toD, toW, wD, wsD, gate_true, noX_ok, viewsOf, onA, fCB, startG, finD, fIsi, noX_cond, fNext, fDrop, fSet, fSetM, fTup, fLst, fAsgT, bTup, bAll, bName, List.getElem?_cons_zero, List.getElem?_cons_succ, List.map_cons, List.map_nil, List.length_cons, List.length_nil, List.replicate, Nat.reduceAdd, Nat.reduceSub, Nat.zero_add, Nat.sub_self, List.append_nil, List.cons_append, List.nil_append, List.take_length, decide_true, gate_dec, okD, truD, List.set_cons_zero, List.set_cons_succ, cond_true, cond_false, gLen, gAdd, Dl.gSub, gNeg, gEq_int, gNe_int, gLt, gGt, gLe, gGe, cond_and_d, cond_and_d', cond_or_d, cond_or_t, cond_and_t, cond_id, isInt, isBool, isTup, isStr, isLst, gIx, fNoP, fPart, gList, gTuple, fSeqI, take_app, fComp, fYes, wipeG, atI_0, atI_1, atI_2, atI_3, Bool.and_true, Bool.true_and, Bool.and_false, Bool.false_and, Bool.or_true, Bool.true_or, Bool.or_false, Bool.false_or, Bool.not_true, Bool.not_false, lim, Nat.reduceLeDiff, Nat.reduceLT, cast_beq, Option.map_some, shaped_int, fSetSub, ixN_40, ixN_41, ixN_42, ixN_43, fUpd, get_last, set_last, if_true, if_false, not_lt_self, cutL_toI, cutL_fromI, Bool.true_xor, Bool.false_xor, gAll_map, rngOk_lit, smallI_lit, divOk_lit, Int.cast_ofNat_Int, Int.natCast_zero, Int.natCast_one, Int.reduceToNat, Int.reduceNeg, Int.reduceLE, Int.reduceLT, Int.reduceAdd, Int.reduceSub, Int.reduceMul, Int.reducePow, Nat.reduceMul, Nat.reducePow, Nat.reduceBEq, cast_beqL, cast_bneL, Nat.reduceBeqDiff, Nat.reduceBneDiff, eqv_str, eqv_int, ofString_beq, ofString_bne, String.reduceBEq, String.reduceBNe, shaped_strS, List.any_cons, List.any_nil, flatD, List.all_cons, List.all_nil, fFld, fMeth, fMake, fInit, endI, fSetFld, toWM, wR, fLook, putFW, List.lookup_cons, List.lookup_nil, Option.isNone, dk, putSub, gSub2, gIn2, keyD, fExt, Option.map_some, Option.map_none, Int.reduceBEq, Int.reduceBNe, and_self, decide_false, List.take_succ_cons, List.take_zero, List.drop_succ_cons, List.drop_zero, Int.natAbs_one, gate_and, fChainE, boolR_b, uAppend_ok, uInsert_ok, rangeD_len, ↓bind_bd, bd_ok, W_bd, W_ok, W_noX, drawE, fFor, fRange1, fRange2, fSl, gSl, List.length_append, List.length_map, List.length_reverse, List.length_take, List.length_drop, rg3, rg2, lr, fDisp, fPairs, keyD, mergeD, List.foldl_cons, List.foldl_nil, show dPut ([] : List (Key × D)) (.inl 0) (.int 1) = [(.inl 0, .int 1)] from rfl, forL, fGet2, get_last, set_last, bne_self_eq_false, g1 z1, g2 z2 n1, g3 z3 n2 n3, p1 z1, p2 z2 n1, p3 z3 n2 n3, Option.getD_none, fLockE, fKeys, lckOf, keysz, dropR, dropO, y1, y2, y3, compL, getza z1, getzb z2 n1, getzc z3 n2 n3, t, law_clause4, h3]
  exact ⟨_, _, _, _, _, _, _, _, T ++ [.dct (kvz a b c p q s)], rfl, by simp⟩
theorem lloop_ev {a b c d e : Int} {k : Bool} (n1 : a ≠ b) (n2 : a ≠ c) (n3 : b ≠ c) (z1 : a ≠ 0) (z2 : b ≠ 0) (z3 : c ≠ 0) (st : Cell) :
    W (d__law_wants [.d (cellD a b c d e k)] [st]) (fun r S => r = .new ((wantsL a b c d e k).map clsD) ∧ S = [st]) := by
  unfold d__law_wants cellD
  have sh : ∀ S, Dl.gShl S (.int 1) (.int 3) = .ok (.d (.int 8)) S := fun S => rfl
  simp (disch := omega) only [fDef, fRet, fRetN, fSeq, fIfS, fTru, fBoo, fAndT, fOrT, fNotT, fAndV, fOrV, fNotV, fIf, fVar, fC, fCall, fCons, fNil, fBin, fUn, on2, on1, pk, pkW, toD, toW, wD, wsD, gate_true, noX_ok, viewsOf, onA, fCB, startG, finD, fIsi, noX_cond, fNext, fDrop, fSet, fSetM, fTup, fLst, fAsgT, bTup, bAll, bName, List.getElem?_cons_zero, List.getElem?_cons_succ, List.map_cons, List.map_nil, List.length_cons, List.length_nil, List.replicate, Nat.reduceAdd, Nat.reduceSub, Nat.zero_add, Nat.sub_self, List.append_nil, List.cons_append, List.nil_append, List.take_length, decide_true, gate_dec, okD, truD, List.set_cons_zero, List.set_cons_succ, cond_true, cond_false, gLen, gAdd, Dl.gSub, gNeg, gEq_int, gNe_int, gLt, gGt, gLe, gGe, cond_and_d, cond_and_d', cond_or_d, cond_or_t, cond_and_t, cond_id, isInt, isBool, isTup, isStr, isLst, gIx, fNoP, fPart, gList, gTuple, fSeqI, take_app, fComp, fYes, wipeG, atI_0, atI_1, atI_2, atI_3, Bool.and_true, Bool.true_and, Bool.and_false, Bool.false_and, Bool.or_true, Bool.true_or, Bool.or_false, Bool.false_or, Bool.not_true, Bool.not_false, lim, Nat.reduceLeDiff, Nat.reduceLT, cast_beq, Option.map_some, shaped_int, fSetSub, ixN_40, ixN_41, ixN_42, ixN_43, fUpd, get_last, set_last, if_true, if_false, not_lt_self, cutL_toI, cutL_fromI, Bool.true_xor, Bool.false_xor, gAll_map, rngOk_lit, smallI_lit, divOk_lit, Int.cast_ofNat_Int, Int.natCast_zero, Int.natCast_one, Int.reduceToNat, Int.reduceNeg, Int.reduceLE, Int.reduceLT, Int.reduceAdd, Int.reduceSub, Int.reduceMul, Int.reducePow, Nat.reduceMul, Nat.reducePow, Nat.reduceBEq, cast_beqL, cast_bneL, Nat.reduceBeqDiff, Nat.reduceBneDiff, eqv_str, eqv_int, ofString_beq, ofString_bne, String.reduceBEq, String.reduceBNe, shaped_strS, List.any_cons, List.any_nil, flatD, List.all_cons, List.all_nil, fFld, fMeth, fMake, fInit, endI, fSetFld, toWM, wR, fLook, putFW, List.lookup_cons, List.lookup_nil, Option.isNone, dk, putSub, gSub2, gIn2, keyD, fExt, Option.map_some, Option.map_none, Int.reduceBEq, Int.reduceBNe, and_self, decide_false, List.take_succ_cons, List.take_zero, List.drop_succ_cons, List.drop_zero, Int.natAbs_one, gate_and, fChainE, boolR_b, uAppend_ok, uInsert_ok, rangeD_len, ↓bind_bd, bd_ok, W_bd, W_ok, W_noX, drawE, fFor, fRange1, fRange2, fSl, gSl, List.length_append, List.length_map, List.length_reverse, List.length_take, List.length_drop, sh]
  refine W.forR (fun n sg S' => ∃ v0 v5 v6 v7 v8 v9 v10 v11 v12 T', sg = [v0, some (.d (.str (kd k))), some (.d (.tuple [.int a, .int b, .int c])), some (.d (.tuple [.int d, .int e])), some (.ref 1), v5, v6, v7, v8, v9, v10, v11, v12] ∧ S' = st :: .lst (((rows8.take n).flatMap (cls2 a b c d e k)).map clsD) :: T')
    ⟨_, _, _, _, _, _, _, _, _, [], rfl, rfl⟩ ?_ ?_
  · rintro n sg S' hn ⟨v0, v5, v6, v7, v8, v9, v10, v11, v12, T', rfl, rfl⟩
    refine (lbody_ev (d := d) (e := e) (k := k) hn n1 n2 n3 z1 z2 z3 ?_).mono ?_
    · have q : ∀ rs : List Row3, ((rs.flatMap (cls2 a b c d e k)).map clsD).length = 2 * rs.length := by
        intro rs
        induction rs with
        | nil => rfl
        | cons r rs ih => rw [List.flatMap_cons, List.map_append, List.length_append, ih, cls2_len, List.length_cons]; omega
      rw [q, List.length_take]; omega
    · rintro _ _ ⟨w5, w6, w7, w8, w9, w10, w11, w12, T2, rfl, rfl⟩
      refine ⟨_, _, _, _, _, _, _, _, _, T2, rfl, ?_⟩
      have e1 : rows8.take (n + 1) = rows8.take n ++ [rowOf n] := by
        rw [List.take_succ]
        have hh : rows8[n]? = some (rowOf n) := by
          have h : n = 0 ∨ n = 1 ∨ n = 2 ∨ n = 3 ∨ n = 4 ∨ n = 5 ∨ n = 6 ∨ n = 7 := by omega
          rcases h with rfl | rfl | rfl | rfl | rfl | rfl | rfl | rfl <;> rfl
        rw [hh]; rfl
      rw [e1, List.flatMap_append, List.map_append]
      simp
  · rintro sg S' ⟨v0, v5, v6, v7, v8, v9, v10, v11, v12, T', rfl, rfl⟩
    simp (disch := omega) only [fDef, fRet, fRetN, fSeq, fIfS, fTru, fBoo, fAndT, fOrT, fNotT, fAndV, fOrV, fNotV, fIf, fVar, fC, fCall, fCons, fNil, fBin, fUn, on2, on1, pk, pkW, toD, toW, wD, wsD, gate_true, noX_ok, viewsOf, onA, fCB, startG, finD, fIsi, noX_cond, fNext, fDrop, fSet, fSetM, fTup, fLst, fAsgT, bTup, bAll, bName, List.getElem?_cons_zero, List.getElem?_cons_succ, List.map_cons, List.map_nil, List.length_cons, List.length_nil, List.replicate, Nat.reduceAdd, Nat.reduceSub, Nat.zero_add, Nat.sub_self, List.append_nil, List.cons_append, List.nil_append, List.take_length, decide_true, gate_dec, okD, truD, List.set_cons_zero, List.set_cons_succ, cond_true, cond_false, gLen, gAdd, Dl.gSub, gNeg, gEq_int, gNe_int, gLt, gGt, gLe, gGe, cond_and_d, cond_and_d', cond_or_d, cond_or_t, cond_and_t, cond_id, isInt, isBool, isTup, isStr, isLst, gIx, fNoP, fPart, gList, gTuple, fSeqI, take_app, fComp, fYes, wipeG, atI_0, atI_1, atI_2, atI_3, Bool.and_true, Bool.true_and, Bool.and_false, Bool.false_and, Bool.or_true, Bool.true_or, Bool.or_false, Bool.false_or, Bool.not_true, Bool.not_false, lim, Nat.reduceLeDiff, Nat.reduceLT, cast_beq, Option.map_some, shaped_int, fSetSub, ixN_40, ixN_41, ixN_42, ixN_43, fUpd, get_last, set_last, if_true, if_false, not_lt_self, cutL_toI, cutL_fromI, Bool.true_xor, Bool.false_xor, gAll_map, rngOk_lit, smallI_lit, divOk_lit, Int.cast_ofNat_Int, Int.natCast_zero, Int.natCast_one, Int.reduceToNat, Int.reduceNeg, Int.reduceLE, Int.reduceLT, Int.reduceAdd, Int.reduceSub, Int.reduceMul, Int.reducePow, Nat.reduceMul, Nat.reducePow, Nat.reduceBEq, cast_beqL, cast_bneL, Nat.reduceBeqDiff, Nat.reduceBneDiff, eqv_str, eqv_int, ofString_beq, ofString_bne, String.reduceBEq, String.reduceBNe, shaped_strS, List.any_cons, List.any_nil, flatD, List.all_cons, List.all_nil, fFld, fMeth, fMake, fInit, endI, fSetFld, toWM, wR, fLook, putFW, List.lookup_cons, List.lookup_nil, Option.isNone, dk, putSub, gSub2, gIn2, keyD, fExt, Option.map_some, Option.map_none, Int.reduceBEq, Int.reduceBNe, and_self, decide_false, List.take_succ_cons, List.take_zero, List.drop_succ_cons, List.drop_zero, Int.natAbs_one, gate_and, fChainE, boolR_b, uAppend_ok, uInsert_ok, rangeD_len, ↓bind_bd, bd_ok, W_bd, W_ok, W_noX, drawE, fFor, fRange1, fRange2, fSl, gSl, List.length_append, List.length_map, List.length_reverse, List.length_take, List.length_drop]
    exact ⟨rfl, trivial⟩
end K25
set_option maxHeartbeats 1000000
namespace K25
open PySem L2 Dl
section
variable {w0 w1 w2 w3 w4 : Int} {b0 b1 b2 b3 b4 : Bool}
def kvW (w0 w1 w2 w3 w4 : Int) (b0 b1 b2 b3 b4 : Bool) : List (Key × D) := [(.inl w0, .bool b0), (.inl w1, .bool b1), (.inl w2, .bool b2), (.inl w3, .bool b3), (.inl w4, .bool b4)]
def asg (w0 w1 w2 w3 w4 : Int) (b0 b1 b2 b3 b4 : Bool) (w : Int) : Bool := if w = w0 then b0 else if w = w1 then b1 else if w = w2 then b2 else if w = w3 then b3 else b4
/-- five unlike wires, none of them 0 -/
def Ds (w0 w1 w2 w3 w4 : Int) : Prop := w0 < w1 ∧ w1 < w2 ∧ w2 < w3 ∧ w3 < w4 ∧ 0 < w0
theorem getW (h : Ds w0 w1 w2 w3 w4) {w : Int} (hw : w ∈ [w0, w1, w2, w3, w4]) : dGet (kvW w0 w1 w2 w3 w4 b0 b1 b2 b3 b4) (.inl w) = some (.bool (asg w0 w1 w2 w3 w4 b0 b1 b2 b3 b4 w)) := by
  obtain ⟨h1, h2, h3, h4, h5⟩ := h
  simp only [List.mem_cons, List.not_mem_nil, or_false] at hw
  have a1 : w0 ≠ w1 := by omega
  have a2 : w0 ≠ w2 := by omega
  have a3 : w0 ≠ w3 := by omega
  have a4 : w0 ≠ w4 := by omega
  have a5 : w1 ≠ w2 := by omega
  have a6 : w1 ≠ w3 := by omega
  have a7 : w1 ≠ w4 := by omega
  have a8 : w2 ≠ w3 := by omega
  have a9 : w2 ≠ w4 := by omega
  have a0 : w3 ≠ w4 := by omega
  rcases hw with rfl | rfl | rfl | rfl | rfl <;> simp [dGet, kvW, asg, a1, a2, a3, a4, a5, a6, a7, a8, a9, a0, a1.symm, a2.symm, a3.symm, a4.symm, a5.symm, a6.symm, a7.symm, a8.symm, a9.symm, a0.symm]
theorem getW0 (h : Ds w0 w1 w2 w3 w4) : dGet (kvW w0 w1 w2 w3 w4 b0 b1 b2 b3 b4) (.inl 0) = none := by
  obtain ⟨h1, h2, h3, h4, h5⟩ := h
  have a1 : w0 ≠ 0 := by omega
  have a2 : w1 ≠ 0 := by omega
  have a3 : w2 ≠ 0 := by omega
  have a4 : w3 ≠ 0 := by omega
  have a5 : w4 ≠ 0 := by omega
  simp [dGet, kvW, a1, a2, a3, a4, a5]
def holdB (s : Int → Bool) (ls : List Lit) : Bool := ls.any fun l => s l.1 == l.2
theorem any_sortU (p : Int → Bool) (xs : List Int) : (sortU xs).any p = xs.any p := by
  rw [Bool.eq_iff_iff, List.any_eq_true, List.any_eq_true]
  simp only [sortU_mem]
theorem hold_split (s : Int → Bool) : ∀ ls : List Lit, ((yesL ls).any s || (noL ls).any fun w => !s w) = holdB s ls
  | [] => rfl
  | (w, b) :: ls => by
    have ih := hold_split s ls
    unfold holdB at ih ⊢
    rw [List.any_cons, ← ih]
    cases b <;> simp only [yesL, noL, List.filter_cons, Bool.not_false, Bool.not_true, if_true, Bool.false_eq_true, if_false, List.map_cons, List.any_cons] <;> cases s w <;> simp
theorem yes_mem {w : Int} {ls : List Lit} (h : w ∈ yesL ls) : ∃ l ∈ ls, l.1 = w := by
  simp only [yesL, List.mem_map, List.mem_filter] at h
  obtain ⟨l, ⟨h1, _⟩, h2⟩ := h
  exact ⟨l, h1, h2⟩
theorem no_mem {w : Int} {ls : List Lit} (h : w ∈ noL ls) : ∃ l ∈ ls, l.1 = w := by
  simp only [noL, List.mem_map, List.mem_filter] at h
  obtain ⟨l, ⟨h1, _⟩, h2⟩ := h
  exact ⟨l, h1, h2⟩
theorem holds_ev (h : Ds w0 w1 w2 w3 w4) (ls : List Lit) (T : Sto) (hw : ∀ l ∈ ls, l.1 ∈ [w0, w1, w2, w3, w4]) (hl : ls.length ≤ 20) :
    d_holds_at [.d (clsD ls), .ref T.length] (T ++ [.dct (kvW w0 w1 w2 w3 w4 b0 b1 b2 b3 b4)]) = .ok (.d (.bool (holdB (asg w0 w1 w2 w3 w4 b0 b1 b2 b3 b4) ls))) (T ++ [.dct (kvW w0 w1 w2 w3 w4 b0 b1 b2 b3 b4)]) := by
  have q1 := compL_mapI (sg := [some (.d (clsD ls)), some (.ref T.length), none]) (i := 2) (S := T ++ [.dct (kvW w0 w1 w2 w3 w4 b0 b1 b2 b3 b4)]) (fe := (yIx (fVar 1) (fVar 2))) (g := fun w => .bool (asg w0 w1 w2 w3 w4 b0 b1 b2 b3 b4 w)) (xs := sortU (yesL ls)) (fun x hx => by
    obtain ⟨l, hl1, rfl⟩ := yes_mem ((sortU_mem _ _).mp hx)
    have e := getW (b0 := b0) (b1 := b1) (b2 := b2) (b3 := b3) (b4 := b4) h (hw l hl1)
    simp only [fDef, fRet, fRetN, fSeq, fIfS, fTru, fBoo, fAndT, fOrT, fNotT, fAndV, fOrV, fNotV, fIf, fVar, fC, fCall, fCons, fNil, fBin, fUn, on2, on1, pk, pkW, toD, toW, wD, wsD, gate_true, noX_ok, viewsOf, onA, fCB, startG, finD, fIsi, noX_cond, fNext, fDrop, fSet, fSetM, fTup, fLst, fAsgT, bTup, bAll, bName, List.getElem?_cons_zero, List.getElem?_cons_succ, List.map_cons, List.map_nil, List.length_cons, List.length_nil, List.replicate, Nat.reduceAdd, Nat.reduceSub, Nat.zero_add, Nat.sub_self, List.append_nil, List.cons_append, List.nil_append, List.take_length, decide_true, gate_dec, okD, truD, List.set_cons_zero, List.set_cons_succ, cond_true, cond_false, gLen, gAdd, Dl.gSub, gNeg, gEq_int, gNe_int, gLt, gGt, gLe, gGe, cond_and_d, cond_and_d', cond_or_d, cond_or_t, cond_and_t, cond_id, isInt, isBool, isTup, isStr, isLst, gIx, fNoP, fPart, fChain, gList, gTuple, fSeqI, take_app, fComp, fYes, wipeG, atI_0, atI_1, atI_2, atI_3, Bool.and_true, Bool.true_and, Bool.and_false, Bool.false_and, Bool.or_true, Bool.true_or, Bool.or_false, Bool.false_or, Bool.not_true, Bool.not_false, lim, Nat.reduceLeDiff, Nat.reduceLT, cast_beq, Option.map_some, shaped_int, fSetSub, ixN_40, ixN_41, ixN_42, ixN_43, fUpd, uAppend, get_last, set_last, if_true, if_false, not_lt_self, cutL_toI, cutL_fromI, Bool.true_xor, Bool.false_xor, gAll_map, rngOk_lit, smallI_lit, divOk_lit, Int.cast_ofNat_Int, Int.natCast_zero, Int.natCast_one, Int.reduceToNat, Int.reduceNeg, Int.reduceLE, Int.reduceLT, Int.reduceAdd, Int.reduceSub, Int.reduceMul, Int.reducePow, Nat.reduceMul, Nat.reducePow, Nat.reduceBEq, cast_beqL, cast_bneL, Nat.reduceBeqDiff, Nat.reduceBneDiff, eqv_str, eqv_int, ofString_beq, ofString_bne, String.reduceBEq, String.reduceBNe, shaped_strS, List.any_cons, List.any_nil, flatD, List.all_cons, List.all_nil, fFld, fMeth, fMake, fInit, endI, fSetFld, toWM, wR, fLook, putFW, List.lookup_cons, List.lookup_nil, Option.isNone, dk, putSub, gSub2, gIn2, keyD, fExt, Option.map_some, Option.map_none, Int.reduceBEq, Int.reduceBNe, and_self, decide_false, List.take_succ_cons, List.take_zero, List.drop_succ_cons, List.drop_zero, Int.natAbs_one, ↓bind_bd, bd_ok, bd_cond, e])
  have q2 := compL_mapI (sg := [some (.d (clsD ls)), some (.ref T.length), none]) (i := 2) (S := T ++ [.dct (kvW w0 w1 w2 w3 w4 b0 b1 b2 b3 b4)]) (fe := (fNotV (yIx (fVar 1) (fVar 2)))) (g := fun w => .bool (!asg w0 w1 w2 w3 w4 b0 b1 b2 b3 b4 w)) (xs := sortU (noL ls)) (fun x hx => by
    obtain ⟨l, hl1, rfl⟩ := no_mem ((sortU_mem _ _).mp hx)
    have e := getW (b0 := b0) (b1 := b1) (b2 := b2) (b3 := b3) (b4 := b4) h (hw l hl1)
    simp only [fDef, fRet, fRetN, fSeq, fIfS, fTru, fBoo, fAndT, fOrT, fNotT, fAndV, fOrV, fNotV, fIf, fVar, fC, fCall, fCons, fNil, fBin, fUn, on2, on1, pk, pkW, toD, toW, wD, wsD, gate_true, noX_ok, viewsOf, onA, fCB, startG, finD, fIsi, noX_cond, fNext, fDrop, fSet, fSetM, fTup, fLst, fAsgT, bTup, bAll, bName, List.getElem?_cons_zero, List.getElem?_cons_succ, List.map_cons, List.map_nil, List.length_cons, List.length_nil, List.replicate, Nat.reduceAdd, Nat.reduceSub, Nat.zero_add, Nat.sub_self, List.append_nil, List.cons_append, List.nil_append, List.take_length, decide_true, gate_dec, okD, truD, List.set_cons_zero, List.set_cons_succ, cond_true, cond_false, gLen, gAdd, Dl.gSub, gNeg, gEq_int, gNe_int, gLt, gGt, gLe, gGe, cond_and_d, cond_and_d', cond_or_d, cond_or_t, cond_and_t, cond_id, isInt, isBool, isTup, isStr, isLst, gIx, fNoP, fPart, fChain, gList, gTuple, fSeqI, take_app, fComp, fYes, wipeG, atI_0, atI_1, atI_2, atI_3, Bool.and_true, Bool.true_and, Bool.and_false, Bool.false_and, Bool.or_true, Bool.true_or, Bool.or_false, Bool.false_or, Bool.not_true, Bool.not_false, lim, Nat.reduceLeDiff, Nat.reduceLT, cast_beq, Option.map_some, shaped_int, fSetSub, ixN_40, ixN_41, ixN_42, ixN_43, fUpd, uAppend, get_last, set_last, if_true, if_false, not_lt_self, cutL_toI, cutL_fromI, Bool.true_xor, Bool.false_xor, gAll_map, rngOk_lit, smallI_lit, divOk_lit, Int.cast_ofNat_Int, Int.natCast_zero, Int.natCast_one, Int.reduceToNat, Int.reduceNeg, Int.reduceLE, Int.reduceLT, Int.reduceAdd, Int.reduceSub, Int.reduceMul, Int.reducePow, Nat.reduceMul, Nat.reducePow, Nat.reduceBEq, cast_beqL, cast_bneL, Nat.reduceBeqDiff, Nat.reduceBneDiff, eqv_str, eqv_int, ofString_beq, ofString_bne, String.reduceBEq, String.reduceBNe, shaped_strS, List.any_cons, List.any_nil, flatD, List.all_cons, List.all_nil, fFld, fMeth, fMake, fInit, endI, fSetFld, toWM, wR, fLook, putFW, List.lookup_cons, List.lookup_nil, Option.isNone, dk, putSub, gSub2, gIn2, keyD, fExt, Option.map_some, Option.map_none, Int.reduceBEq, Int.reduceBNe, and_self, decide_false, List.take_succ_cons, List.take_zero, List.drop_succ_cons, List.drop_zero, Int.natAbs_one, ↓bind_bd, bd_ok, bd_cond, e])
  have l1 : (sortU (yesL ls)).length ≤ 1000000 := by have := sortU_len (yesL ls); have := yes_len ls; omega
  have l2 : (sortU (noL ls)).length ≤ 1000000 := by have := sortU_len (noL ls); have := no_len ls; omega
  have e3 := hold_split (asg w0 w1 w2 w3 w4 b0 b1 b2 b3 b4) ls
  unfold clsD at *
  unfold d_holds_at
  simp only [fDef, fRet, fRetN, fSeq, fIfS, fTru, fBoo, fAndT, fOrT, fNotT, fAndV, fOrV, fNotV, fIf, fVar, fC, fCall, fCons, fNil, fBin, fUn, on2, on1, pk, pkW, toD, toW, wD, wsD, gate_true, noX_ok, viewsOf, onA, fCB, startG, finD, fIsi, noX_cond, fNext, fDrop, fSet, fSetM, fTup, fLst, fAsgT, bTup, bAll, bName, List.getElem?_cons_zero, List.getElem?_cons_succ, List.map_cons, List.map_nil, List.length_cons, List.length_nil, List.replicate, Nat.reduceAdd, Nat.reduceSub, Nat.zero_add, Nat.sub_self, List.append_nil, List.cons_append, List.nil_append, List.take_length, decide_true, gate_dec, okD, truD, List.set_cons_zero, List.set_cons_succ, cond_true, cond_false, gLen, gAdd, Dl.gSub, gNeg, gEq_int, gNe_int, gLt, gGt, gLe, gGe, cond_and_d, cond_and_d', cond_or_d, cond_or_t, cond_and_t, cond_id, isInt, isBool, isTup, isStr, isLst, gIx, fNoP, fPart, fChain, gList, gTuple, fSeqI, take_app, fComp, fYes, wipeG, atI_0, atI_1, atI_2, atI_3, Bool.and_true, Bool.true_and, Bool.and_false, Bool.false_and, Bool.or_true, Bool.true_or, Bool.or_false, Bool.false_or, Bool.not_true, Bool.not_false, lim, Nat.reduceLeDiff, Nat.reduceLT, cast_beq, Option.map_some, shaped_int, fSetSub, ixN_40, ixN_41, ixN_42, ixN_43, fUpd, uAppend, get_last, set_last, if_true, if_false, not_lt_self, cutL_toI, cutL_fromI, Bool.true_xor, Bool.false_xor, gAll_map, rngOk_lit, smallI_lit, divOk_lit, Int.cast_ofNat_Int, Int.natCast_zero, Int.natCast_one, Int.reduceToNat, Int.reduceNeg, Int.reduceLE, Int.reduceLT, Int.reduceAdd, Int.reduceSub, Int.reduceMul, Int.reducePow, Nat.reduceMul, Nat.reducePow, Nat.reduceBEq, cast_beqL, cast_bneL, Nat.reduceBeqDiff, Nat.reduceBneDiff, eqv_str, eqv_int, ofString_beq, ofString_bne, String.reduceBEq, String.reduceBNe, shaped_strS, List.any_cons, List.any_nil, flatD, List.all_cons, List.all_nil, fFld, fMeth, fMake, fInit, endI, fSetFld, toWM, wR, fLook, putFW, List.lookup_cons, List.lookup_nil, Option.isNone, dk, putSub, gSub2, gIn2, keyD, fExt, Option.map_some, Option.map_none, Int.reduceBEq, Int.reduceBNe, and_self, decide_false, List.take_succ_cons, List.take_zero, List.drop_succ_cons, List.drop_zero, Int.natAbs_one, ↓bind_bd, bd_ok, bd_cond, q1, q2, l1, l2, List.length_map, gAny_map, any_sortU]
  rw [e3]
end
end K25
set_option maxHeartbeats 1000000
namespace K25
open PySem L2 Dl
section
variable {w0 w1 w2 w3 w4 : Int} {b0 b1 b2 b3 b4 : Bool}
def wD5 (w0 w1 w2 w3 w4 : Int) : D := .tuple [.int w0, .int w1, .int w2, .int w3, .int w4]
def bt (n j : Int) : Bool := Builtin.bitAnd n j != 0
theorem en5 : enumD 0 [.int w0, .int w1, .int w2, .int w3, .int w4] = [.tuple [.int 0, .int w0], .tuple [.int 1, .int w1], .tuple [.int 2, .int w2], .tuple [.int 3, .int w3], .tuple [.int 4, .int w4]] := rfl
theorem pW (h : Ds w0 w1 w2 w3 w4) : dPut (dPut (dPut (dPut (dPut [] (.inl w0) (.bool b0)) (.inl w1) (.bool b1)) (.inl w2) (.bool b2)) (.inl w3) (.bool b3)) (.inl w4) (.bool b4) = kvW w0 w1 w2 w3 w4 b0 b1 b2 b3 b4 := by
  obtain ⟨h1, h2, h3, h4, h5⟩ := h
  have a1 : w0 ≠ w1 := by omega
  have a2 : w0 ≠ w2 := by omega
  have a3 : w0 ≠ w3 := by omega
  have a4 : w0 ≠ w4 := by omega
  have a5 : w1 ≠ w2 := by omega
  have a6 : w1 ≠ w3 := by omega
  have a7 : w1 ≠ w4 := by omega
  have a8 : w2 ≠ w3 := by omega
  have a9 : w2 ≠ w4 := by omega
  have a0 : w3 ≠ w4 := by omega
  simp [dPut, kvW, a1, a2, a3, a4, a5, a6, a7, a8, a9, a0]
def pairD (p : Int × Int) : D := .tuple [.int p.1, .int p.2]
theorem sum_ev {u0 u1 u2 u3 u4 u5 u7 u8 u11 : Option Wv} (h : Ds w0 w1 w2 w3 w4) (T : Sto) : ∀ ps : List (Int × Int), (∀ p ∈ ps, p.1 ∈ [w0, w1, w2, w3, w4]) →
    compL [u0, u1, u2, u3, u4, u5, some (.ref T.length), u7, u8, none, none, u11] (bTup [9, 10]) (fTru (yIx (fVar 6) (fVar 9))) (fVar 10) (ps.map pairD) (T ++ [.dct (kvW w0 w1 w2 w3 w4 b0 b1 b2 b3 b4)])
      = .ok (((ps.filter fun p => asg w0 w1 w2 w3 w4 b0 b1 b2 b3 b4 p.1).map (·.2)).map PyData.int) (T ++ [.dct (kvW w0 w1 w2 w3 w4 b0 b1 b2 b3 b4)])
  | [], _ => rfl
  | (w, n) :: ps, hp => by
    have ih := sum_ev (u0 := u0) (u1 := u1) (u2 := u2) (u3 := u3) (u4 := u4) (u5 := u5) (u7 := u7) (u8 := u8) (u11 := u11) h T ps fun p hp' => hp p (by simp [hp'])
    have e := getW (b0 := b0) (b1 := b1) (b2 := b2) (b3 := b3) (b4 := b4) h (hp (w, n) (by simp))
    simp only [List.map_cons, pairD, compL, List.filter_cons]
    simp only [fDef, fRet, fRetN, fSeq, fIfS, fTru, fBoo, fAndT, fOrT, fNotT, fAndV, fOrV, fNotV, fIf, fVar, fC, fCall, fCons, fNil, fBin, fUn, on2, on1, pk, pkW, toD, toW, wD, wsD, gate_true, noX_ok, viewsOf, onA, fCB, startG, finD, fIsi, noX_cond, fNext, fDrop, fSet, fSetM, fTup, fLst, fAsgT, bTup, bAll, bName, List.getElem?_cons_zero, List.getElem?_cons_succ, List.map_cons, List.map_nil, List.length_cons, List.length_nil, List.replicate, Nat.reduceAdd, Nat.reduceSub, Nat.zero_add, Nat.sub_self, List.append_nil, List.cons_append, List.nil_append, List.take_length, decide_true, gate_dec, okD, truD, List.set_cons_zero, List.set_cons_succ, cond_true, cond_false, gLen, gAdd, Dl.gSub, gNeg, gEq_int, gNe_int, gLt, gGt, gLe, gGe, cond_and_d, cond_and_d', cond_or_d, cond_or_t, cond_and_t, cond_id, isInt, isBool, isTup, isStr, isLst, gIx, fNoP, fPart, fChain, gList, gTuple, fSeqI, take_app, fComp, fYes, wipeG, atI_0, atI_1, atI_2, atI_3, Bool.and_true, Bool.true_and, Bool.and_false, Bool.false_and, Bool.or_true, Bool.true_or, Bool.or_false, Bool.false_or, Bool.not_true, Bool.not_false, lim, Nat.reduceLeDiff, Nat.reduceLT, cast_beq, Option.map_some, shaped_int, fSetSub, ixN_40, ixN_41, ixN_42, ixN_43, fUpd, uAppend, get_last, set_last, if_true, if_false, not_lt_self, cutL_toI, cutL_fromI, Bool.true_xor, Bool.false_xor, gAll_map, rngOk_lit, smallI_lit, divOk_lit, Int.cast_ofNat_Int, Int.natCast_zero, Int.natCast_one, Int.reduceToNat, Int.reduceNeg, Int.reduceLE, Int.reduceLT, Int.reduceAdd, Int.reduceSub, Int.reduceMul, Int.reducePow, Nat.reduceMul, Nat.reducePow, Nat.reduceBEq, cast_beqL, cast_bneL, Nat.reduceBeqDiff, Nat.reduceBneDiff, eqv_str, eqv_int, ofString_beq, ofString_bne, String.reduceBEq, String.reduceBNe, shaped_strS, List.any_cons, List.any_nil, flatD, List.all_cons, List.all_nil, fFld, fMeth, fMake, fInit, endI, fSetFld, toWM, wR, fLook, putFW, List.lookup_cons, List.lookup_nil, Option.isNone, dk, putSub, gSub2, gIn2, keyD, fExt, Option.map_some, Option.map_none, Int.reduceBEq, Int.reduceBNe, and_self, decide_false, List.take_succ_cons, List.take_zero, List.drop_succ_cons, List.drop_zero, Int.natAbs_one, ↓bind_bd, bd_ok, bd_cond, ih, e]
    cases asg w0 w1 w2 w3 w4 b0 b1 b2 b3 b4 w <;> rfl
def ps5 (w0 w1 w2 w3 w4 n0 n1 n2 n3 n4 : Int) : List (Int × Int) := [(w0, n0), (w1, n1), (w2, n2), (w3, n3), (w4, n4)]
def totB (ps : List (Int × Int)) (k : Int) (s : Int → Bool) : Int := k + ((ps.filter fun p => s p.1).map (·.2)).sum
/-- the signs of a row -/
def sgn (w0 w1 w2 w3 w4 : Int) (n : Nat) : Int → Bool := asg w0 w1 w2 w3 w4 (bt (0 + (n : Nat)) 1) (bt (0 + (n : Nat)) 2) (bt (0 + (n : Nat)) 4) (bt (0 + (n : Nat)) 8) (bt (0 + (n : Nat)) 16)
def okB (ps : List (Int × Int)) (k : Int) (cs : List (List Lit)) (s : Int → Bool) : Bool := (totB ps k s == 0) || !(cs.all (holdB s))
def keptB (w0 w1 w2 w3 w4 n0 n1 n2 n3 n4 k : Int) (cs : List (List Lit)) : Bool := (List.range 32).all fun n => okB (ps5 w0 w1 w2 w3 w4 n0 n1 n2 n3 n4) k cs (sgn w0 w1 w2 w3 w4 n)
def keptL : FS := (fSeq (fSet 6 (fDc [8, 9] (fEnum (fVar 2)) (bTup [8, 9]) (fYes) (fVar 9) (fBin kNe (xAnd (fVar 5) (xShl (fC (.int 1)) (fVar 8))) (fC (.int 0))))) (fSeq (fSet 7 (xAdd (fVar 4) (fCB gSum (fCons (fComp [9, 10] (fZip (fCons (fVar 2) (fCons (fVar 3) (fNil)))) (bTup [9, 10]) (fTru (yIx (fVar 6) (fVar 9))) (fVar 10)) (fNil))))) (fIfS (fAndT (fBoo (fBin kNe (fVar 7) (fC (.int 0)))) (fAndT (fTru (fGet2 (fVar 6) (fC (.int 0)) (fC (.bool true)))) (fTru (fCB gAll (fCons (fComp [11] (fSeqI (fVar 0)) (bName 11) (fYes) (fCall 2 d_holds_at (fCons (fVar 11) (fCons (fVar 6) (fNil))))) (fNil)))))) (fRet (fC (.bool false))) (fNext))))
theorem sh0 (S : Sto) : Dl.gShl S (.int 1) (.int 0) = .ok (.d (.int 1)) S := rfl
theorem sh1 (S : Sto) : Dl.gShl S (.int 1) (.int 1) = .ok (.d (.int 2)) S := rfl
theorem sh2 (S : Sto) : Dl.gShl S (.int 1) (.int 2) = .ok (.d (.int 4)) S := rfl
theorem sh3 (S : Sto) : Dl.gShl S (.int 1) (.int 3) = .ok (.d (.int 8)) S := rfl
theorem sh4 (S : Sto) : Dl.gShl S (.int 1) (.int 4) = .ok (.d (.int 16)) S := rfl
theorem sh5 (S : Sto) : Dl.gShl S (.int 1) (.int 5) = .ok (.d (.int 32)) S := rfl
theorem zip5 {n0 n1 n2 n3 n4 : Int} : zipD [.int w0, .int w1, .int w2, .int w3, .int w4] [.int n0, .int n1, .int n2, .int n3, .int n4] = (ps5 w0 w1 w2 w3 w4 n0 n1 n2 n3 n4).map pairD := rfl
theorem ps_mem {n0 n1 n2 n3 n4 : Int} : ∀ p ∈ ps5 w0 w1 w2 w3 w4 n0 n1 n2 n3 n4, p.1 ∈ [w0, w1, w2, w3, w4] := by
  intro p hp
  simp only [ps5, List.mem_cons, List.not_mem_nil, or_false] at hp
  rcases hp with rfl | rfl | rfl | rfl | rfl <;> simp
theorem filt_len {n0 n1 n2 n3 n4 : Int} (s : Int → Bool) : ((ps5 w0 w1 w2 w3 w4 n0 n1 n2 n3 n4).filter fun p => s p.1).length ≤ 5 := List.length_filter_le _ _
theorem kept_body {u1 : Option Wv} {n0 n1 n2 n3 n4 k : Int} (h : Ds w0 w1 w2 w3 w4) {cs : List (List Lit)} (hc : ∀ ls ∈ cs, ls.length ≤ 20 ∧ ∀ l ∈ ls, l.1 ∈ [w0, w1, w2, w3, w4]) (hl : cs.length ≤ 1000) (n : Nat) (T : Sto) {u6 u7 u8 u9 u10 u11 : Option Wv} :
    W (keptL [some (.d (.list (cs.map clsD))), u1, some (.d (wD5 w0 w1 w2 w3 w4)), some (.d (wD5 n0 n1 n2 n3 n4)), some (.d (.int k)), some (.d (.int (0 + (n : Nat)))), u6, u7, u8, u9, u10, u11] T) (fun fl S' => ∃ T' v6 v7 v8 v9 v10 v11, S' = T ++ T' ∧
      fl = cond (okB (ps5 w0 w1 w2 w3 w4 n0 n1 n2 n3 n4) k cs (sgn w0 w1 w2 w3 w4 n)) (.nx [some (.d (.list (cs.map clsD))), u1, some (.d (wD5 w0 w1 w2 w3 w4)), some (.d (wD5 n0 n1 n2 n3 n4)), some (.d (.int k)), some (.d (.int (0 + (n : Nat)))), v6, v7, v8, v9, v10, v11]) (.rt (.d (.bool false)))) := by
  unfold okB sgn
  generalize (0 + (n : Nat) : Int) = nn
  have bE : ∀ j, (Builtin.bitAnd nn j != 0) = bt nn j := fun j => rfl
  have qa := compL_mapJ (f := clsD) (sg := [some (.d (.list (cs.map clsD))), u1, some (.d (wD5 w0 w1 w2 w3 w4)), some (.d (wD5 n0 n1 n2 n3 n4)), some (.d (.int k)), some (.d (.int nn)), some (.ref T.length), some (.d (.int (totB (ps5 w0 w1 w2 w3 w4 n0 n1 n2 n3 n4) k (asg w0 w1 w2 w3 w4 (bt nn 1) (bt nn 2) (bt nn 4) (bt nn 8) (bt nn 16))))), u8, u9, u10, none]) (i := 11) (S := T ++ [.dct (kvW w0 w1 w2 w3 w4 (bt nn 1) (bt nn 2) (bt nn 4) (bt nn 8) (bt nn 16))]) (fe := (fCall 2 d_holds_at (fCons (fVar 11) (fCons (fVar 6) (fNil))))) (g := fun ls => .bool (holdB (asg w0 w1 w2 w3 w4 (bt nn 1) (bt nn 2) (bt nn 4) (bt nn 8) (bt nn 16)) ls)) (xs := cs) (fun ls hls => by
    have e := holds_ev (b0 := bt nn 1) (b1 := bt nn 2) (b2 := bt nn 4) (b3 := bt nn 8) (b4 := bt nn 16) h ls T (hc ls hls).2 (hc ls hls).1
    simp only [fDef, fRet, fRetN, fSeq, fIfS, fTru, fBoo, fAndT, fOrT, fNotT, fAndV, fOrV, fNotV, fIf, fVar, fC, fCall, fCons, fNil, fBin, fUn, on2, on1, pk, pkW, toD, toW, wD, wsD, gate_true, noX_ok, viewsOf, onA, fCB, startG, finD, fIsi, noX_cond, fNext, fDrop, fSet, fSetM, fTup, fLst, fAsgT, bTup, bAll, bName, List.getElem?_cons_zero, List.getElem?_cons_succ, List.map_cons, List.map_nil, List.length_cons, List.length_nil, List.replicate, Nat.reduceAdd, Nat.reduceSub, Nat.zero_add, Nat.sub_self, List.append_nil, List.cons_append, List.nil_append, List.take_length, decide_true, gate_dec, okD, truD, List.set_cons_zero, List.set_cons_succ, cond_true, cond_false, gLen, gAdd, Dl.gSub, gNeg, gEq_int, gNe_int, gLt, gGt, gLe, gGe, cond_and_d, cond_and_d', cond_or_d, cond_or_t, cond_and_t, cond_id, isInt, isBool, isTup, isStr, isLst, gIx, fNoP, fPart, fChain, gList, gTuple, fSeqI, take_app, fComp, fYes, wipeG, atI_0, atI_1, atI_2, atI_3, Bool.and_true, Bool.true_and, Bool.and_false, Bool.false_and, Bool.or_true, Bool.true_or, Bool.or_false, Bool.false_or, Bool.not_true, Bool.not_false, lim, Nat.reduceLeDiff, Nat.reduceLT, cast_beq, Option.map_some, shaped_int, fSetSub, ixN_40, ixN_41, ixN_42, ixN_43, fUpd, uAppend, get_last, set_last, if_true, if_false, not_lt_self, cutL_toI, cutL_fromI, Bool.true_xor, Bool.false_xor, gAll_map, rngOk_lit, smallI_lit, divOk_lit, Int.cast_ofNat_Int, Int.natCast_zero, Int.natCast_one, Int.reduceToNat, Int.reduceNeg, Int.reduceLE, Int.reduceLT, Int.reduceAdd, Int.reduceSub, Int.reduceMul, Int.reducePow, Nat.reduceMul, Nat.reducePow, Nat.reduceBEq, cast_beqL, cast_bneL, Nat.reduceBeqDiff, Nat.reduceBneDiff, eqv_str, eqv_int, ofString_beq, ofString_bne, String.reduceBEq, String.reduceBNe, shaped_strS, List.any_cons, List.any_nil, flatD, List.all_cons, List.all_nil, fFld, fMeth, fMake, fInit, endI, fSetFld, toWM, wR, fLook, putFW, List.lookup_cons, List.lookup_nil, Option.isNone, dk, putSub, gSub2, gIn2, keyD, fExt, Option.map_some, Option.map_none, Int.reduceBEq, Int.reduceBNe, and_self, decide_false, List.take_succ_cons, List.take_zero, List.drop_succ_cons, List.drop_zero, Int.natAbs_one, ↓bind_bd, bd_ok, bd_cond, e])
  unfold totB at *
  have l1 : cs.length ≤ 1000000 := by omega
  have l2 : (ps5 w0 w1 w2 w3 w4 n0 n1 n2 n3 n4).length ≤ 1000000 := by simp [ps5]
  have im := intsOf_map (((ps5 w0 w1 w2 w3 w4 n0 n1 n2 n3 n4).filter fun p => asg w0 w1 w2 w3 w4 (bt nn 1) (bt nn 2) (bt nn 4) (bt nn 8) (bt nn 16) p.1).map (·.2))
  have sE := fun {u0 u1 u2 u3 u4 u5 u7 u8 u11} => sum_ev (u0 := u0) (u1 := u1) (u2 := u2) (u3 := u3) (u4 := u4) (u5 := u5) (u7 := u7) (u8 := u8) (u11 := u11) (b0 := bt nn 1) (b1 := bt nn 2) (b2 := bt nn 4) (b3 := bt nn 8) (b4 := bt nn 16) h T _ (ps_mem (n0 := n0) (n1 := n1) (n2 := n2) (n3 := n3) (n4 := n4))
  unfold keptL wD5 at *
  simp (disch := omega) only [fDef, fRet, fRetN, fSeq, fIfS, fTru, fBoo, fAndT, fOrT, fNotT, fAndV, fOrV, fNotV, fIf, fVar, fC, fCall, fCons, fNil, fBin, fUn, on2, on1, pk, pkW, toD, toW, wD, wsD, gate_true, noX_ok, viewsOf, onA, fCB, startG, finD, fIsi, noX_cond, fNext, fDrop, fSet, fSetM, fTup, fLst, fAsgT, bTup, bAll, bName, List.getElem?_cons_zero, List.getElem?_cons_succ, List.map_cons, List.map_nil, List.length_cons, List.length_nil, List.replicate, Nat.reduceAdd, Nat.reduceSub, Nat.zero_add, Nat.sub_self, List.append_nil, List.cons_append, List.nil_append, List.take_length, decide_true, gate_dec, okD, truD, List.set_cons_zero, List.set_cons_succ, cond_true, cond_false, gLen, gAdd, Dl.gSub, gNeg, gEq_int, gNe_int, gLt, gGt, gLe, gGe, cond_and_d, cond_and_d', cond_or_d, cond_or_t, cond_and_t, cond_id, isInt, isBool, isTup, isStr, isLst, gIx, fNoP, fPart, gList, gTuple, fSeqI, take_app, fComp, fYes, wipeG, atI_0, atI_1, atI_2, atI_3, Bool.and_true, Bool.true_and, Bool.and_false, Bool.false_and, Bool.or_true, Bool.true_or, Bool.or_false, Bool.false_or, Bool.not_true, Bool.not_false, lim, Nat.reduceLeDiff, Nat.reduceLT, cast_beq, Option.map_some, shaped_int, fSetSub, ixN_40, ixN_41, ixN_42, ixN_43, fUpd, get_last, set_last, if_true, if_false, not_lt_self, cutL_toI, cutL_fromI, Bool.true_xor, Bool.false_xor, gAll_map, rngOk_lit, smallI_lit, divOk_lit, Int.cast_ofNat_Int, Int.natCast_zero, Int.natCast_one, Int.reduceToNat, Int.reduceNeg, Int.reduceLE, Int.reduceLT, Int.reduceAdd, Int.reduceSub, Int.reduceMul, Int.reducePow, Nat.reduceMul, Nat.reducePow, Nat.reduceBEq, cast_beqL, cast_bneL, Nat.reduceBeqDiff, Nat.reduceBneDiff, eqv_str, eqv_int, ofString_beq, ofString_bne, String.reduceBEq, String.reduceBNe, shaped_strS, List.any_cons, List.any_nil, flatD, List.all_cons, List.all_nil, fFld, fMeth, fMake, fInit, endI, fSetFld, toWM, wR, fLook, putFW, List.lookup_cons, List.lookup_nil, Option.isNone, dk, putSub, gSub2, gIn2, keyD, fExt, Option.map_some, Option.map_none, Int.reduceBEq, Int.reduceBNe, and_self, decide_false, List.take_succ_cons, List.take_zero, List.drop_succ_cons, List.drop_zero, Int.natAbs_one, gate_and, fChainE, boolR_b, uAppend_ok, uInsert_ok, rangeD_len, ↓bind_bd, bd_ok, W_bd, W_ok, W_noX, drawE, fFor, fRange1, fRange2, fSl, gSl, List.length_append, List.length_map, List.length_reverse, List.length_take, List.length_drop, fDc, fEnum, en5, compD, keyD, sh0, sh1, sh2, sh3, sh4, gBit, bE, pW h, fZip, zip5, sE, l2, gSum, im, fGet2, get_last, getW0 h, Option.getD_none, qa, l1, gAll_map]
  have eo : ∀ (x : Int) (y : Bool), ((x == 0) || !y) = !(x != 0 && y) := fun x y => by unfold bne; cases (x == 0) <;> cases y <;> rfl
  rw [eo]
  refine W.cond (fun hb => ?_) (fun hb => ?_)
  · rw [hb]
    exact ⟨[.dct (kvW w0 w1 w2 w3 w4 (bt nn 1) (bt nn 2) (bt nn 4) (bt nn 8) (bt nn 16))], none, none, none, none, none, none, rfl, rfl⟩
  · rw [hb]
    exact ⟨[.dct (kvW w0 w1 w2 w3 w4 (bt nn 1) (bt nn 2) (bt nn 4) (bt nn 8) (bt nn 16))], _, _, _, _, _, _, rfl, rfl⟩
theorem kept_W {n0 n1 n2 n3 n4 k : Int} (h : Ds w0 w1 w2 w3 w4) {cs : List (List Lit)} (hc : ∀ ls ∈ cs, ls.length ≤ 20 ∧ ∀ l ∈ ls, l.1 ∈ [w0, w1, w2, w3, w4]) (hl : cs.length ≤ 1000) (S : Sto) :
    W (d_is_kept [.d (.list (cs.map clsD)), .d (.tuple [wD5 w0 w1 w2 w3 w4, wD5 n0 n1 n2 n3 n4, .int k])] S) (fun r S' => r = .d (.bool (keptB w0 w1 w2 w3 w4 n0 n1 n2 n3 n4 k cs)) ∧ S' = S) := by
  unfold d_is_kept
  have lw : gLen S [wD5 w0 w1 w2 w3 w4] = .ok (.d (.int 5)) S := rfl
  simp (disch := omega) only [fDef, fRet, fRetN, fSeq, fIfS, fTru, fBoo, fAndT, fOrT, fNotT, fAndV, fOrV, fNotV, fIf, fVar, fC, fCall, fCons, fNil, fBin, fUn, on2, on1, pk, pkW, toD, toW, wD, wsD, gate_true, noX_ok, viewsOf, onA, fCB, startG, finD, fIsi, noX_cond, fNext, fDrop, fSet, fSetM, fTup, fLst, fAsgT, bTup, bAll, bName, List.getElem?_cons_zero, List.getElem?_cons_succ, List.map_cons, List.map_nil, List.length_cons, List.length_nil, List.replicate, Nat.reduceAdd, Nat.reduceSub, Nat.zero_add, Nat.sub_self, List.append_nil, List.cons_append, List.nil_append, List.take_length, decide_true, gate_dec, okD, truD, List.set_cons_zero, List.set_cons_succ, cond_true, cond_false, gLen, gAdd, Dl.gSub, gNeg, gEq_int, gNe_int, gLt, gGt, gLe, gGe, cond_and_d, cond_and_d', cond_or_d, cond_or_t, cond_and_t, cond_id, isInt, isBool, isTup, isStr, isLst, gIx, fNoP, fPart, gList, gTuple, fSeqI, take_app, fComp, fYes, wipeG, atI_0, atI_1, atI_2, atI_3, Bool.and_true, Bool.true_and, Bool.and_false, Bool.false_and, Bool.or_true, Bool.true_or, Bool.or_false, Bool.false_or, Bool.not_true, Bool.not_false, lim, Nat.reduceLeDiff, Nat.reduceLT, cast_beq, Option.map_some, shaped_int, fSetSub, ixN_40, ixN_41, ixN_42, ixN_43, fUpd, get_last, set_last, if_true, if_false, not_lt_self, cutL_toI, cutL_fromI, Bool.true_xor, Bool.false_xor, gAll_map, rngOk_lit, smallI_lit, divOk_lit, Int.cast_ofNat_Int, Int.natCast_zero, Int.natCast_one, Int.reduceToNat, Int.reduceNeg, Int.reduceLE, Int.reduceLT, Int.reduceAdd, Int.reduceSub, Int.reduceMul, Int.reducePow, Nat.reduceMul, Nat.reducePow, Nat.reduceBEq, cast_beqL, cast_bneL, Nat.reduceBeqDiff, Nat.reduceBneDiff, eqv_str, eqv_int, ofString_beq, ofString_bne, String.reduceBEq, String.reduceBNe, shaped_strS, List.any_cons, List.any_nil, flatD, List.all_cons, List.all_nil, fFld, fMeth, fMake, fInit, endI, fSetFld, toWM, wR, fLook, putFW, List.lookup_cons, List.lookup_nil, Option.isNone, dk, putSub, gSub2, gIn2, keyD, fExt, Option.map_some, Option.map_none, Int.reduceBEq, Int.reduceBNe, and_self, decide_false, List.take_succ_cons, List.take_zero, List.drop_succ_cons, List.drop_zero, Int.natAbs_one, gate_and, fChainE, boolR_b, uAppend_ok, uInsert_ok, rangeD_len, ↓bind_bd, bd_ok, W_bd, W_ok, W_noX, drawE, fFor, fRange1, fRange2, fSl, gSl, List.length_append, List.length_map, List.length_reverse, List.length_take, List.length_drop, lw, sh5]
  have key : W (forL (bName 5) keptL (rangeD 0 32) [some (.d (.list (cs.map clsD))), some (.d (.tuple [wD5 w0 w1 w2 w3 w4, wD5 n0 n1 n2 n3 n4, .int k])), some (.d (wD5 w0 w1 w2 w3 w4)), some (.d (wD5 n0 n1 n2 n3 n4)), some (.d (.int k)), none, none, none, none, none, none, none] S)
      (fun fl S' => ∃ T', S' = S ++ T' ∧ ((∃ g, fl = .nx g ∧ keptB w0 w1 w2 w3 w4 n0 n1 n2 n3 n4 k cs = true) ∨ (fl = .rt (.d (.bool false)) ∧ keptB w0 w1 w2 w3 w4 n0 n1 n2 n3 n4 k cs = false))) := by
    refine W.forR (fun n sg S' => ∃ T' v5 v6 v7 v8 v9 v10 v11, S' = S ++ T' ∧ (∀ m, m < n → okB (ps5 w0 w1 w2 w3 w4 n0 n1 n2 n3 n4) k cs (sgn w0 w1 w2 w3 w4 m) = true) ∧ sg = [some (.d (.list (cs.map clsD))), some (.d (.tuple [wD5 w0 w1 w2 w3 w4, wD5 n0 n1 n2 n3 n4, .int k])), some (.d (wD5 w0 w1 w2 w3 w4)), some (.d (wD5 n0 n1 n2 n3 n4)), some (.d (.int k)), v5, v6, v7, v8, v9, v10, v11]) ?_ ?_ ?_
    · exact ⟨[], _, _, _, _, _, _, _, by simp, fun m hm => absurd hm (by omega), rfl⟩
    · rintro n sg S' hn ⟨T', v5, v6, v7, v8, v9, v10, v11, rfl, hm, rfl⟩
      refine (kept_body h hc hl n (S ++ T')).mono ?_
      rintro fl S2 ⟨T2, x6, x7, x8, x9, x10, x11, rfl, rfl⟩
      cases hb : okB (ps5 w0 w1 w2 w3 w4 n0 n1 n2 n3 n4) k cs (sgn w0 w1 w2 w3 w4 n) with
      | true =>
        refine ⟨T' ++ T2, _, _, _, _, _, _, _, by rw [List.append_assoc], fun m hm' => ?_, rfl⟩
        rcases Nat.lt_or_eq_of_le (Nat.le_of_lt_succ hm') with g | g
        · exact hm m g
        · rw [g]; exact hb
      | false =>
        refine ⟨T' ++ T2, by rw [List.append_assoc], .inr ⟨rfl, ?_⟩⟩
        refine Bool.eq_false_iff.mpr fun ht => ?_
        have := List.all_eq_true.mp ht n (List.mem_range.mpr hn)
        rw [hb] at this; cases this
    · rintro sg S' ⟨T', v5, v6, v7, v8, v9, v10, v11, rfl, hm, rfl⟩
      exact ⟨T', rfl, .inl ⟨_, rfl, List.all_eq_true.mpr fun m hm' => hm m (List.mem_range.mp hm')⟩⟩
  refine key.mono ?_
  rintro fl S' ⟨T', rfl, ⟨g, rfl, e⟩ | ⟨rfl, e⟩⟩
  · rw [e]
    simp (disch := omega) only [fDef, fRet, fRetN, fSeq, fIfS, fTru, fBoo, fAndT, fOrT, fNotT, fAndV, fOrV, fNotV, fIf, fVar, fC, fCall, fCons, fNil, fBin, fUn, on2, on1, pk, pkW, toD, toW, wD, wsD, gate_true, noX_ok, viewsOf, onA, fCB, startG, finD, fIsi, noX_cond, fNext, fDrop, fSet, fSetM, fTup, fLst, fAsgT, bTup, bAll, bName, List.getElem?_cons_zero, List.getElem?_cons_succ, List.map_cons, List.map_nil, List.length_cons, List.length_nil, List.replicate, Nat.reduceAdd, Nat.reduceSub, Nat.zero_add, Nat.sub_self, List.append_nil, List.cons_append, List.nil_append, List.take_length, decide_true, gate_dec, okD, truD, List.set_cons_zero, List.set_cons_succ, cond_true, cond_false, gLen, gAdd, Dl.gSub, gNeg, gEq_int, gNe_int, gLt, gGt, gLe, gGe, cond_and_d, cond_and_d', cond_or_d, cond_or_t, cond_and_t, cond_id, isInt, isBool, isTup, isStr, isLst, gIx, fNoP, fPart, gList, gTuple, fSeqI, take_app, fComp, fYes, wipeG, atI_0, atI_1, atI_2, atI_3, Bool.and_true, Bool.true_and, Bool.and_false, Bool.false_and, Bool.or_true, Bool.true_or, Bool.or_false, Bool.false_or, Bool.not_true, Bool.not_false, lim, Nat.reduceLeDiff, Nat.reduceLT, cast_beq, Option.map_some, shaped_int, fSetSub, ixN_40, ixN_41, ixN_42, ixN_43, fUpd, get_last, set_last, if_true, if_false, not_lt_self, cutL_toI, cutL_fromI, Bool.true_xor, Bool.false_xor, gAll_map, rngOk_lit, smallI_lit, divOk_lit, Int.cast_ofNat_Int, Int.natCast_zero, Int.natCast_one, Int.reduceToNat, Int.reduceNeg, Int.reduceLE, Int.reduceLT, Int.reduceAdd, Int.reduceSub, Int.reduceMul, Int.reducePow, Nat.reduceMul, Nat.reducePow, Nat.reduceBEq, cast_beqL, cast_bneL, Nat.reduceBeqDiff, Nat.reduceBneDiff, eqv_str, eqv_int, ofString_beq, ofString_bne, String.reduceBEq, String.reduceBNe, shaped_strS, List.any_cons, List.any_nil, flatD, List.all_cons, List.all_nil, fFld, fMeth, fMake, fInit, endI, fSetFld, toWM, wR, fLook, putFW, List.lookup_cons, List.lookup_nil, Option.isNone, dk, putSub, gSub2, gIn2, keyD, fExt, Option.map_some, Option.map_none, Int.reduceBEq, Int.reduceBNe, and_self, decide_false, List.take_succ_cons, List.take_zero, List.drop_succ_cons, List.drop_zero, Int.natAbs_one, gate_and, fChainE, boolR_b, uAppend_ok, uInsert_ok, rangeD_len, ↓bind_bd, bd_ok, W_bd, W_ok, W_noX, drawE, fFor, fRange1, fRange2, fSl, gSl, List.length_append, List.length_map, List.length_reverse, List.length_take, List.length_drop]
  · rw [e]
    simp (disch := omega) only [fDef, fRet, fRetN, fSeq, fIfS, fTru, fBoo, fAndT, fOrT, fNotT, fAndV, fOrV, fNotV, fIf, fVar, fC, fCall, fCons, fNil, fBin, fUn, on2, on1, pk, pkW, toD, toW, wD, wsD, gate_true, noX_ok, viewsOf, onA, fCB, startG, finD, fIsi, noX_cond, fNext, fDrop, fSet, fSetM, fTup, fLst, fAsgT, bTup, bAll, bName, List.getElem?_cons_zero, List.getElem?_cons_succ, List.map_cons, List.map_nil, List.length_cons, List.length_nil, List.replicate, Nat.reduceAdd, Nat.reduceSub, Nat.zero_add, Nat.sub_self, List.append_nil, List.cons_append, List.nil_append, List.take_length, decide_true, gate_dec, okD, truD, List.set_cons_zero, List.set_cons_succ, cond_true, cond_false, gLen, gAdd, Dl.gSub, gNeg, gEq_int, gNe_int, gLt, gGt, gLe, gGe, cond_and_d, cond_and_d', cond_or_d, cond_or_t, cond_and_t, cond_id, isInt, isBool, isTup, isStr, isLst, gIx, fNoP, fPart, gList, gTuple, fSeqI, take_app, fComp, fYes, wipeG, atI_0, atI_1, atI_2, atI_3, Bool.and_true, Bool.true_and, Bool.and_false, Bool.false_and, Bool.or_true, Bool.true_or, Bool.or_false, Bool.false_or, Bool.not_true, Bool.not_false, lim, Nat.reduceLeDiff, Nat.reduceLT, cast_beq, Option.map_some, shaped_int, fSetSub, ixN_40, ixN_41, ixN_42, ixN_43, fUpd, get_last, set_last, if_true, if_false, not_lt_self, cutL_toI, cutL_fromI, Bool.true_xor, Bool.false_xor, gAll_map, rngOk_lit, smallI_lit, divOk_lit, Int.cast_ofNat_Int, Int.natCast_zero, Int.natCast_one, Int.reduceToNat, Int.reduceNeg, Int.reduceLE, Int.reduceLT, Int.reduceAdd, Int.reduceSub, Int.reduceMul, Int.reducePow, Nat.reduceMul, Nat.reducePow, Nat.reduceBEq, cast_beqL, cast_bneL, Nat.reduceBeqDiff, Nat.reduceBneDiff, eqv_str, eqv_int, ofString_beq, ofString_bne, String.reduceBEq, String.reduceBNe, shaped_strS, List.any_cons, List.any_nil, flatD, List.all_cons, List.all_nil, fFld, fMeth, fMake, fInit, endI, fSetFld, toWM, wR, fLook, putFW, List.lookup_cons, List.lookup_nil, Option.isNone, dk, putSub, gSub2, gIn2, keyD, fExt, Option.map_some, Option.map_none, Int.reduceBEq, Int.reduceBNe, and_self, decide_false, List.take_succ_cons, List.take_zero, List.drop_succ_cons, List.drop_zero, Int.natAbs_one, gate_and, fChainE, boolR_b, uAppend_ok, uInsert_ok, rangeD_len, ↓bind_bd, bd_ok, W_bd, W_ok, W_noX, drawE, fFor, fRange1, fRange2, fSl, gSl, List.length_append, List.length_map, List.length_reverse, List.length_take, List.length_drop]
end
end K25
set_option maxHeartbeats 1000000
namespace K25
open PySem L2 Dl
section
variable {w0 w1 w2 w3 w4 : Int}
theorem bits_ex (b0 b1 b2 b3 b4 : Bool) : ∃ n, n < 32 ∧ bt (0 + (n : Nat)) 1 = b0 ∧ bt (0 + (n : Nat)) 2 = b1 ∧ bt (0 + (n : Nat)) 4 = b2 ∧ bt (0 + (n : Nat)) 8 = b3 ∧ bt (0 + (n : Nat)) 16 = b4 := by
  refine ⟨b0.toNat + 2 * b1.toNat + 4 * b2.toNat + 8 * b3.toNat + 16 * b4.toNat, ?_⟩
  cases b0 <;> cases b1 <;> cases b2 <;> cases b3 <;> cases b4 <;> decide
theorem filt_congr {s t : Int → Bool} : ∀ {ps : List (Int × Int)}, (∀ p ∈ ps, s p.1 = t p.1) → (ps.filter fun p => s p.1) = ps.filter fun p => t p.1
  | [], _ => rfl
  | p :: ps, h => by
    rw [List.filter_cons, List.filter_cons, h p (by simp), filt_congr (ps := ps) fun q hq => h q (by simp [hq])]
theorem hold_congr {s t : Int → Bool} : ∀ {ls : List Lit}, (∀ l ∈ ls, s l.1 = t l.1) → holdB s ls = holdB t ls
  | [], _ => rfl
  | l :: ls, h => by
    have ih := hold_congr (ls := ls) fun q hq => h q (by simp [hq])
    unfold holdB at *
    rw [List.any_cons, List.any_cons, h l (by simp), ih]
theorem all_congr {s t : Int → Bool} : ∀ {cs : List (List Lit)}, (∀ ls ∈ cs, ∀ l ∈ ls, s l.1 = t l.1) → cs.all (holdB s) = cs.all (holdB t)
  | [], _ => rfl
  | l :: ls, h => by
    rw [List.all_cons, List.all_cons, hold_congr (h l (by simp)), all_congr (cs := ls) fun q hq => h q (by simp [hq])]
theorem asg_eq (h : Ds w0 w1 w2 w3 w4) (s : Int → Bool) {w : Int} (hw : w ∈ [w0, w1, w2, w3, w4]) : asg w0 w1 w2 w3 w4 (s w0) (s w1) (s w2) (s w3) (s w4) w = s w := by
  simp only [List.mem_cons, List.not_mem_nil, or_false] at hw
  unfold asg
  by_cases e0 : w = w0
  · rw [if_pos e0, e0]
  rw [if_neg e0]
  by_cases e1 : w = w1
  · rw [if_pos e1, e1]
  rw [if_neg e1]
  by_cases e2 : w = w2
  · rw [if_pos e2, e2]
  rw [if_neg e2]
  by_cases e3 : w = w3
  · rw [if_pos e3, e3]
  rw [if_neg e3]
  have e4 : w = w4 := by
    rcases hw with e | e | e | e | e
    · exact absurd e e0
    · exact absurd e e1
    · exact absurd e e2
    · exact absurd e e3
    · exact e
  rw [e4]
theorem kept_false {n0 n1 n2 n3 n4 k : Int} (h : Ds w0 w1 w2 w3 w4) {cs : List (List Lit)} (hc : ∀ ls ∈ cs, ls.length ≤ 20 ∧ ∀ l ∈ ls, l.1 ∈ [w0, w1, w2, w3, w4]) (s : Int → Bool) (hs : okB (ps5 w0 w1 w2 w3 w4 n0 n1 n2 n3 n4) k cs s = false) :
    keptB w0 w1 w2 w3 w4 n0 n1 n2 n3 n4 k cs = false := by
  refine Bool.eq_false_iff.mpr fun ht => ?_
  obtain ⟨n, hn, e0, e1, e2, e3, e4⟩ := bits_ex (s w0) (s w1) (s w2) (s w3) (s w4)
  have q := List.all_eq_true.mp ht n (List.mem_range.mpr hn)
  have g : ∀ w ∈ [w0, w1, w2, w3, w4], sgn w0 w1 w2 w3 w4 n w = s w := fun w hw => by
    unfold sgn
    rw [e0, e1, e2, e3, e4]
    exact asg_eq h s hw
  have e : okB (ps5 w0 w1 w2 w3 w4 n0 n1 n2 n3 n4) k cs (sgn w0 w1 w2 w3 w4 n) = okB (ps5 w0 w1 w2 w3 w4 n0 n1 n2 n3 n4) k cs s := by
    unfold okB totB
    rw [filt_congr fun p hp => g _ (ps_mem p hp), all_congr fun ls hls l hl => g _ ((hc ls hls).2 l hl)]
  rw [e, hs] at q
  cases q
theorem kept_true {n0 n1 n2 n3 n4 k : Int} {cs : List (List Lit)} (hs : ∀ s : Int → Bool, okB (ps5 w0 w1 w2 w3 w4 n0 n1 n2 n3 n4) k cs s = true) :
    keptB w0 w1 w2 w3 w4 n0 n1 n2 n3 n4 k cs = true := List.all_eq_true.mpr fun n _ => hs _
end
theorem perm_sum {f : Int → Int} {a b : List Int} (h : a.Perm b) : (a.map f).sum = (b.map f).sum := by
  induction h with
  | nil => rfl
  | cons x _ ih => simp only [List.map_cons, List.sum_cons, ih]
  | swap x y l => simp only [List.map_cons, List.sum_cons]; omega
  | trans _ _ ih1 ih2 => exact ih1.trans ih2
theorem filt_sum (s : Int → Bool) (tbl : Int → Int) : ∀ l : List Int, ((((l.map fun w => (w, tbl w)).filter fun p => s p.1).map (·.2)).sum) = (l.map fun w => if s w then tbl w else 0).sum
  | [] => rfl
  | w :: l => by
    have ih := filt_sum s tbl l
    simp only [List.map_cons, List.filter_cons, List.sum_cons, ← ih]
    cases s w <;> simp
/-- the numbers of the five wires: outs d e, ins a b c -/
def nums (k : Bool) : Int × Int × Int × Int × Int := cond k (1, 2, -1, -1, -1) (1, -2, -1, 1, 1)
def tbl (d e a b c : Int) (k : Bool) (w : Int) : Int := if w = d then (nums k).1 else if w = e then (nums k).2.1 else if w = a then (nums k).2.2.1 else if w = b then (nums k).2.2.2.1 else (nums k).2.2.2.2
/-- five unlike -/
def Df (d e a b c : Int) : Prop := d ≠ e ∧ d ≠ a ∧ d ≠ b ∧ d ≠ c ∧ e ≠ a ∧ e ≠ b ∧ e ≠ c ∧ a ≠ b ∧ a ≠ c ∧ b ≠ c
def total (k : Bool) (D E A B C : Bool) : Int := (if D then (nums k).1 else 0) + ((if E then (nums k).2.1 else 0) + ((if A then (nums k).2.2.1 else 0) + ((if B then (nums k).2.2.2.1 else 0) + ((if C then (nums k).2.2.2.2 else 0) + 0))))
theorem tot5 {d e a b c : Int} (h : Df d e a b c) (k : Bool) (s : Int → Bool) : ([d, e, a, b, c].map fun w => if s w then tbl d e a b c k w else 0).sum = total k (s d) (s e) (s a) (s b) (s c) := by
  obtain ⟨h1, h2, h3, h4, h5, h6, h7, h8, h9, h0⟩ := h
  simp only [List.map_cons, List.map_nil, List.sum_cons, List.sum_nil, total, tbl, if_true, h1.symm, h2.symm, h3.symm, h4.symm, h5.symm, h6.symm, h7.symm, h8.symm, h9.symm, h0.symm, if_false]
def anyB (xs : List (Bool × Bool)) : Bool := xs.any fun x => x.1 == x.2
def valsL (k : Bool) (D E A B C : Bool) : List Bool := rows8.flatMap fun r => [anyB [(A, r.1 == 0), (B, r.2.1 == 0), (C, r.2.2 == 0), (D, (tb k r).1 == 1)], anyB [(A, r.1 == 0), (B, r.2.1 == 0), (C, r.2.2 == 0), (E, (tb k r).2 == 1)]]
theorem t1 : ∀ k D E A B C, (valsL k D E A B C).all id = true → total k D E A B C = 0 := by decide +kernel
theorem t2 : ∀ k, ∀ i < 16, ∃ D E A B C, ((valsL k D E A B C).take i ++ (valsL k D E A B C).drop (i + 1)).all id = true ∧ total k D E A B C ≠ 0 := by decide +kernel
theorem t3 : ∀ k, ∀ i < 5, ∃ D E A B C, (valsL k D E A B C).all id = true ∧ [D, E, A, B, C].getD i false = true := by decide +kernel
theorem t4 : ∀ k, (valsL k false false false false false).all id = true := by decide +kernel
theorem vals_ev {a b c d e : Int} (k : Bool) (s : Int → Bool) : (wantsL a b c d e k).map (holdB s) = valsL k (s d) (s e) (s a) (s b) (s c) := rfl
theorem all_id (s : Int → Bool) (cs : List (List Lit)) : cs.all (holdB s) = (cs.map (holdB s)).all id := by rw [List.all_map]; rfl
/-- the signs of the five -/
def sg5 (d e a b c : Int) (D E A B C : Bool) (w : Int) : Bool := if w = d then D else if w = e then E else if w = a then A else if w = b then B else C
theorem sg5_ev {d e a b c : Int} (h : Df d e a b c) (D E A B C : Bool) : sg5 d e a b c D E A B C d = D ∧ sg5 d e a b c D E A B C e = E ∧ sg5 d e a b c D E A B C a = A ∧ sg5 d e a b c D E A B C b = B ∧ sg5 d e a b c D E A B C c = C := by
  obtain ⟨h1, h2, h3, h4, h5, h6, h7, h8, h9, h0⟩ := h
  simp only [sg5, if_true, h1.symm, h2.symm, h3.symm, h4.symm, h5.symm, h6.symm, h7.symm, h8.symm, h9.symm, h0.symm, if_false, and_self]
section
variable {w0 w1 w2 w3 w4 d e a b c : Int} {k : Bool}
theorem totE (hf : Df d e a b c) (hp : [w0, w1, w2, w3, w4].Perm [d, e, a, b, c]) (s : Int → Bool) : (((ps5 w0 w1 w2 w3 w4 (tbl d e a b c k w0) (tbl d e a b c k w1) (tbl d e a b c k w2) (tbl d e a b c k w3) (tbl d e a b c k w4)).filter fun p => s p.1).map (·.2)).sum = total k (s d) (s e) (s a) (s b) (s c) := by
  rw [← tot5 hf k s, ← perm_sum hp, ← filt_sum s]
  rfl
theorem wants_in (hp : [w0, w1, w2, w3, w4].Perm [d, e, a, b, c]) : ∀ ls ∈ wantsL a b c d e k, ls.length ≤ 20 ∧ ∀ l ∈ ls, l.1 ∈ [w0, w1, w2, w3, w4] := by
  intro ls hls
  simp only [wantsL, List.mem_flatMap, cls2, List.mem_cons, List.not_mem_nil, or_false] at hls
  obtain ⟨r, _, rfl | rfl⟩ := hls
  · refine ⟨by simp, fun l hl => hp.mem_iff.mpr ?_⟩
    simp only [List.mem_cons, List.not_mem_nil, or_false] at hl
    rcases hl with rfl | rfl | rfl | rfl <;> simp
  · refine ⟨by simp, fun l hl => hp.mem_iff.mpr ?_⟩
    simp only [List.mem_cons, List.not_mem_nil, or_false] at hl
    rcases hl with rfl | rfl | rfl | rfl <;> simp
theorem K1 (hf : Df d e a b c) (hp : [w0, w1, w2, w3, w4].Perm [d, e, a, b, c]) : keptB w0 w1 w2 w3 w4 (tbl d e a b c k w0) (tbl d e a b c k w1) (tbl d e a b c k w2) (tbl d e a b c k w3) (tbl d e a b c k w4) 0 (wantsL a b c d e k) = true := by
  refine kept_true fun s => ?_
  unfold okB totB
  rw [totE hf hp, all_id, vals_ev]
  cases h : (valsL k (s d) (s e) (s a) (s b) (s c)).all id with
  | false => simp
  | true => rw [t1 _ _ _ _ _ _ h]; rfl
theorem K2 (h : Ds w0 w1 w2 w3 w4) (hf : Df d e a b c) (hp : [w0, w1, w2, w3, w4].Perm [d, e, a, b, c]) {i : Nat} (hi : i < 16) : keptB w0 w1 w2 w3 w4 (tbl d e a b c k w0) (tbl d e a b c k w1) (tbl d e a b c k w2) (tbl d e a b c k w3) (tbl d e a b c k w4) 0 ((wantsL a b c d e k).take i ++ (wantsL a b c d e k).drop (i + 1)) = false := by
  obtain ⟨D, E, A, B, C, g1, g2⟩ := t2 k i hi
  obtain ⟨s1, s2, s3, s4, s5⟩ := sg5_ev hf D E A B C
  refine kept_false h (fun ls hls => ?_) (sg5 d e a b c D E A B C) ?_
  · rcases List.mem_append.mp hls with q | q
    · exact wants_in hp ls (List.mem_of_mem_take q)
    · exact wants_in hp ls (List.mem_of_mem_drop q)
  · unfold okB totB
    rw [totE hf hp, all_id, List.map_append, List.map_take, List.map_drop, vals_ev, s1, s2, s3, s4, s5, g1]
    simp [g2]
theorem K4 (h : Ds w0 w1 w2 w3 w4) (hf : Df d e a b c) (hp : [w0, w1, w2, w3, w4].Perm [d, e, a, b, c]) : keptB w0 w1 w2 w3 w4 (tbl d e a b c k w0) (tbl d e a b c k w1) (tbl d e a b c k w2) (tbl d e a b c k w3) (tbl d e a b c k w4) 1 (wantsL a b c d e k) = false := by
  obtain ⟨s1, s2, s3, s4, s5⟩ := sg5_ev hf false false false false false
  refine kept_false h (wants_in hp) (sg5 d e a b c false false false false false) ?_
  unfold okB totB
  rw [totE hf hp, all_id, vals_ev, s1, s2, s3, s4, s5, t4]
  cases k <;> rfl
/-- a row that fits where a wire is yes -/
theorem fit_yes (hf : Df d e a b c) {w : Int} (hw : w ∈ [d, e, a, b, c]) : ∃ s : Int → Bool, (wantsL a b c d e k).all (holdB s) = true ∧ total k (s d) (s e) (s a) (s b) (s c) = 0 ∧ s w = true := by
  have go : ∀ i < 5, [d, e, a, b, c].getD i 0 = w → ∃ s : Int → Bool, (wantsL a b c d e k).all (holdB s) = true ∧ total k (s d) (s e) (s a) (s b) (s c) = 0 ∧ s w = true := by
    intro i hi e1
    obtain ⟨D, E, A, B, C, g1, g2⟩ := t3 k i hi
    obtain ⟨s1, s2, s3, s4, s5⟩ := sg5_ev hf D E A B C
    refine ⟨sg5 d e a b c D E A B C, ?_, ?_, ?_⟩
    · rw [all_id, vals_ev, s1, s2, s3, s4, s5, g1]
    · rw [s1, s2, s3, s4, s5]; exact t1 _ _ _ _ _ _ g1
    · have h5 : i = 0 ∨ i = 1 ∨ i = 2 ∨ i = 3 ∨ i = 4 := by omega
      rcases h5 with rfl | rfl | rfl | rfl | rfl <;> subst e1
      · exact s1.trans g2
      · exact s2.trans g2
      · exact s3.trans g2
      · exact s4.trans g2
      · exact s5.trans g2
  simp only [List.mem_cons, List.not_mem_nil, or_false] at hw
  rcases hw with e1 | e1 | e1 | e1 | e1
  · exact go 0 (by omega) e1.symm
  · exact go 1 (by omega) e1.symm
  · exact go 2 (by omega) e1.symm
  · exact go 3 (by omega) e1.symm
  · exact go 4 (by omega) e1.symm
def upd5 (n0 n1 n2 n3 n4 : Int) (j : Nat) (r : Int) : Int × Int × Int × Int × Int := match j with
  | 0 => (n0 + 1 + r, n1, n2, n3, n4)
  | 1 => (n0, n1 + 1 + r, n2, n3, n4)
  | 2 => (n0, n1, n2 + 1 + r, n3, n4)
  | 3 => (n0, n1, n2, n3 + 1 + r, n4)
  | _ => (n0, n1, n2, n3, n4 + 1 + r)
theorem cs_sum (p : Int × Int) (ps : List (Int × Int)) (s : Int → Bool) : ((((p :: ps).filter fun p => s p.1).map (·.2)).sum) = (if s p.1 then p.2 else 0) + ((ps.filter fun p => s p.1).map (·.2)).sum := by
  rw [List.filter_cons]
  cases s p.1 <;> simp
theorem K3 (h : Ds w0 w1 w2 w3 w4) (hf : Df d e a b c) (hp : [w0, w1, w2, w3, w4].Perm [d, e, a, b, c]) {r : Int} (hr : 0 ≤ r) {j : Nat} (hj : j < 5) {n : Int × Int × Int × Int × Int} (hn : n = upd5 (tbl d e a b c k w0) (tbl d e a b c k w1) (tbl d e a b c k w2) (tbl d e a b c k w3) (tbl d e a b c k w4) j r) : keptB w0 w1 w2 w3 w4 n.1 n.2.1 n.2.2.1 n.2.2.2.1 n.2.2.2.2 0 (wantsL a b c d e k) = false := by
  have hw : [w0, w1, w2, w3, w4].getD j 0 ∈ [d, e, a, b, c] := hp.mem_iff.mp (by
    have h5 : j = 0 ∨ j = 1 ∨ j = 2 ∨ j = 3 ∨ j = 4 := by omega
    rcases h5 with rfl | rfl | rfl | rfl | rfl <;> simp)
  obtain ⟨s, g1, g2, g3⟩ := fit_yes (k := k) hf hw
  refine kept_false h (wants_in hp) s ?_
  have t := totE (k := k) hf hp s
  rw [g2] at t
  unfold okB totB
  rw [g1]
  subst hn
  simp only [ps5, cs_sum] at t ⊢
  have h5 : j = 0 ∨ j = 1 ∨ j = 2 ∨ j = 3 ∨ j = 4 := by omega
  have key : ∀ x : Int, x = 1 + r → ((0 + x == 0) || !true) = false := fun x hx => by subst hx; simp; omega
  rcases h5 with rfl | rfl | rfl | rfl | rfl
  all_goals
    have g3' := g3
    simp only [List.getD_cons_zero, List.getD_cons_succ] at g3'
    refine key _ ?_
    simp only [upd5, g3', if_true] at t ⊢
    omega
end
end K25
set_option maxHeartbeats 1000000
namespace K25
open PySem L2 Dl
theorem shufP_loop (T : Sto) (y : Option Wv) : ∀ (items acc : List D) (c : Cell) (x3 : Option Wv), StOk c → acc.length + items.length ≤ 1000 →
    ∃ acc' c' y3, StOk c' ∧ acc'.Perm (acc ++ items) ∧
     forL (bName 3) (fUpd uInsert (fVar 2) (fCons (fCall 2 dlDraw (fCons (fVar 0) (fCons (xAdd (fCB gLen (fCons (fVar 2) (fNil))) (fC (.int 1))) (fNil)))) (fCons (fVar 3) fNil))) items [some (.ref 0), y, some (.ref (T.length + 1)), x3] (c :: (T ++ [.lst acc]))
      = .ok (.nx [some (.ref 0), y, some (.ref (T.length + 1)), y3]) (c' :: (T ++ [.lst acc']))
  | [], acc, c, x3, hc, hl => ⟨acc, c, x3, hc, by simp, rfl⟩
  | x :: items, acc, c, x3, hc, hl => by
    simp only [List.length_cons] at hl
    obtain ⟨r, c1, hc1, h2, h3, e⟩ := draw_ev (most := (acc.length : Int) + 1) (T ++ [.lst acc]) hc (by omega) (by omega)
    have hr : acc.length < 1000000 ∧ 0 ≤ r ∧ r.natAbs ≤ 1000000 := ⟨by omega, h2, by omega⟩
    obtain ⟨acc', c', y3, hc', hp, e'⟩ := shufP_loop T y items (acc.take r.toNat ++ [x] ++ acc.drop r.toNat) c1 (some (.d x)) hc1 (by simp; omega)
    refine ⟨acc', c', y3, hc', hp.trans ?_, ?_⟩
    · have h1 : (acc.take r.toNat ++ [x] ++ acc.drop r.toNat).Perm (acc ++ [x]) := by
        have h0 : (acc.take r.toNat ++ [x] ++ acc.drop r.toNat).Perm (acc.take r.toNat ++ (acc.drop r.toNat ++ [x])) := by
          rw [List.append_assoc]
          exact List.Perm.append_left _ List.perm_append_comm
        rw [← List.append_assoc, List.take_append_drop] at h0
        exact h0
      have := h1.append_right items
      simpa using this
    · simp only [forL, bName]
      simp only [fDef, fRet, fRetN, fSeq, fIfS, fTru, fBoo, fAndT, fOrT, fNotT, fAndV, fOrV, fNotV, fIf, fVar, fC, fCall, fCons, fNil, fBin, fUn, on2, on1, pk, pkW, toD, toW, wD, wsD, gate_true, noX_ok, viewsOf, onA, fCB, startG, finD, fIsi, noX_cond, fNext, fDrop, fSet, fSetM, fTup, fLst, fAsgT, bTup, bAll, bName, List.getElem?_cons_zero, List.getElem?_cons_succ, List.map_cons, List.map_nil, List.length_cons, List.length_nil, List.replicate, Nat.reduceAdd, Nat.reduceSub, Nat.zero_add, Nat.sub_self, List.append_nil, List.cons_append, List.nil_append, List.take_length, decide_true, gate_dec, okD, truD, List.set_cons_zero, List.set_cons_succ, cond_true, cond_false, gLen, gAdd, Dl.gSub, gNeg, gEq_int, gNe_int, gLt, gGt, gLe, gGe, cond_and_d, cond_and_d', cond_or_d, cond_or_t, cond_and_t, cond_id, isInt, isBool, isTup, isStr, isLst, gIx, fNoP, fPart, fChain, gList, gTuple, fSeqI, take_app, fComp, fYes, wipeG, atI_0, atI_1, atI_2, atI_3, Bool.and_true, Bool.true_and, Bool.and_false, Bool.false_and, Bool.or_true, Bool.true_or, Bool.or_false, Bool.false_or, Bool.not_true, Bool.not_false, lim, Nat.reduceLeDiff, Nat.reduceLT, cast_beq, Option.map_some, shaped_int, fSetSub, ixN_40, ixN_41, ixN_42, ixN_43, fUpd, uAppend, get_last, set_last, if_true, if_false, not_lt_self, cutL_toI, cutL_fromI, Bool.true_xor, Bool.false_xor, gAll_map, rngOk_lit, smallI_lit, divOk_lit, Int.cast_ofNat_Int, Int.natCast_zero, Int.natCast_one, Int.reduceToNat, Int.reduceNeg, Int.reduceLE, Int.reduceLT, Int.reduceAdd, Int.reduceSub, Int.reduceMul, Int.reducePow, Nat.reduceMul, Nat.reducePow, Nat.reduceBEq, cast_beqL, cast_bneL, Nat.reduceBeqDiff, Nat.reduceBneDiff, eqv_str, eqv_int, ofString_beq, ofString_bne, String.reduceBEq, String.reduceBNe, shaped_strS, List.any_cons, List.any_nil, flatD, List.all_cons, List.all_nil, fFld, fMeth, fMake, fInit, endI, fSetFld, toWM, wR, fLook, putFW, List.lookup_cons, List.lookup_nil, Option.isNone, dk, putSub, gSub2, gIn2, keyD, fExt, Option.map_some, Option.map_none, Int.reduceBEq, Int.reduceBNe, and_self, decide_false, List.take_succ_cons, List.take_zero, List.drop_succ_cons, List.drop_zero, Int.natAbs_one, ↓bind_bd, bd_ok, bd_cond, e, uInsert, hr]
      exact e'
theorem W_shufP {c : Cell} {xs : List D} {T : Sto} {p : R → Sto → Prop} (hc : StOk c) (h1 : xs.length ≤ 1000) (h : ∀ ys c', StOk c' → ys.Perm xs → p (.new ys) (c' :: T)) :
    W (dlShuf [.ref 0, .d (.list xs)] (c :: T)) p := by
  obtain ⟨ys, c', y3, hc', hl, e⟩ := shufP_loop T (some (.d (.list xs))) xs [] c none hc (by simpa using h1)
  refine .of ?_ (h ys c' hc' (by simpa using hl))
  unfold dlShuf
  simp only [fDef, fRet, fRetN, fSeq, fIfS, fTru, fBoo, fAndT, fOrT, fNotT, fAndV, fOrV, fNotV, fIf, fVar, fC, fCall, fCons, fNil, fBin, fUn, on2, on1, pk, pkW, toD, toW, wD, wsD, gate_true, noX_ok, viewsOf, onA, fCB, startG, finD, fIsi, noX_cond, fNext, fDrop, fSet, fSetM, fTup, fLst, fAsgT, bTup, bAll, bName, List.getElem?_cons_zero, List.getElem?_cons_succ, List.map_cons, List.map_nil, List.length_cons, List.length_nil, List.replicate, Nat.reduceAdd, Nat.reduceSub, Nat.zero_add, Nat.sub_self, List.append_nil, List.cons_append, List.nil_append, List.take_length, decide_true, gate_dec, okD, truD, List.set_cons_zero, List.set_cons_succ, cond_true, cond_false, gLen, gAdd, Dl.gSub, gNeg, gEq_int, gNe_int, gLt, gGt, gLe, gGe, cond_and_d, cond_and_d', cond_or_d, cond_or_t, cond_and_t, cond_id, isInt, isBool, isTup, isStr, isLst, gIx, fNoP, fPart, fChain, gList, gTuple, fSeqI, take_app, fComp, fYes, wipeG, atI_0, atI_1, atI_2, atI_3, Bool.and_true, Bool.true_and, Bool.and_false, Bool.false_and, Bool.or_true, Bool.true_or, Bool.or_false, Bool.false_or, Bool.not_true, Bool.not_false, lim, Nat.reduceLeDiff, Nat.reduceLT, cast_beq, Option.map_some, shaped_int, fSetSub, ixN_40, ixN_41, ixN_42, ixN_43, fUpd, uAppend, get_last, set_last, if_true, if_false, not_lt_self, cutL_toI, cutL_fromI, Bool.true_xor, Bool.false_xor, gAll_map, rngOk_lit, smallI_lit, divOk_lit, Int.cast_ofNat_Int, Int.natCast_zero, Int.natCast_one, Int.reduceToNat, Int.reduceNeg, Int.reduceLE, Int.reduceLT, Int.reduceAdd, Int.reduceSub, Int.reduceMul, Int.reducePow, Nat.reduceMul, Nat.reducePow, Nat.reduceBEq, cast_beqL, cast_bneL, Nat.reduceBeqDiff, Nat.reduceBneDiff, eqv_str, eqv_int, ofString_beq, ofString_bne, String.reduceBEq, String.reduceBNe, shaped_strS, List.any_cons, List.any_nil, flatD, List.all_cons, List.all_nil, fFld, fMeth, fMake, fInit, endI, fSetFld, toWM, wR, fLook, putFW, List.lookup_cons, List.lookup_nil, Option.isNone, dk, putSub, gSub2, gIn2, keyD, fExt, Option.map_some, Option.map_none, Int.reduceBEq, Int.reduceBNe, and_self, decide_false, List.take_succ_cons, List.take_zero, List.drop_succ_cons, List.drop_zero, Int.natAbs_one, ↓bind_bd, bd_ok, bd_cond, fFor, e]
theorem sortI_perm (xs : List Int) : (sortI xs).Perm xs := sortB_perm leI xs
theorem sortI_lt {xs : List Int} (h : xs.Nodup) : (sortI xs).Pairwise (· < ·) := by
  have h1 : (sortI xs).Pairwise (fun a b => leI a b = true) := sortB_pw (fun a b c h1 h2 => by simp only [leI, decide_eq_true_eq] at *; omega) (fun a b h => by simp only [leI, decide_eq_true_eq, decide_eq_false_iff_not] at *; omega) xs
  have h2 : (sortI xs).Nodup := (sortI_perm xs).nodup_iff.mpr h
  exact (h1.and h2).imp fun {a b} h => by
    have := h.1
    have n := h.2
    simp only [leI, decide_eq_true_eq] at this
    omega
def toI : D → Int
  | .int i => i
  | _ => 0
/-- the wires of a slice -/
structure Sl (d e a b c w0 w1 w2 w3 w4 : Int) : Prop where
  df : Df d e a b c
  perm : [w0, w1, w2, w3, w4].Perm [d, e, a, b, c]
  ds : Ds w0 w1 w2 w3 w4
  le : w4 ≤ 11
  srt : sortI [d, e, a, b, c] = [w0, w1, w2, w3, w4]
  asc : sortU [d, e, a, b, c] = [w0, w1, w2, w3, w4]
  asc2 : sortU [w0, w1, w2, w3, w4] = [w0, w1, w2, w3, w4]
theorem sl_of {ys : List D} (h : ys.Perm ([1, 2, 3, 4, 5, 6, 7, 8, 9, 10, 11].map PyData.int)) : ∃ d e a b c w0 w1 w2 w3 w4 r, ys = .int d :: .int e :: .int a :: .int b :: .int c :: r ∧ Sl d e a b c w0 w1 w2 w3 w4 := by
  have e1 : ys = (ys.map toI).map PyData.int := by
    rw [List.map_map]
    have : ∀ y ∈ ys, (PyData.int ∘ toI) y = y := fun y hy => by
      obtain ⟨i, _, rfl⟩ := List.mem_map.mp (h.mem_iff.mp hy)
      rfl
    exact ((List.map_congr_left (g := fun y => y) this).trans (List.map_id' ys)).symm
  have e2 : (ys.map toI).Perm [1, 2, 3, 4, 5, 6, 7, 8, 9, 10, 11] := by
    have := h.map toI
    rw [List.map_map] at this
    exact this
  generalize ys.map toI = zs at *
  subst e1
  have hl := e2.length_eq
  have hn : zs.Nodup := e2.nodup_iff.mpr (by decide)
  have hm : ∀ z ∈ zs, 1 ≤ z ∧ z ≤ 11 := fun z hz => by
    have := e2.mem_iff.mp hz
    simp only [List.mem_cons, List.not_mem_nil, or_false] at this
    omega
  match zs, hl, hn, hm with
  | d :: e :: a :: b :: c :: r, hl, hn, hm =>
    have hn5 : [d, e, a, b, c].Nodup := by
      have : (d :: e :: a :: b :: c :: r) = [d, e, a, b, c] ++ r := rfl
      rw [this] at hn
      exact (List.nodup_append.mp hn).1
    have hp := sortI_perm [d, e, a, b, c]
    have hs := sortI_lt hn5
    have hl5 := hp.length_eq
    generalize hW : sortI [d, e, a, b, c] = W at *
    match W, hl5, hs, hp, hW with
    | [w0, w1, w2, w3, w4], _, hs, hp, hW =>
      have hw : ∀ w ∈ [w0, w1, w2, w3, w4], 1 ≤ w ∧ w ≤ 11 := fun w hw => hm w (by
        have := hp.mem_iff.mp hw
        simp only [List.mem_cons, List.not_mem_nil, or_false] at this ⊢
        rcases this with q | q | q | q | q <;> simp [q])
      have u : ∀ xs : List Int, (∀ z, z ∈ xs ↔ z ∈ [w0, w1, w2, w3, w4]) → sortU xs = [w0, w1, w2, w3, w4] := fun xs hx => incr_one (sortU_pw xs) hs fun z => (sortU_mem z xs).trans (hx z)
      refine ⟨d, e, a, b, c, w0, w1, w2, w3, w4, r.map PyData.int, rfl, ?_, hp, ?_, (hw w4 (by simp)).2, hW, u _ fun z => (hp.mem_iff).symm, u _ fun z => Iff.rfl⟩
      · simp only [List.nodup_cons, List.mem_cons, List.not_mem_nil, or_false, not_or] at hn5
        unfold Df
        obtain ⟨⟨p1, p2, p3, p4⟩, ⟨p5, p6, p7⟩, ⟨p8, p9⟩, p0, _⟩ := hn5
        exact ⟨p1, p2, p3, p4, p5, p6, p7, p8, p9, p0⟩
      · simp only [List.pairwise_cons, List.mem_cons, List.not_mem_nil, or_false, forall_eq_or_imp, forall_eq] at hs
        have := hw w0 (by simp)
        unfold Ds
        omega
def kvT (d e a b c n0 n1 n2 n3 n4 : Int) : List (Key × D) := [(.inl d, .int n0), (.inl e, .int n1), (.inl a, .int n2), (.inl b, .int n3), (.inl c, .int n4)]
def kvN (d e a b c : Int) (k : Bool) : List (Key × D) := kvT d e a b c (nums k).1 (nums k).2.1 (nums k).2.2.1 (nums k).2.2.2.1 (nums k).2.2.2.2
theorem putT {d e a b c n0 n1 n2 n3 n4 : Int} (h : Df d e a b c) : dPut (dPut (dPut (dPut (dPut ([] : List (Key × D)) (.inl d) (.int n0)) (.inl e) (.int n1)) (.inl a) (.int n2)) (.inl b) (.int n3)) (.inl c) (.int n4) = kvT d e a b c n0 n1 n2 n3 n4 := by
  obtain ⟨h1, h2, h3, h4, h5, h6, h7, h8, h9, h0⟩ := h
  simp [dPut, kvT, h1, h2, h3, h4, h5, h6, h7, h8, h9, h0]
theorem getT {d e a b c : Int} {k : Bool} (h : Df d e a b c) {w : Int} (hw : w ∈ [d, e, a, b, c]) : dGet (kvN d e a b c k) (.inl w) = some (.int (tbl d e a b c k w)) := by
  obtain ⟨h1, h2, h3, h4, h5, h6, h7, h8, h9, h0⟩ := h
  simp only [List.mem_cons, List.not_mem_nil, or_false] at hw
  rcases hw with rfl | rfl | rfl | rfl | rfl <;> simp [dGet, kvN, kvT, tbl, h1, h2, h3, h4, h5, h6, h7, h8, h9, h0, h1.symm, h2.symm, h3.symm, h4.symm, h5.symm, h6.symm, h7.symm, h8.symm, h9.symm, h0.symm]
def dueD (d e a b c w0 w1 w2 w3 w4 : Int) (k : Bool) : D := .tuple [wD5 w0 w1 w2 w3 w4, wD5 (tbl d e a b c k w0) (tbl d e a b c k w1) (tbl d e a b c k w2) (tbl d e a b c k w3) (tbl d e a b c k w4), .int 0]
end K25
set_option maxHeartbeats 1000000
namespace K25
open PySem L2 Dl
theorem ix5_0 {x0 x1 x2 x3 x4 : D} : L2.atI [x0, x1, x2, x3, x4] (3 : Int) = some x3 := rfl
theorem ix5_4 {x0 x1 x2 x3 x4 : D} : L2.atI [x0, x1, x2, x3, x4] (4 : Int) = some x4 := rfl
theorem rg5 : rangeD 0 5 = [.int 0, .int 1, .int 2, .int 3, .int 4] := rfl
theorem rg112 : rangeD 1 11 = [1, 2, 3, 4, 5, 6, 7, 8, 9, 10, 11].map PyData.int := rfl
theorem intsOf5 {d e a b c : Int} : intsOf [.int d, .int e, .int a, .int b, .int c] = some [d, e, a, b, c] := intsOf_map [d, e, a, b, c]
theorem numsD (S : Sto) (k : Bool) : gSub2 S (.newd [(.inr "full", .list [.int 1, .int 2, .int (-1), .int (-1), .int (-1)]), (.inr "borrow", .list [.int 1, .int (-2), .int (-1), .int 1, .int 1])]) (.d (.str (kd k))) = .ok (.d (.list [.int (nums k).1, .int (nums k).2.1, .int (nums k).2.2.1, .int (nums k).2.2.2.1, .int (nums k).2.2.2.2])) S := by cases k <;> rfl
theorem numsG (k : Bool) : dGet ([(.inr "full", .list [.int 1, .int 2, .int (-1), .int (-1), .int (-1)]), (.inr "borrow", .list [.int 1, .int (-2), .int (-1), .int 1, .int 1])] : List (Key × D)) (.inr (kd k)) = some (.list [.int (nums k).1, .int (nums k).2.1, .int (nums k).2.2.1, .int (nums k).2.2.2.1, .int (nums k).2.2.2.2]) := by cases k <;> rfl
theorem u1 {d : Int} {x : D} : dPut ([] : List (Key × D)) (.inl d) x = [(.inl d, x)] := rfl
theorem u2 {d e a b c : Int} (h : Df d e a b c) {x y : D} : dPut ([(.inl d, x)] : List (Key × D)) (.inl e) y = [(.inl d, x), (.inl e, y)] := by
  obtain ⟨h1, h2, h3, h4, h5, h6, h7, h8, h9, h0⟩ := h
  simp [dPut, h1]
theorem u3 {d e a b c : Int} (h : Df d e a b c) {x y z : D} : dPut ([(.inl d, x), (.inl e, y)] : List (Key × D)) (.inl a) z = [(.inl d, x), (.inl e, y), (.inl a, z)] := by
  obtain ⟨h1, h2, h3, h4, h5, h6, h7, h8, h9, h0⟩ := h
  simp [dPut, h2, h5]
theorem u4 {d e a b c : Int} (h : Df d e a b c) {x y z u : D} : dPut ([(.inl d, x), (.inl e, y), (.inl a, z)] : List (Key × D)) (.inl b) u = [(.inl d, x), (.inl e, y), (.inl a, z), (.inl b, u)] := by
  obtain ⟨h1, h2, h3, h4, h5, h6, h7, h8, h9, h0⟩ := h
  simp [dPut, h3, h6, h8]
theorem u5 {d e a b c : Int} {k : Bool} (h : Df d e a b c) : dPut ([(.inl d, .int (nums k).1), (.inl e, .int (nums k).2.1), (.inl a, .int (nums k).2.2.1), (.inl b, .int (nums k).2.2.2.1)] : List (Key × D)) (.inl c) (.int (nums k).2.2.2.2) = kvN d e a b c k := by
  obtain ⟨h1, h2, h3, h4, h5, h6, h7, h8, h9, h0⟩ := h
  simp [dPut, kvN, kvT, h4, h7, h9, h0]
theorem equations_ev {d e a b c w0 w1 w2 w3 w4 : Int} {k : Bool} (h : Sl d e a b c w0 w1 w2 w3 w4) (st : Cell) : d_cell_equations [.d (cellD a b c d e k)] [st] = .ok (.new [dueD d e a b c w0 w1 w2 w3 w4 k]) [st] := by
  have hA : ∀ S, d_ascending [.d (.tuple [.int d, .int e, .int a, .int b, .int c])] S = .ok (.d (.tuple [.int w0, .int w1, .int w2, .int w3, .int w4])) S := fun S => by
    have := ascT_ev [d, e, a, b, c] S (by simp)
    rw [h.asc] at this
    exact this
  have pN := putT (n0 := (nums k).1) (n1 := (nums k).2.1) (n2 := (nums k).2.2.1) (n3 := (nums k).2.2.2.1) (n4 := (nums k).2.2.2.2) h.df
  rw [← kvN] at pN
  have q := fun {u0 u1 u2 u3} => compL_mapI (sg := [u0, u1, u2, u3, some (.ref 1), some (.d (wD5 w0 w1 w2 w3 w4)), none]) (i := 6) (S := [st, .dct (kvN d e a b c k)]) (fe := (yIx (fVar 4) (fVar 6))) (g := fun w => .int (tbl d e a b c k w)) (xs := [w0, w1, w2, w3, w4]) (fun x hx => by
    have e := getT (k := k) h.df (h.perm.mem_iff.mp hx)
    simp only [fDef, fRet, fRetN, fSeq, fIfS, fTru, fBoo, fAndT, fOrT, fNotT, fAndV, fOrV, fNotV, fIf, fVar, fC, fCall, fCons, fNil, fBin, fUn, on2, on1, pk, pkW, toD, toW, wD, wsD, gate_true, noX_ok, viewsOf, onA, fCB, startG, finD, fIsi, noX_cond, fNext, fDrop, fSet, fSetM, fTup, fLst, fAsgT, bTup, bAll, bName, List.getElem?_cons_zero, List.getElem?_cons_succ, List.map_cons, List.map_nil, List.length_cons, List.length_nil, List.replicate, Nat.reduceAdd, Nat.reduceSub, Nat.zero_add, Nat.sub_self, List.append_nil, List.cons_append, List.nil_append, List.take_length, decide_true, gate_dec, okD, truD, List.set_cons_zero, List.set_cons_succ, cond_true, cond_false, gLen, gAdd, Dl.gSub, gNeg, gEq_int, gNe_int, gLt, gGt, gLe, gGe, cond_and_d, cond_and_d', cond_or_d, cond_or_t, cond_and_t, cond_id, isInt, isBool, isTup, isStr, isLst, gIx, fNoP, fPart, fChain, gList, gTuple, fSeqI, take_app, fComp, fYes, wipeG, atI_0, atI_1, atI_2, atI_3, Bool.and_true, Bool.true_and, Bool.and_false, Bool.false_and, Bool.or_true, Bool.true_or, Bool.or_false, Bool.false_or, Bool.not_true, Bool.not_false, lim, Nat.reduceLeDiff, Nat.reduceLT, cast_beq, Option.map_some, shaped_int, fSetSub, ixN_40, ixN_41, ixN_42, ixN_43, fUpd, uAppend, get_last, set_last, if_true, if_false, not_lt_self, cutL_toI, cutL_fromI, Bool.true_xor, Bool.false_xor, gAll_map, rngOk_lit, smallI_lit, divOk_lit, Int.cast_ofNat_Int, Int.natCast_zero, Int.natCast_one, Int.reduceToNat, Int.reduceNeg, Int.reduceLE, Int.reduceLT, Int.reduceAdd, Int.reduceSub, Int.reduceMul, Int.reducePow, Nat.reduceMul, Nat.reducePow, Nat.reduceBEq, cast_beqL, cast_bneL, Nat.reduceBeqDiff, Nat.reduceBneDiff, eqv_str, eqv_int, ofString_beq, ofString_bne, String.reduceBEq, String.reduceBNe, shaped_strS, List.any_cons, List.any_nil, flatD, List.all_cons, List.all_nil, fFld, fMeth, fMake, fInit, endI, fSetFld, toWM, wR, fLook, putFW, List.lookup_cons, List.lookup_nil, Option.isNone, dk, putSub, gSub2, gIn2, keyD, fExt, Option.map_some, Option.map_none, Int.reduceBEq, Int.reduceBNe, and_self, decide_false, List.take_succ_cons, List.take_zero, List.drop_succ_cons, List.drop_zero, Int.natAbs_one, ↓bind_bd, bd_ok, bd_cond, e])
  have gi : ∀ S, fGIn true tab_FACTORS (fVar 1) [some (.d (cellD a b c d e k)), some (.d (.str (kd k))), some (.d (.tuple [.int a, .int b, .int c])), some (.d (.tuple [.int d, .int e])), none, none, none] S = .ok (.d (.bool false)) S := fun S => by cases k <;> rfl
  have gs : ∀ S, fGSub tab_FACTORS (fVar 1) [some (.d (cellD a b c d e k)), some (.d (.str (kd k))), some (.d (.tuple [.int a, .int b, .int c])), some (.d (.tuple [.int d, .int e])), none, none, none] S = .ok (.d (.tuple [.int (nums k).1, .int (nums k).2.1, .int (nums k).2.2.1, .int (nums k).2.2.2.1, .int (nums k).2.2.2.2])) S := fun S => by cases k <;> rfl
  unfold cellD dueD wD5 at *
  simp only [List.map_cons, List.map_nil] at q
  unfold d_cell_equations
  simp only [fDef, fRet, fRetN, fSeq, fIfS, fTru, fBoo, fAndT, fOrT, fNotT, fAndV, fOrV, fNotV, fIf, fVar, fC, fCall, fCons, fNil, fBin, fUn, on2, on1, pk, pkW, toD, toW, wD, wsD, gate_true, noX_ok, viewsOf, onA, fCB, startG, finD, fIsi, noX_cond, fNext, fDrop, fSet, fSetM, fTup, fLst, fAsgT, bTup, bAll, bName, List.getElem?_cons_zero, List.getElem?_cons_succ, List.map_cons, List.map_nil, List.length_cons, List.length_nil, List.replicate, Nat.reduceAdd, Nat.reduceSub, Nat.zero_add, Nat.sub_self, List.append_nil, List.cons_append, List.nil_append, List.take_length, decide_true, gate_dec, okD, truD, List.set_cons_zero, List.set_cons_succ, cond_true, cond_false, gLen, gAdd, Dl.gSub, gNeg, gEq_int, gNe_int, gLt, gGt, gLe, gGe, cond_and_d, cond_and_d', cond_or_d, cond_or_t, cond_and_t, cond_id, isInt, isBool, isTup, isStr, isLst, gIx, fNoP, fPart, fChain, gList, gTuple, fSeqI, take_app, fComp, fYes, wipeG, atI_0, atI_1, atI_2, atI_3, Bool.and_true, Bool.true_and, Bool.and_false, Bool.false_and, Bool.or_true, Bool.true_or, Bool.or_false, Bool.false_or, Bool.not_true, Bool.not_false, lim, Nat.reduceLeDiff, Nat.reduceLT, cast_beq, Option.map_some, shaped_int, fSetSub, ixN_40, ixN_41, ixN_42, ixN_43, fUpd, uAppend, get_last, set_last, if_true, if_false, not_lt_self, cutL_toI, cutL_fromI, Bool.true_xor, Bool.false_xor, gAll_map, rngOk_lit, smallI_lit, divOk_lit, Int.cast_ofNat_Int, Int.natCast_zero, Int.natCast_one, Int.reduceToNat, Int.reduceNeg, Int.reduceLE, Int.reduceLT, Int.reduceAdd, Int.reduceSub, Int.reduceMul, Int.reducePow, Nat.reduceMul, Nat.reducePow, Nat.reduceBEq, cast_beqL, cast_bneL, Nat.reduceBeqDiff, Nat.reduceBneDiff, eqv_str, eqv_int, ofString_beq, ofString_bne, String.reduceBEq, String.reduceBNe, shaped_strS, List.any_cons, List.any_nil, flatD, List.all_cons, List.all_nil, fFld, fMeth, fMake, fInit, endI, fSetFld, toWM, wR, fLook, putFW, List.lookup_cons, List.lookup_nil, Option.isNone, dk, putSub, gSub2, gIn2, keyD, fExt, Option.map_some, Option.map_none, Int.reduceBEq, Int.reduceBNe, and_self, decide_false, List.take_succ_cons, List.take_zero, List.drop_succ_cons, List.drop_zero, Int.natAbs_one, ↓bind_bd, bd_ok, bd_cond, gi, gs, fDictZip, keysOf, keyD, mergeD, List.foldl_cons, List.foldl_nil, pN, hA, q]
theorem slice_W {c0 : Cell} (hc : StOk c0) : W (d__law_slice [.ref 0] [c0]) (fun r S => ∃ c' k d e a b c w0 w1 w2 w3 w4, StOk c' ∧ S = [c'] ∧ Sl d e a b c w0 w1 w2 w3 w4 ∧ r = .d (.tuple [cellD a b c d e k, dueD d e a b c w0 w1 w2 w3 w4 k])) := by
  unfold d__law_slice
  simp (disch := omega) only [fDef, fRet, fRetN, fSeq, fIfS, fTru, fBoo, fAndT, fOrT, fNotT, fAndV, fOrV, fNotV, fIf, fVar, fC, fCall, fCons, fNil, fBin, fUn, on2, on1, pk, pkW, toD, toW, wD, wsD, gate_true, noX_ok, viewsOf, onA, fCB, startG, finD, fIsi, noX_cond, fNext, fDrop, fSet, fSetM, fTup, fLst, fAsgT, bTup, bAll, bName, List.getElem?_cons_zero, List.getElem?_cons_succ, List.map_cons, List.map_nil, List.length_cons, List.length_nil, List.replicate, Nat.reduceAdd, Nat.reduceSub, Nat.zero_add, Nat.sub_self, List.append_nil, List.cons_append, List.nil_append, List.take_length, decide_true, gate_dec, okD, truD, List.set_cons_zero, List.set_cons_succ, cond_true, cond_false, gLen, gAdd, Dl.gSub, gNeg, gEq_int, gNe_int, gLt, gGt, gLe, gGe, cond_and_d, cond_and_d', cond_or_d, cond_or_t, cond_and_t, cond_id, isInt, isBool, isTup, isStr, isLst, gIx, fNoP, fPart, gList, gTuple, fSeqI, take_app, fComp, fYes, wipeG, atI_0, atI_1, atI_2, atI_3, Bool.and_true, Bool.true_and, Bool.and_false, Bool.false_and, Bool.or_true, Bool.true_or, Bool.or_false, Bool.false_or, Bool.not_true, Bool.not_false, lim, Nat.reduceLeDiff, Nat.reduceLT, cast_beq, Option.map_some, shaped_int, fSetSub, ixN_40, ixN_41, ixN_42, ixN_43, fUpd, get_last, set_last, if_true, if_false, not_lt_self, cutL_toI, cutL_fromI, Bool.true_xor, Bool.false_xor, gAll_map, rngOk_lit, smallI_lit, divOk_lit, Int.cast_ofNat_Int, Int.natCast_zero, Int.natCast_one, Int.reduceToNat, Int.reduceNeg, Int.reduceLE, Int.reduceLT, Int.reduceAdd, Int.reduceSub, Int.reduceMul, Int.reducePow, Nat.reduceMul, Nat.reducePow, Nat.reduceBEq, cast_beqL, cast_bneL, Nat.reduceBeqDiff, Nat.reduceBneDiff, eqv_str, eqv_int, ofString_beq, ofString_bne, String.reduceBEq, String.reduceBNe, shaped_strS, List.any_cons, List.any_nil, flatD, List.all_cons, List.all_nil, fFld, fMeth, fMake, fInit, endI, fSetFld, toWM, wR, fLook, putFW, List.lookup_cons, List.lookup_nil, Option.isNone, dk, putSub, gSub2, gIn2, keyD, fExt, Option.map_some, Option.map_none, Int.reduceBEq, Int.reduceBNe, and_self, decide_false, List.take_succ_cons, List.take_zero, List.drop_succ_cons, List.drop_zero, Int.natAbs_one, gate_and, fChainE, boolR_b, uAppend_ok, uInsert_ok, rangeD_len, ↓bind_bd, bd_ok, W_bd, W_ok, W_noX, drawE, fFor, fRange1, fRange2, fSl, gSl, List.length_append, List.length_map, List.length_reverse, List.length_take, List.length_drop, fListRg2, rgTwo, shufE, rg112]
  refine W_shufP hc (by simp) fun ys c1 hc1 hp => ?_
  obtain ⟨d, e, a, b, c, w0, w1, w2, w3, w4, r, rfl, h⟩ := sl_of hp
  simp (disch := omega) only [fDef, fRet, fRetN, fSeq, fIfS, fTru, fBoo, fAndT, fOrT, fNotT, fAndV, fOrV, fNotV, fIf, fVar, fC, fCall, fCons, fNil, fBin, fUn, on2, on1, pk, pkW, toD, toW, wD, wsD, gate_true, noX_ok, viewsOf, onA, fCB, startG, finD, fIsi, noX_cond, fNext, fDrop, fSet, fSetM, fTup, fLst, fAsgT, bTup, bAll, bName, List.getElem?_cons_zero, List.getElem?_cons_succ, List.map_cons, List.map_nil, List.length_cons, List.length_nil, List.replicate, Nat.reduceAdd, Nat.reduceSub, Nat.zero_add, Nat.sub_self, List.append_nil, List.cons_append, List.nil_append, List.take_length, decide_true, gate_dec, okD, truD, List.set_cons_zero, List.set_cons_succ, cond_true, cond_false, gLen, gAdd, Dl.gSub, gNeg, gEq_int, gNe_int, gLt, gGt, gLe, gGe, cond_and_d, cond_and_d', cond_or_d, cond_or_t, cond_and_t, cond_id, isInt, isBool, isTup, isStr, isLst, gIx, fNoP, fPart, gList, gTuple, fSeqI, take_app, fComp, fYes, wipeG, atI_0, atI_1, atI_2, atI_3, Bool.and_true, Bool.true_and, Bool.and_false, Bool.false_and, Bool.or_true, Bool.true_or, Bool.or_false, Bool.false_or, Bool.not_true, Bool.not_false, lim, Nat.reduceLeDiff, Nat.reduceLT, cast_beq, Option.map_some, shaped_int, fSetSub, ixN_40, ixN_41, ixN_42, ixN_43, fUpd, get_last, set_last, if_true, if_false, not_lt_self, cutL_toI, cutL_fromI, Bool.true_xor, Bool.false_xor, gAll_map, rngOk_lit, smallI_lit, divOk_lit, Int.cast_ofNat_Int, Int.natCast_zero, Int.natCast_one, Int.reduceToNat, Int.reduceNeg, Int.reduceLE, Int.reduceLT, Int.reduceAdd, Int.reduceSub, Int.reduceMul, Int.reducePow, Nat.reduceMul, Nat.reducePow, Nat.reduceBEq, cast_beqL, cast_bneL, Nat.reduceBeqDiff, Nat.reduceBneDiff, eqv_str, eqv_int, ofString_beq, ofString_bne, String.reduceBEq, String.reduceBNe, shaped_strS, List.any_cons, List.any_nil, flatD, List.all_cons, List.all_nil, fFld, fMeth, fMake, fInit, endI, fSetFld, toWM, wR, fLook, putFW, List.lookup_cons, List.lookup_nil, Option.isNone, dk, putSub, gSub2, gIn2, keyD, fExt, Option.map_some, Option.map_none, Int.reduceBEq, Int.reduceBNe, and_self, decide_false, List.take_succ_cons, List.take_zero, List.drop_succ_cons, List.drop_zero, Int.natAbs_one, gate_and, fChainE, boolR_b, uAppend_ok, uInsert_ok, rangeD_len, ↓bind_bd, bd_ok, W_bd, W_ok, W_noX, drawE, fFor, fRange1, fRange2, fSl, gSl, List.length_append, List.length_map, List.length_reverse, List.length_take, List.length_drop]
  refine W_draw hc1 (by decide) (by decide) fun r c2 hc2 b0 b1 => ?_
  obtain ⟨k, hk⟩ : ∃ k, L2.atI [.str "full", .str "borrow"] r = some (PyData.str (kd k)) := by
    have : r = 0 ∨ r = 1 := by omega
    rcases this with rfl | rfl
    · exact ⟨true, rfl⟩
    · exact ⟨false, rfl⟩
  have mg : mergeD [] [(Sum.inr (Str.ofString "full"), .list [.int 1, .int 2, .int (-1), .int (-1), .int (-1)]), (.inr (Str.ofString "borrow"), .list [.int 1, .int (-2), .int (-1), .int 1, .int 1])] = ([(.inr "full", .list [.int 1, .int 2, .int (-1), .int (-1), .int (-1)]), (.inr "borrow", .list [.int 1, .int (-2), .int (-1), .int 1, .int 1])] : List (Key × D)) := rfl
  have q := fun {u0 u1 u2 u3 u5 u6} => compL_mapI (sg := [u0, u1, u2, u3, some (.ref 1), u5, u6, none]) (i := 7) (S := [c2, .dct (kvN d e a b c k)]) (fe := (yIx (fVar 4) (fVar 7))) (g := fun w => .int (tbl d e a b c k w)) (xs := [w0, w1, w2, w3, w4]) (fun x hx => by
    have e := getT (k := k) h.df (h.perm.mem_iff.mp hx)
    simp only [fDef, fRet, fRetN, fSeq, fIfS, fTru, fBoo, fAndT, fOrT, fNotT, fAndV, fOrV, fNotV, fIf, fVar, fC, fCall, fCons, fNil, fBin, fUn, on2, on1, pk, pkW, toD, toW, wD, wsD, gate_true, noX_ok, viewsOf, onA, fCB, startG, finD, fIsi, noX_cond, fNext, fDrop, fSet, fSetM, fTup, fLst, fAsgT, bTup, bAll, bName, List.getElem?_cons_zero, List.getElem?_cons_succ, List.map_cons, List.map_nil, List.length_cons, List.length_nil, List.replicate, Nat.reduceAdd, Nat.reduceSub, Nat.zero_add, Nat.sub_self, List.append_nil, List.cons_append, List.nil_append, List.take_length, decide_true, gate_dec, okD, truD, List.set_cons_zero, List.set_cons_succ, cond_true, cond_false, gLen, gAdd, Dl.gSub, gNeg, gEq_int, gNe_int, gLt, gGt, gLe, gGe, cond_and_d, cond_and_d', cond_or_d, cond_or_t, cond_and_t, cond_id, isInt, isBool, isTup, isStr, isLst, gIx, fNoP, fPart, fChain, gList, gTuple, fSeqI, take_app, fComp, fYes, wipeG, atI_0, atI_1, atI_2, atI_3, Bool.and_true, Bool.true_and, Bool.and_false, Bool.false_and, Bool.or_true, Bool.true_or, Bool.or_false, Bool.false_or, Bool.not_true, Bool.not_false, lim, Nat.reduceLeDiff, Nat.reduceLT, cast_beq, Option.map_some, shaped_int, fSetSub, ixN_40, ixN_41, ixN_42, ixN_43, fUpd, uAppend, get_last, set_last, if_true, if_false, not_lt_self, cutL_toI, cutL_fromI, Bool.true_xor, Bool.false_xor, gAll_map, rngOk_lit, smallI_lit, divOk_lit, Int.cast_ofNat_Int, Int.natCast_zero, Int.natCast_one, Int.reduceToNat, Int.reduceNeg, Int.reduceLE, Int.reduceLT, Int.reduceAdd, Int.reduceSub, Int.reduceMul, Int.reducePow, Nat.reduceMul, Nat.reducePow, Nat.reduceBEq, cast_beqL, cast_bneL, Nat.reduceBeqDiff, Nat.reduceBneDiff, eqv_str, eqv_int, ofString_beq, ofString_bne, String.reduceBEq, String.reduceBNe, shaped_strS, List.any_cons, List.any_nil, flatD, List.all_cons, List.all_nil, fFld, fMeth, fMake, fInit, endI, fSetFld, toWM, wR, fLook, putFW, List.lookup_cons, List.lookup_nil, Option.isNone, dk, putSub, gSub2, gIn2, keyD, fExt, Option.map_some, Option.map_none, Int.reduceBEq, Int.reduceBNe, and_self, decide_false, List.take_succ_cons, List.take_zero, List.drop_succ_cons, List.drop_zero, Int.natAbs_one, ↓bind_bd, bd_ok, bd_cond, e])
  simp only [List.map_cons, List.map_nil] at q
  simp (disch := omega) only [fDef, fRet, fRetN, fSeq, fIfS, fTru, fBoo, fAndT, fOrT, fNotT, fAndV, fOrV, fNotV, fIf, fVar, fC, fCall, fCons, fNil, fBin, fUn, on2, on1, pk, pkW, toD, toW, wD, wsD, gate_true, noX_ok, viewsOf, onA, fCB, startG, finD, fIsi, noX_cond, fNext, fDrop, fSet, fSetM, fTup, fLst, fAsgT, bTup, bAll, bName, List.getElem?_cons_zero, List.getElem?_cons_succ, List.map_cons, List.map_nil, List.length_cons, List.length_nil, List.replicate, Nat.reduceAdd, Nat.reduceSub, Nat.zero_add, Nat.sub_self, List.append_nil, List.cons_append, List.nil_append, List.take_length, decide_true, gate_dec, okD, truD, List.set_cons_zero, List.set_cons_succ, cond_true, cond_false, gLen, gAdd, Dl.gSub, gNeg, gEq_int, gNe_int, gLt, gGt, gLe, gGe, cond_and_d, cond_and_d', cond_or_d, cond_or_t, cond_and_t, cond_id, isInt, isBool, isTup, isStr, isLst, gIx, fNoP, fPart, gList, gTuple, fSeqI, take_app, fComp, fYes, wipeG, atI_0, atI_1, atI_2, atI_3, Bool.and_true, Bool.true_and, Bool.and_false, Bool.false_and, Bool.or_true, Bool.true_or, Bool.or_false, Bool.false_or, Bool.not_true, Bool.not_false, lim, Nat.reduceLeDiff, Nat.reduceLT, cast_beq, Option.map_some, shaped_int, fSetSub, ixN_40, ixN_41, ixN_42, ixN_43, fUpd, get_last, set_last, if_true, if_false, not_lt_self, cutL_toI, cutL_fromI, Bool.true_xor, Bool.false_xor, gAll_map, rngOk_lit, smallI_lit, divOk_lit, Int.cast_ofNat_Int, Int.natCast_zero, Int.natCast_one, Int.reduceToNat, Int.reduceNeg, Int.reduceLE, Int.reduceLT, Int.reduceAdd, Int.reduceSub, Int.reduceMul, Int.reducePow, Nat.reduceMul, Nat.reducePow, Nat.reduceBEq, cast_beqL, cast_bneL, Nat.reduceBeqDiff, Nat.reduceBneDiff, eqv_str, eqv_int, ofString_beq, ofString_bne, String.reduceBEq, String.reduceBNe, shaped_strS, List.any_cons, List.any_nil, flatD, List.all_cons, List.all_nil, fFld, fMeth, fMake, fInit, endI, fSetFld, toWM, wR, fLook, putFW, List.lookup_cons, List.lookup_nil, Option.isNone, dk, putSub, gSub2, gIn2, keyD, fExt, Option.map_some, Option.map_none, Int.reduceBEq, Int.reduceBNe, and_self, decide_false, List.take_succ_cons, List.take_zero, List.drop_succ_cons, List.drop_zero, Int.natAbs_one, gate_and, fChainE, boolR_b, uAppend_ok, uInsert_ok, rangeD_len, ↓bind_bd, bd_ok, W_bd, W_ok, W_noX, drawE, fFor, fRange1, fRange2, fSl, gSl, List.length_append, List.length_map, List.length_reverse, List.length_take, List.length_drop, hk, fCBW, fDisp, fDNew, fPairs, keyD, mg, numsG, rg5, forL, ix5_0, ix5_4, get_last, set_last, u1, u2 h.df, u3 h.df, u4 h.df, u5 h.df, gSorted, dkW, gSortL, intsOf5, h.srt, q]
  exact ⟨c2, k, d, e, a, b, c, w0, w1, w2, w3, w4, hc2, rfl, h, rfl⟩
end K25
namespace K25
open PySem L2 Dl
abbrev Prs := List (Str × Int)
def enc (kvs : Prs) : List (Key × D) := kvs.map fun p => (Sum.inr p.1, .int p.2)
def getL : Prs → Str → Int
  | [], _ => 0
  | (x, v) :: r, k => if x = k then v else getL r k
def addL : Prs → Str → Int → Prs
  | [], k, c => [(k, 0 + c)]
  | (x, v) :: r, k, c => if x = k then (x, v + c) :: r else (x, v) :: addL r k c
def ND (kvs : Prs) : Prop := (kvs.map (·.1)).Nodup
theorem addL_mem {z : Str} : ∀ {kvs : Prs} {k : Str} {c : Int}, z ∈ (addL kvs k c).map (·.1) ↔ z ∈ kvs.map (·.1) ∨ z = k
  | [], k, c => by simp [addL]
  | (x, v) :: r, k, c => by
    unfold addL
    by_cases h : x = k
    · rw [if_pos h]; subst h; simp; intro h; exact .inl h
    · rw [if_neg h]
      simp only [List.map_cons, List.mem_cons, addL_mem (kvs := r)]
      constructor
      · rintro (h | h | h)
        · exact .inl (.inl h)
        · exact .inl (.inr h)
        · exact .inr h
      · rintro ((h | h) | h)
        · exact .inl h
        · exact .inr (.inl h)
        · exact .inr (.inr h)
theorem addL_nd : ∀ {kvs : Prs} {k : Str} {c : Int}, ND kvs → ND (addL kvs k c)
  | [], k, c, _ => by simp [addL, ND]
  | (x, v) :: r, k, c, h => by
    unfold addL
    have h' : x ∉ r.map (·.1) ∧ (r.map (·.1)).Nodup := List.nodup_cons.mp h
    by_cases e : x = k
    · rw [if_pos e]; exact h
    · rw [if_neg e]
      refine List.nodup_cons.mpr ⟨fun hm => ?_, addL_nd (kvs := r) h'.2⟩
      rcases addL_mem.mp hm with h | h
      · exact h'.1 h
      · exact e h
theorem addL_len : ∀ (kvs : Prs) (k : Str) (c : Int), (addL kvs k c).length ≤ kvs.length + 1
  | [], k, c => by simp [addL]
  | (x, v) :: r, k, c => by
    unfold addL
    split
    · simp
    · have := addL_len r k c; simp; omega
theorem enc_get : ∀ (kvs : Prs) (k : Str), (dGet (enc kvs) (.inr k)).getD (.int 0) = .int (getL kvs k)
  | [], k => rfl
  | (x, v) :: r, k => by
    by_cases h : x = k
    · subst h
      show (dGet ((Sum.inr x, PyData.int v) :: enc r) (.inr x)).getD (.int 0) = _
      rw [dGet_pos rfl]; simp [getL]
    · show (dGet ((Sum.inr x, PyData.int v) :: enc r) (.inr k)).getD (.int 0) = _
      rw [dGet_neg (by intro e; exact h (Sum.inr.inj e)), enc_get r k]
      simp [getL, h]
theorem enc_get2 : ∀ {kvs : Prs} {k : Str}, k ∈ kvs.map (·.1) → dGet (enc kvs) (.inr k) = some (.int (getL kvs k))
  | (x, v) :: r, k, h => by
    by_cases e : x = k
    · subst e
      show dGet ((Sum.inr x, PyData.int v) :: enc r) (.inr x) = _
      rw [dGet_pos rfl]; simp [getL]
    · show dGet ((Sum.inr x, PyData.int v) :: enc r) (.inr k) = _
      have hm : k ∈ r.map (·.1) := by
        rcases List.mem_cons.mp h with h | h
        · exact absurd h.symm e
        · exact h
      rw [dGet_neg (by intro e'; exact e (Sum.inr.inj e')), enc_get2 hm]
      simp [getL, e]
theorem map_ne {r : Prs} {k : Str} {d : D} (h : k ∉ r.map (·.1)) : (enc r).map (fun kv => if kv.1 = .inr k then (kv.1, d) else kv) = enc r := by
  unfold enc
  rw [List.map_map]
  refine List.map_congr_left fun p hp => ?_
  have : p.1 ≠ k := fun e => h (List.mem_map.mpr ⟨p, hp, e⟩)
  simp [this]
theorem enc_put : ∀ {kvs : Prs} {k : Str} {c : Int}, ND kvs → dPut (enc kvs) (.inr k) (.int (getL kvs k + c)) = enc (addL kvs k c)
  | [], k, c, _ => by simp [dPut, enc, addL, getL]
  | (x, v) :: r, k, c, h => by
    have h' : x ∉ r.map (·.1) ∧ (r.map (·.1)).Nodup := List.nodup_cons.mp h
    have ih := enc_put (kvs := r) (k := k) (c := c) h'.2
    by_cases e : x = k
    · subst e
      have hm := map_ne (r := r) (k := x) (d := .int (v + c)) h'.1
      show dPut ((Sum.inr x, PyData.int v) :: enc r) _ _ = _
      unfold dPut
      simp only [List.any_cons, decide_true, Bool.true_or, if_true, List.map_cons, getL, addL, hm]
      rfl
    · show dPut ((Sum.inr x, PyData.int v) :: enc r) _ _ = _
      have hne : ¬ ((Sum.inr x : Key) = .inr k) := fun e' => e (Sum.inr.inj e')
      unfold dPut at ih ⊢
      simp only [List.any_cons, decide_eq_false hne, Bool.false_or, getL, if_neg e, addL]
      split at ih
      · rename_i ha
        rw [if_pos ha, List.map_cons, if_neg hne, ih]; rfl
      · rename_i ha
        rw [if_neg ha, List.cons_append, ih]; rfl
/-- a weighted sum -/
def ws (w : Str → Int) : Prs → Int
  | [] => 0
  | (k, v) :: r => v * w k + ws w r
theorem ws_add (w : Str → Int) : ∀ (kvs : Prs) (k : Str) (c : Int), ws w (addL kvs k c) = ws w kvs + c * w k
  | [], k, c => by simp [addL, ws]
  | (x, v) :: r, k, c => by
    unfold addL
    by_cases h : x = k
    · rw [if_pos h]; subst h; simp only [ws, Int.add_mul]; omega
    · rw [if_neg h]; simp only [ws, ws_add w r k c]; omega
def sums (ps : Prs) : Prs := ps.foldl (fun acc p => addL acc p.1 p.2) []
theorem ws_foldl (w : Str → Int) : ∀ (ps acc : Prs), ws w (ps.foldl (fun acc p => addL acc p.1 p.2) acc) = ws w acc + ws w ps
  | [], acc => by simp [ws]
  | (k, c) :: ps, acc => by
    rw [List.foldl_cons, ws_foldl w ps, ws_add]; simp only [ws]; omega
theorem ws_sums (w : Str → Int) (ps : Prs) : ws w (sums ps) = ws w ps := by
  unfold sums; rw [ws_foldl]; simp [ws]
def prD (p : Str × Int) : D := .tuple [.str p.1, .int p.2]
theorem enc_len (kvs : Prs) : (enc kvs).length = kvs.length := by simp [enc]
theorem form_loop {S0 : Sto} {u0 u1 : Option Wv} : ∀ (ps kvs : Prs) (u3 u4 : Option Wv), ND kvs → kvs.length + ps.length ≤ 1000 →
    ∃ v3 v4, forL (bTup [3, 4]) (fSetSub (fVar 2) (fVar 3) (xAdd (fGet2 (fVar 2) (fVar 3) (fC (.int 0))) (fVar 4))) (ps.map prD) [u0, u1, some (.ref S0.length), u3, u4] (S0 ++ [.dct (enc kvs)]) = .ok (.nx [u0, u1, some (.ref S0.length), v3, v4]) (S0 ++ [.dct (enc (ps.foldl (fun acc p => addL acc p.1 p.2) kvs))])
  | [], kvs, u3, u4, _, _ => ⟨u3, u4, rfl⟩
  | (k, c) :: ps, kvs, u3, u4, h, hl => by
    have hal := addL_len kvs k c
    simp only [List.length_cons] at hl
    obtain ⟨v3, v4, ih⟩ := form_loop (S0 := S0) (u0 := u0) (u1 := u1) ps (addL kvs k c) (some (.d (.str k))) (some (.d (.int c))) (addL_nd h) (by omega)
    refine ⟨v3, v4, ?_⟩
    have e1 := enc_get kvs k
    have e2 := enc_put (k := k) (c := c) h
    have e3 : ((enc kvs).length < 1000000) = True := eq_true (by rw [enc_len]; omega)
    simp only [List.map_cons, forL, prD, List.foldl_cons]
    rw [← ih]
    simp only [fDef, fRet, fRetN, fSeq, fIfS, fTru, fBoo, fAndT, fOrT, fNotT, fAndV, fOrV, fNotV, fIf, fVar, fC, fCall, fCons, fNil, fBin, fUn, on2, on1, pk, pkW, toD, toW, wD, wsD, gate_true, noX_ok, viewsOf, onA, fCB, startG, finD, fIsi, noX_cond, fNext, fDrop, fSet, fSetM, fTup, fLst, fAsgT, bTup, bAll, bName, List.getElem?_cons_zero, List.getElem?_cons_succ, List.map_cons, List.map_nil, List.length_cons, List.length_nil, List.replicate, Nat.reduceAdd, Nat.reduceSub, Nat.zero_add, Nat.sub_self, List.append_nil, List.cons_append, List.nil_append, List.take_length, decide_true, gate_dec, okD, truD, List.set_cons_zero, List.set_cons_succ, cond_true, cond_false, gLen, gAdd, Dl.gSub, gNeg, gEq_int, gNe_int, gLt, gGt, gLe, gGe, cond_and_d, cond_and_d', cond_or_d, cond_or_t, cond_and_t, cond_id, isInt, isBool, isTup, isStr, isLst, gIx, fNoP, fPart, fChain, gList, gTuple, fSeqI, take_app, fComp, fYes, wipeG, atI_0, atI_1, atI_2, atI_3, Bool.and_true, Bool.true_and, Bool.and_false, Bool.false_and, Bool.or_true, Bool.true_or, Bool.or_false, Bool.false_or, Bool.not_true, Bool.not_false, lim, Nat.reduceLeDiff, Nat.reduceLT, cast_beq, Option.map_some, shaped_int, fSetSub, ixN_40, ixN_41, ixN_42, ixN_43, fUpd, uAppend, get_last, set_last, if_true, if_false, not_lt_self, cutL_toI, cutL_fromI, Bool.true_xor, Bool.false_xor, gAll_map, rngOk_lit, smallI_lit, divOk_lit, Int.cast_ofNat_Int, Int.natCast_zero, Int.natCast_one, Int.reduceToNat, Int.reduceNeg, Int.reduceLE, Int.reduceLT, Int.reduceAdd, Int.reduceSub, Int.reduceMul, Int.reducePow, Nat.reduceMul, Nat.reducePow, Nat.reduceBEq, cast_beqL, cast_bneL, Nat.reduceBeqDiff, Nat.reduceBneDiff, eqv_str, eqv_int, ofString_beq, ofString_bne, String.reduceBEq, String.reduceBNe, shaped_strS, List.any_cons, List.any_nil, flatD, List.all_cons, List.all_nil, fFld, fMeth, fMake, fInit, endI, fSetFld, toWM, wR, fLook, putFW, List.lookup_cons, List.lookup_nil, Option.isNone, dk, putSub, gSub2, gIn2, keyD, fExt, Option.map_some, Option.map_none, Int.reduceBEq, Int.reduceBNe, and_self, decide_false, List.take_succ_cons, List.take_zero, List.drop_succ_cons, List.drop_zero, Int.natAbs_one, ↓bind_bd, bd_ok, bd_cond, fGet2, pkW, e1, e2, e3]
def resL (ps : Prs) : Prs := ((sortS ((sums ps).map (·.1))).filter fun k => getL (sums ps) k != 0).map fun k => (k, getL (sums ps) k)
def formD (c : Int) (ps : Prs) : D := .tuple [.int c, .tuple ((resL ps).map prD)]
theorem sortS_perm (xs : List Str) : (sortS xs).Perm xs := sortB_perm leS xs
theorem strsK_enc : ∀ kvs : Prs, strsK (enc kvs) = some (kvs.map (·.1))
  | [] => rfl
  | (k, v) :: r => by
    show strsK ((Sum.inr k, PyData.int v) :: enc r) = _
    simp only [strsK, strsK_enc r, List.map_cons]
theorem foldl_len : ∀ (ps kvs : Prs), (ps.foldl (fun acc p => addL acc p.1 p.2) kvs).length ≤ kvs.length + ps.length
  | [], kvs => by simp
  | (k, c) :: ps, kvs => by
    have h1 := foldl_len ps (addL kvs k c)
    have h2 := addL_len kvs k c
    simp only [List.foldl_cons, List.length_cons]; omega
theorem foldl_nd : ∀ (ps kvs : Prs), ND kvs → ND (ps.foldl (fun acc p => addL acc p.1 p.2) kvs)
  | [], kvs, h => h
  | (k, c) :: ps, kvs, h => foldl_nd ps _ (addL_nd h)
theorem sums_nd (ps : Prs) : ND (sums ps) := foldl_nd ps [] (by simp [ND])
theorem sums_len (ps : Prs) : (sums ps).length ≤ ps.length := by
  have := foldl_len ps []
  simpa [sums] using this
theorem form_ev (c : Int) (ps : Prs) (S : Sto) (hl : ps.length < 64) : d_form [.d (.int c), .d (.list (ps.map prD))] S = .ok (.d (formD c ps)) S := by
  obtain ⟨v3, v4, eL⟩ := form_loop (S0 := S) (u0 := some (.d (.int c))) (u1 := some (.d (.list (ps.map prD)))) ps [] none none (by simp [ND]) (by simp; omega)
  have eS : ps.foldl (fun acc p => addL acc p.1 p.2) [] = sums ps := rfl
  rw [eS] at eL
  have hs := sums_len ps
  have e1 := strsK_enc (sums ps)
  have e2 : decide (((sums ps).map (·.1)).length < 64) = true := decide_eq_true (by simp; omega)
  have e3 : (((sortS ((sums ps).map (·.1))).map PyData.str).length ≤ 1000000) = True := eq_true (by
    rw [List.length_map, (sortS_perm _).length_eq, List.length_map]; omega)
  have e0 : enc [] = [] := rfl
  rw [e0] at eL
  have q := compL_filterJ (f := fun (k : Str) => PyData.str k) (sg := [some (.d (.int c)), some (.d (.list (ps.map prD))), some (.ref S.length), none, v4]) (i := 3) (S := S ++ [.dct (enc (sums ps))]) (ft := (fBoo (fBin kNe (yIx (fVar 2) (fVar 3)) (fC (.int 0))))) (fe := (fTup (fCons (fVar 3) (fCons (yIx (fVar 2) (fVar 3)) (fNil))))) (p := fun k => getL (sums ps) k != 0) (g := fun k => prD (k, getL (sums ps) k)) (xs := sortS ((sums ps).map (·.1))) (fun k hk => by
    have hm : k ∈ (sums ps).map (·.1) := (sortS_perm _).subset hk
    have e := enc_get2 hm
    exact ⟨by simp only [fDef, fRet, fRetN, fSeq, fIfS, fTru, fBoo, fAndT, fOrT, fNotT, fAndV, fOrV, fNotV, fIf, fVar, fC, fCall, fCons, fNil, fBin, fUn, on2, on1, pk, pkW, toD, toW, wD, wsD, gate_true, noX_ok, viewsOf, onA, fCB, startG, finD, fIsi, noX_cond, fNext, fDrop, fSet, fSetM, fTup, fLst, fAsgT, bTup, bAll, bName, List.getElem?_cons_zero, List.getElem?_cons_succ, List.map_cons, List.map_nil, List.length_cons, List.length_nil, List.replicate, Nat.reduceAdd, Nat.reduceSub, Nat.zero_add, Nat.sub_self, List.append_nil, List.cons_append, List.nil_append, List.take_length, decide_true, gate_dec, okD, truD, List.set_cons_zero, List.set_cons_succ, cond_true, cond_false, gLen, gAdd, Dl.gSub, gNeg, gEq_int, gNe_int, gLt, gGt, gLe, gGe, cond_and_d, cond_and_d', cond_or_d, cond_or_t, cond_and_t, cond_id, isInt, isBool, isTup, isStr, isLst, gIx, fNoP, fPart, fChain, gList, gTuple, fSeqI, take_app, fComp, fYes, wipeG, atI_0, atI_1, atI_2, atI_3, Bool.and_true, Bool.true_and, Bool.and_false, Bool.false_and, Bool.or_true, Bool.true_or, Bool.or_false, Bool.false_or, Bool.not_true, Bool.not_false, lim, Nat.reduceLeDiff, Nat.reduceLT, cast_beq, Option.map_some, shaped_int, fSetSub, ixN_40, ixN_41, ixN_42, ixN_43, fUpd, uAppend, get_last, set_last, if_true, if_false, not_lt_self, cutL_toI, cutL_fromI, Bool.true_xor, Bool.false_xor, gAll_map, rngOk_lit, smallI_lit, divOk_lit, Int.cast_ofNat_Int, Int.natCast_zero, Int.natCast_one, Int.reduceToNat, Int.reduceNeg, Int.reduceLE, Int.reduceLT, Int.reduceAdd, Int.reduceSub, Int.reduceMul, Int.reducePow, Nat.reduceMul, Nat.reducePow, Nat.reduceBEq, cast_beqL, cast_bneL, Nat.reduceBeqDiff, Nat.reduceBneDiff, eqv_str, eqv_int, ofString_beq, ofString_bne, String.reduceBEq, String.reduceBNe, shaped_strS, List.any_cons, List.any_nil, flatD, List.all_cons, List.all_nil, fFld, fMeth, fMake, fInit, endI, fSetFld, toWM, wR, fLook, putFW, List.lookup_cons, List.lookup_nil, Option.isNone, dk, putSub, gSub2, gIn2, keyD, fExt, Option.map_some, Option.map_none, Int.reduceBEq, Int.reduceBNe, and_self, decide_false, List.take_succ_cons, List.take_zero, List.drop_succ_cons, List.drop_zero, Int.natAbs_one, ↓bind_bd, bd_ok, bd_cond, e], fun _ => by simp only [fDef, fRet, fRetN, fSeq, fIfS, fTru, fBoo, fAndT, fOrT, fNotT, fAndV, fOrV, fNotV, fIf, fVar, fC, fCall, fCons, fNil, fBin, fUn, on2, on1, pk, pkW, toD, toW, wD, wsD, gate_true, noX_ok, viewsOf, onA, fCB, startG, finD, fIsi, noX_cond, fNext, fDrop, fSet, fSetM, fTup, fLst, fAsgT, bTup, bAll, bName, List.getElem?_cons_zero, List.getElem?_cons_succ, List.map_cons, List.map_nil, List.length_cons, List.length_nil, List.replicate, Nat.reduceAdd, Nat.reduceSub, Nat.zero_add, Nat.sub_self, List.append_nil, List.cons_append, List.nil_append, List.take_length, decide_true, gate_dec, okD, truD, List.set_cons_zero, List.set_cons_succ, cond_true, cond_false, gLen, gAdd, Dl.gSub, gNeg, gEq_int, gNe_int, gLt, gGt, gLe, gGe, cond_and_d, cond_and_d', cond_or_d, cond_or_t, cond_and_t, cond_id, isInt, isBool, isTup, isStr, isLst, gIx, fNoP, fPart, fChain, gList, gTuple, fSeqI, take_app, fComp, fYes, wipeG, atI_0, atI_1, atI_2, atI_3, Bool.and_true, Bool.true_and, Bool.and_false, Bool.false_and, Bool.or_true, Bool.true_or, Bool.or_false, Bool.false_or, Bool.not_true, Bool.not_false, lim, Nat.reduceLeDiff, Nat.reduceLT, cast_beq, Option.map_some, shaped_int, fSetSub, ixN_40, ixN_41, ixN_42, ixN_43, fUpd, uAppend, get_last, set_last, if_true, if_false, not_lt_self, cutL_toI, cutL_fromI, Bool.true_xor, Bool.false_xor, gAll_map, rngOk_lit, smallI_lit, divOk_lit, Int.cast_ofNat_Int, Int.natCast_zero, Int.natCast_one, Int.reduceToNat, Int.reduceNeg, Int.reduceLE, Int.reduceLT, Int.reduceAdd, Int.reduceSub, Int.reduceMul, Int.reducePow, Nat.reduceMul, Nat.reducePow, Nat.reduceBEq, cast_beqL, cast_bneL, Nat.reduceBeqDiff, Nat.reduceBneDiff, eqv_str, eqv_int, ofString_beq, ofString_bne, String.reduceBEq, String.reduceBNe, shaped_strS, List.any_cons, List.any_nil, flatD, List.all_cons, List.all_nil, fFld, fMeth, fMake, fInit, endI, fSetFld, toWM, wR, fLook, putFW, List.lookup_cons, List.lookup_nil, Option.isNone, dk, putSub, gSub2, gIn2, keyD, fExt, Option.map_some, Option.map_none, Int.reduceBEq, Int.reduceBNe, and_self, decide_false, List.take_succ_cons, List.take_zero, List.drop_succ_cons, List.drop_zero, Int.natAbs_one, ↓bind_bd, bd_ok, bd_cond, e, prD]⟩)
  have e4 : ((List.filter (fun k => getL (sums ps) k != 0) (sortS (List.map (fun x => x.fst) (sums ps)))).map fun k => prD (k, getL (sums ps) k)) = (resL ps).map prD := by
    unfold resL; rw [List.map_map]; rfl
  rw [e4] at q
  unfold d_form
  simp only [fDef, fRet, fRetN, fSeq, fIfS, fTru, fBoo, fAndT, fOrT, fNotT, fAndV, fOrV, fNotV, fIf, fVar, fC, fCall, fCons, fNil, fBin, fUn, on2, on1, pk, pkW, toD, toW, wD, wsD, gate_true, noX_ok, viewsOf, onA, fCB, startG, finD, fIsi, noX_cond, fNext, fDrop, fSet, fSetM, fTup, fLst, fAsgT, bTup, bAll, bName, List.getElem?_cons_zero, List.getElem?_cons_succ, List.map_cons, List.map_nil, List.length_cons, List.length_nil, List.replicate, Nat.reduceAdd, Nat.reduceSub, Nat.zero_add, Nat.sub_self, List.append_nil, List.cons_append, List.nil_append, List.take_length, decide_true, gate_dec, okD, truD, List.set_cons_zero, List.set_cons_succ, cond_true, cond_false, gLen, gAdd, Dl.gSub, gNeg, gEq_int, gNe_int, gLt, gGt, gLe, gGe, cond_and_d, cond_and_d', cond_or_d, cond_or_t, cond_and_t, cond_id, isInt, isBool, isTup, isStr, isLst, gIx, fNoP, fPart, fChain, gList, gTuple, fSeqI, take_app, fComp, fYes, wipeG, atI_0, atI_1, atI_2, atI_3, Bool.and_true, Bool.true_and, Bool.and_false, Bool.false_and, Bool.or_true, Bool.true_or, Bool.or_false, Bool.false_or, Bool.not_true, Bool.not_false, lim, Nat.reduceLeDiff, Nat.reduceLT, cast_beq, Option.map_some, shaped_int, fSetSub, ixN_40, ixN_41, ixN_42, ixN_43, fUpd, uAppend, get_last, set_last, if_true, if_false, not_lt_self, cutL_toI, cutL_fromI, Bool.true_xor, Bool.false_xor, gAll_map, rngOk_lit, smallI_lit, divOk_lit, Int.cast_ofNat_Int, Int.natCast_zero, Int.natCast_one, Int.reduceToNat, Int.reduceNeg, Int.reduceLE, Int.reduceLT, Int.reduceAdd, Int.reduceSub, Int.reduceMul, Int.reducePow, Nat.reduceMul, Nat.reducePow, Nat.reduceBEq, cast_beqL, cast_bneL, Nat.reduceBeqDiff, Nat.reduceBneDiff, eqv_str, eqv_int, ofString_beq, ofString_bne, String.reduceBEq, String.reduceBNe, shaped_strS, List.any_cons, List.any_nil, flatD, List.all_cons, List.all_nil, fFld, fMeth, fMake, fInit, endI, fSetFld, toWM, wR, fLook, putFW, List.lookup_cons, List.lookup_nil, Option.isNone, dk, putSub, gSub2, gIn2, keyD, fExt, Option.map_some, Option.map_none, Int.reduceBEq, Int.reduceBNe, and_self, decide_false, List.take_succ_cons, List.take_zero, List.drop_succ_cons, List.drop_zero, Int.natAbs_one, ↓bind_bd, bd_ok, bd_cond, fFor, fDNew, eL, fCBW, gSorted, dkW, gSortK, e1, e2, e3, q, formD]
def isI : D → Bool
  | .int _ => true
  | _ => false
theorem law_is_int_ev (x : D) (S : Sto) : d__law_is_int [.d x] S = .ok (.d (.bool (isI x))) S := by
  unfold d__law_is_int
  cases x <;> simp only [fDef, fRet, fRetN, fSeq, fIfS, fTru, fBoo, fAndT, fOrT, fNotT, fAndV, fOrV, fNotV, fIf, fVar, fC, fCall, fCons, fNil, fBin, fUn, on2, on1, pk, pkW, toD, toW, wD, wsD, gate_true, noX_ok, viewsOf, onA, fCB, startG, finD, fIsi, noX_cond, fNext, fDrop, fSet, fSetM, fTup, fLst, fAsgT, bTup, bAll, bName, List.getElem?_cons_zero, List.getElem?_cons_succ, List.map_cons, List.map_nil, List.length_cons, List.length_nil, List.replicate, Nat.reduceAdd, Nat.reduceSub, Nat.zero_add, Nat.sub_self, List.append_nil, List.cons_append, List.nil_append, List.take_length, decide_true, gate_dec, okD, truD, List.set_cons_zero, List.set_cons_succ, cond_true, cond_false, gLen, gAdd, Dl.gSub, gNeg, gEq_int, gNe_int, gLt, gGt, gLe, gGe, cond_and_d, cond_and_d', cond_or_d, cond_or_t, cond_and_t, cond_id, isInt, isBool, isTup, isStr, isLst, gIx, fNoP, fPart, fChain, gList, gTuple, fSeqI, take_app, fComp, fYes, wipeG, atI_0, atI_1, atI_2, atI_3, Bool.and_true, Bool.true_and, Bool.and_false, Bool.false_and, Bool.or_true, Bool.true_or, Bool.or_false, Bool.false_or, Bool.not_true, Bool.not_false, lim, Nat.reduceLeDiff, Nat.reduceLT, cast_beq, Option.map_some, shaped_int, fSetSub, ixN_40, ixN_41, ixN_42, ixN_43, fUpd, uAppend, get_last, set_last, if_true, if_false, not_lt_self, cutL_toI, cutL_fromI, Bool.true_xor, Bool.false_xor, gAll_map, rngOk_lit, smallI_lit, divOk_lit, Int.cast_ofNat_Int, Int.natCast_zero, Int.natCast_one, Int.reduceToNat, Int.reduceNeg, Int.reduceLE, Int.reduceLT, Int.reduceAdd, Int.reduceSub, Int.reduceMul, Int.reducePow, Nat.reduceMul, Nat.reducePow, Nat.reduceBEq, cast_beqL, cast_bneL, Nat.reduceBeqDiff, Nat.reduceBneDiff, eqv_str, eqv_int, ofString_beq, ofString_bne, String.reduceBEq, String.reduceBNe, shaped_strS, List.any_cons, List.any_nil, flatD, List.all_cons, List.all_nil, fFld, fMeth, fMake, fInit, endI, fSetFld, toWM, wR, fLook, putFW, List.lookup_cons, List.lookup_nil, Option.isNone, dk, putSub, gSub2, gIn2, keyD, fExt, Option.map_some, Option.map_none, Int.reduceBEq, Int.reduceBNe, and_self, decide_false, List.take_succ_cons, List.take_zero, List.drop_succ_cons, List.drop_zero, Int.natAbs_one, ↓bind_bd, bd_ok, bd_cond, isI]
/-- plain data, told the same -/
inductive Pl : Nat → D → Prop
  | int {n} (i : Int) : Pl n (.int i)
  | str {n} {x : Str} : PyData.strOk x = true → Pl n (.str x)
  | tup {n} {ds : List D} : ds.length ≤ 1000 → (∀ d ∈ ds, Pl n d) → Pl (n + 1) (.tuple ds)
theorem same_ev : ∀ (N n : Nat) (d : D) (S : Sto), Pl n d → n < N → d__law_same N [.d d, .d d] S = .ok (.d (.bool true)) S
  | 0, _, _, _, _, h => absurd h (by omega)
  | N + 1, n, d, S, h, hn => by
    cases h with
    | int i =>
      simp only [d__law_same]
      simp only [fDef, fRet, fRetN, fSeq, fIfS, fTru, fBoo, fAndT, fOrT, fNotT, fAndV, fOrV, fNotV, fIf, fVar, fC, fCall, fCons, fNil, fBin, fUn, on2, on1, pk, pkW, toD, toW, wD, wsD, gate_true, noX_ok, viewsOf, onA, fCB, startG, finD, fIsi, noX_cond, fNext, fDrop, fSet, fSetM, fTup, fLst, fAsgT, bTup, bAll, bName, List.getElem?_cons_zero, List.getElem?_cons_succ, List.map_cons, List.map_nil, List.length_cons, List.length_nil, List.replicate, Nat.reduceAdd, Nat.reduceSub, Nat.zero_add, Nat.sub_self, List.append_nil, List.cons_append, List.nil_append, List.take_length, decide_true, gate_dec, okD, truD, List.set_cons_zero, List.set_cons_succ, cond_true, cond_false, gLen, gAdd, Dl.gSub, gNeg, gEq_int, gNe_int, gLt, gGt, gLe, gGe, cond_and_d, cond_and_d', cond_or_d, cond_or_t, cond_and_t, cond_id, isInt, isBool, isTup, isStr, isLst, gIx, fNoP, fPart, fChain, gList, gTuple, fSeqI, take_app, fComp, fYes, wipeG, atI_0, atI_1, atI_2, atI_3, Bool.and_true, Bool.true_and, Bool.and_false, Bool.false_and, Bool.or_true, Bool.true_or, Bool.or_false, Bool.false_or, Bool.not_true, Bool.not_false, lim, Nat.reduceLeDiff, Nat.reduceLT, cast_beq, Option.map_some, shaped_int, fSetSub, ixN_40, ixN_41, ixN_42, ixN_43, fUpd, uAppend, get_last, set_last, if_true, if_false, not_lt_self, cutL_toI, cutL_fromI, Bool.true_xor, Bool.false_xor, gAll_map, rngOk_lit, smallI_lit, divOk_lit, Int.cast_ofNat_Int, Int.natCast_zero, Int.natCast_one, Int.reduceToNat, Int.reduceNeg, Int.reduceLE, Int.reduceLT, Int.reduceAdd, Int.reduceSub, Int.reduceMul, Int.reducePow, Nat.reduceMul, Nat.reducePow, Nat.reduceBEq, cast_beqL, cast_bneL, Nat.reduceBeqDiff, Nat.reduceBneDiff, eqv_str, eqv_int, ofString_beq, ofString_bne, String.reduceBEq, String.reduceBNe, shaped_strS, List.any_cons, List.any_nil, flatD, List.all_cons, List.all_nil, fFld, fMeth, fMake, fInit, endI, fSetFld, toWM, wR, fLook, putFW, List.lookup_cons, List.lookup_nil, Option.isNone, dk, putSub, gSub2, gIn2, keyD, fExt, Option.map_some, Option.map_none, Int.reduceBEq, Int.reduceBNe, and_self, decide_false, List.take_succ_cons, List.take_zero, List.drop_succ_cons, List.drop_zero, Int.natAbs_one, ↓bind_bd, bd_ok, bd_cond, law_is_int_ev, isI, beq_self_eq_true]
    | @str _ x hx =>
      have hs : SeqAt.shaped (.str x) = true := (Go.str (w := 0) (n := 0) hx).shaped (by decide)
      have e : ∀ S, gEq S (.str x) (.str x) = .ok (.d (.bool true)) S := fun S => by simp only [gEq, hs, eqv_str, beq_self_eq_true]; rfl
      simp only [d__law_same]
      simp only [fDef, fRet, fRetN, fSeq, fIfS, fTru, fBoo, fAndT, fOrT, fNotT, fAndV, fOrV, fNotV, fIf, fVar, fC, fCall, fCons, fNil, fBin, fUn, on2, on1, pk, pkW, toD, toW, wD, wsD, gate_true, noX_ok, viewsOf, onA, fCB, startG, finD, fIsi, noX_cond, fNext, fDrop, fSet, fSetM, fTup, fLst, fAsgT, bTup, bAll, bName, List.getElem?_cons_zero, List.getElem?_cons_succ, List.map_cons, List.map_nil, List.length_cons, List.length_nil, List.replicate, Nat.reduceAdd, Nat.reduceSub, Nat.zero_add, Nat.sub_self, List.append_nil, List.cons_append, List.nil_append, List.take_length, decide_true, gate_dec, okD, truD, List.set_cons_zero, List.set_cons_succ, cond_true, cond_false, gLen, gAdd, Dl.gSub, gNeg, gEq_int, gNe_int, gLt, gGt, gLe, gGe, cond_and_d, cond_and_d', cond_or_d, cond_or_t, cond_and_t, cond_id, isInt, isBool, isTup, isStr, isLst, gIx, fNoP, fPart, fChain, gList, gTuple, fSeqI, take_app, fComp, fYes, wipeG, atI_0, atI_1, atI_2, atI_3, Bool.and_true, Bool.true_and, Bool.and_false, Bool.false_and, Bool.or_true, Bool.true_or, Bool.or_false, Bool.false_or, Bool.not_true, Bool.not_false, lim, Nat.reduceLeDiff, Nat.reduceLT, cast_beq, Option.map_some, shaped_int, fSetSub, ixN_40, ixN_41, ixN_42, ixN_43, fUpd, uAppend, get_last, set_last, if_true, if_false, not_lt_self, cutL_toI, cutL_fromI, Bool.true_xor, Bool.false_xor, gAll_map, rngOk_lit, smallI_lit, divOk_lit, Int.cast_ofNat_Int, Int.natCast_zero, Int.natCast_one, Int.reduceToNat, Int.reduceNeg, Int.reduceLE, Int.reduceLT, Int.reduceAdd, Int.reduceSub, Int.reduceMul, Int.reducePow, Nat.reduceMul, Nat.reducePow, Nat.reduceBEq, cast_beqL, cast_bneL, Nat.reduceBeqDiff, Nat.reduceBneDiff, eqv_str, eqv_int, ofString_beq, ofString_bne, String.reduceBEq, String.reduceBNe, shaped_strS, List.any_cons, List.any_nil, flatD, List.all_cons, List.all_nil, fFld, fMeth, fMake, fInit, endI, fSetFld, toWM, wR, fLook, putFW, List.lookup_cons, List.lookup_nil, Option.isNone, dk, putSub, gSub2, gIn2, keyD, fExt, Option.map_some, Option.map_none, Int.reduceBEq, Int.reduceBNe, and_self, decide_false, List.take_succ_cons, List.take_zero, List.drop_succ_cons, List.drop_zero, Int.natAbs_one, ↓bind_bd, bd_ok, bd_cond, ↓e]
    | @tup n ds hl hd =>
      have q := compL_map (sg := [some (.d (.tuple ds)), some (.d (.tuple ds)), none]) (i := 2) (S := S) (fe := fCall 2 (d__law_same N) (fCons (yIx (fVar 0) (fVar 2)) (fCons (yIx (fVar 1) (fVar 2)) fNil))) (g := fun _ => .bool true) (xs := rangeD 0 ds.length) (fun x hx => by
        obtain ⟨k, hk, rfl⟩ : ∃ k, k < ds.length ∧ x = .int (0 + (k : Nat)) := by
          simp only [rangeD, List.mem_map, List.mem_range] at hx
          obtain ⟨k, hk, rfl⟩ := hx
          exact ⟨k, hk, rfl⟩
        have e := Dl.atI_nat ds k
        rw [List.getElem?_eq_getElem hk] at e
        have ih := same_ev N n ds[k] S (hd _ (List.getElem_mem hk)) (by omega)
        simp only [fDef, fRet, fRetN, fSeq, fIfS, fTru, fBoo, fAndT, fOrT, fNotT, fAndV, fOrV, fNotV, fIf, fVar, fC, fCall, fCons, fNil, fBin, fUn, on2, on1, pk, pkW, toD, toW, wD, wsD, gate_true, noX_ok, viewsOf, onA, fCB, startG, finD, fIsi, noX_cond, fNext, fDrop, fSet, fSetM, fTup, fLst, fAsgT, bTup, bAll, bName, List.getElem?_cons_zero, List.getElem?_cons_succ, List.map_cons, List.map_nil, List.length_cons, List.length_nil, List.replicate, Nat.reduceAdd, Nat.reduceSub, Nat.zero_add, Nat.sub_self, List.append_nil, List.cons_append, List.nil_append, List.take_length, decide_true, gate_dec, okD, truD, List.set_cons_zero, List.set_cons_succ, cond_true, cond_false, gLen, gAdd, Dl.gSub, gNeg, gEq_int, gNe_int, gLt, gGt, gLe, gGe, cond_and_d, cond_and_d', cond_or_d, cond_or_t, cond_and_t, cond_id, isInt, isBool, isTup, isStr, isLst, gIx, fNoP, fPart, fChain, gList, gTuple, fSeqI, take_app, fComp, fYes, wipeG, atI_0, atI_1, atI_2, atI_3, Bool.and_true, Bool.true_and, Bool.and_false, Bool.false_and, Bool.or_true, Bool.true_or, Bool.or_false, Bool.false_or, Bool.not_true, Bool.not_false, lim, Nat.reduceLeDiff, Nat.reduceLT, cast_beq, Option.map_some, shaped_int, fSetSub, ixN_40, ixN_41, ixN_42, ixN_43, fUpd, uAppend, get_last, set_last, if_true, if_false, not_lt_self, cutL_toI, cutL_fromI, Bool.true_xor, Bool.false_xor, gAll_map, rngOk_lit, smallI_lit, divOk_lit, Int.cast_ofNat_Int, Int.natCast_zero, Int.natCast_one, Int.reduceToNat, Int.reduceNeg, Int.reduceLE, Int.reduceLT, Int.reduceAdd, Int.reduceSub, Int.reduceMul, Int.reducePow, Nat.reduceMul, Nat.reducePow, Nat.reduceBEq, cast_beqL, cast_bneL, Nat.reduceBeqDiff, Nat.reduceBneDiff, eqv_str, eqv_int, ofString_beq, ofString_bne, String.reduceBEq, String.reduceBNe, shaped_strS, List.any_cons, List.any_nil, flatD, List.all_cons, List.all_nil, fFld, fMeth, fMake, fInit, endI, fSetFld, toWM, wR, fLook, putFW, List.lookup_cons, List.lookup_nil, Option.isNone, dk, putSub, gSub2, gIn2, keyD, fExt, Option.map_some, Option.map_none, Int.reduceBEq, Int.reduceBNe, and_self, decide_false, List.take_succ_cons, List.take_zero, List.drop_succ_cons, List.drop_zero, Int.natAbs_one, ↓bind_bd, bd_ok, bd_cond, Int.zero_add, e, ih])
      have hl2 : (rangeD 0 ds.length).length ≤ 1000000 := by rw [rangeD_len]; omega
      have hr : rngOk (ds.length : Int) = true := by simp [rngOk]; omega
      simp only [d__law_same]
      simp only [fDef, fRet, fRetN, fSeq, fIfS, fTru, fBoo, fAndT, fOrT, fNotT, fAndV, fOrV, fNotV, fIf, fVar, fC, fCall, fCons, fNil, fBin, fUn, on2, on1, pk, pkW, toD, toW, wD, wsD, gate_true, noX_ok, viewsOf, onA, fCB, startG, finD, fIsi, noX_cond, fNext, fDrop, fSet, fSetM, fTup, fLst, fAsgT, bTup, bAll, bName, List.getElem?_cons_zero, List.getElem?_cons_succ, List.map_cons, List.map_nil, List.length_cons, List.length_nil, List.replicate, Nat.reduceAdd, Nat.reduceSub, Nat.zero_add, Nat.sub_self, List.append_nil, List.cons_append, List.nil_append, List.take_length, decide_true, gate_dec, okD, truD, List.set_cons_zero, List.set_cons_succ, cond_true, cond_false, gLen, gAdd, Dl.gSub, gNeg, gEq_int, gNe_int, gLt, gGt, gLe, gGe, cond_and_d, cond_and_d', cond_or_d, cond_or_t, cond_and_t, cond_id, isInt, isBool, isTup, isStr, isLst, gIx, fNoP, fPart, fChain, gList, gTuple, fSeqI, take_app, fComp, fYes, wipeG, atI_0, atI_1, atI_2, atI_3, Bool.and_true, Bool.true_and, Bool.and_false, Bool.false_and, Bool.or_true, Bool.true_or, Bool.or_false, Bool.false_or, Bool.not_true, Bool.not_false, lim, Nat.reduceLeDiff, Nat.reduceLT, cast_beq, Option.map_some, shaped_int, fSetSub, ixN_40, ixN_41, ixN_42, ixN_43, fUpd, uAppend, get_last, set_last, if_true, if_false, not_lt_self, cutL_toI, cutL_fromI, Bool.true_xor, Bool.false_xor, gAll_map, rngOk_lit, smallI_lit, divOk_lit, Int.cast_ofNat_Int, Int.natCast_zero, Int.natCast_one, Int.reduceToNat, Int.reduceNeg, Int.reduceLE, Int.reduceLT, Int.reduceAdd, Int.reduceSub, Int.reduceMul, Int.reducePow, Nat.reduceMul, Nat.reducePow, Nat.reduceBEq, cast_beqL, cast_bneL, Nat.reduceBeqDiff, Nat.reduceBneDiff, eqv_str, eqv_int, ofString_beq, ofString_bne, String.reduceBEq, String.reduceBNe, shaped_strS, List.any_cons, List.any_nil, flatD, List.all_cons, List.all_nil, fFld, fMeth, fMake, fInit, endI, fSetFld, toWM, wR, fLook, putFW, List.lookup_cons, List.lookup_nil, Option.isNone, dk, putSub, gSub2, gIn2, keyD, fExt, Option.map_some, Option.map_none, Int.reduceBEq, Int.reduceBNe, and_self, decide_false, List.take_succ_cons, List.take_zero, List.drop_succ_cons, List.drop_zero, Int.natAbs_one, ↓bind_bd, bd_ok, bd_cond, fRange1, hr, Int.toNat_natCast, hl2, q, gAll_map, show ((ds.length : Int) != (ds.length : Int)) = false by simp]
      simp
end K25
set_option maxHeartbeats 1000000
namespace K25
open PySem L2 Dl
def nm (w : Int) : Str := Str.ofString "w_" ++ Str.ofString (toString w)
theorem nm_all : ((List.range 16).all fun (i : Nat) => decide ((Str.ofString "w_").length + (Str.ofString (toString (i : Int))).length ≤ 1000000) && (PyData.strOk (nm (i : Int)) && ((List.range 16).all fun (j : Nat) => decide (nm (i : Int) = nm (j : Int) → i = j)))) = true := by decide +kernel
/-- a wire of a slice -/
def Wr (w : Int) : Prop := 0 ≤ w ∧ w < 16
theorem nm_len {w : Int} (h : Wr w) : decide ((Str.ofString "w_").length + (Str.ofString (toString w)).length ≤ 1000000) = true := by
  obtain ⟨i, rfl⟩ := Int.eq_ofNat_of_zero_le h.1
  have := List.all_eq_true.mp nm_all i (List.mem_range.mpr (by have := h.2; omega))
  simp only [Bool.and_eq_true] at this
  exact this.1
theorem nm_ok {w : Int} (h : Wr w) : PyData.strOk (nm w) = true := by
  obtain ⟨i, rfl⟩ := Int.eq_ofNat_of_zero_le h.1
  have := List.all_eq_true.mp nm_all i (List.mem_range.mpr (by have := h.2; omega))
  simp only [Bool.and_eq_true] at this
  exact this.2.1
theorem nm_inj {w v : Int} (h : Wr w) (hv : Wr v) (e : nm w = nm v) : w = v := by
  obtain ⟨i, rfl⟩ := Int.eq_ofNat_of_zero_le h.1
  obtain ⟨j, rfl⟩ := Int.eq_ofNat_of_zero_le hv.1
  have := List.all_eq_true.mp nm_all i (List.mem_range.mpr (by have := h.2; omega))
  simp only [Bool.and_eq_true] at this
  have := of_decide_eq_true (List.all_eq_true.mp this.2.2 j (List.mem_range.mpr (by have := hv.2; omega))) e
  rw [this]
theorem abs_ok {w : Int} (h : Wr w) : decide (w.natAbs < 2 ^ 256) = true := decide_eq_true (by have := h.1; have := h.2; omega)
theorem name_ev (w : Int) (S : Sto) (h : Wr w) : d_wire_name [.d (.int w)] S = .ok (.d (.str (nm w))) S := by
  have h1 := abs_ok h
  unfold d_wire_name
  simp only [fDef, fRet, fRetN, fSeq, fIfS, fTru, fBoo, fAndT, fOrT, fNotT, fAndV, fOrV, fNotV, fIf, fVar, fC, fCall, fCons, fNil, fBin, fUn, on2, on1, pk, pkW, toD, toW, wD, wsD, gate_true, noX_ok, viewsOf, onA, fCB, startG, finD, fIsi, noX_cond, fNext, fDrop, fSet, fSetM, fTup, fLst, fAsgT, bTup, bAll, bName, List.getElem?_cons_zero, List.getElem?_cons_succ, List.map_cons, List.map_nil, List.length_cons, List.length_nil, List.replicate, Nat.reduceAdd, Nat.reduceSub, Nat.zero_add, Nat.sub_self, List.append_nil, List.cons_append, List.nil_append, List.take_length, decide_true, gate_dec, okD, truD, List.set_cons_zero, List.set_cons_succ, cond_true, cond_false, gLen, gAdd, Dl.gSub, gNeg, gEq_int, gNe_int, gLt, gGt, gLe, gGe, cond_and_d, cond_and_d', cond_or_d, cond_or_t, cond_and_t, cond_id, isInt, isBool, isTup, isStr, isLst, gIx, fNoP, fPart, fChain, gList, gTuple, fSeqI, take_app, fComp, fYes, wipeG, atI_0, atI_1, atI_2, atI_3, Bool.and_true, Bool.true_and, Bool.and_false, Bool.false_and, Bool.or_true, Bool.true_or, Bool.or_false, Bool.false_or, Bool.not_true, Bool.not_false, lim, Nat.reduceLeDiff, Nat.reduceLT, cast_beq, Option.map_some, shaped_int, fSetSub, ixN_40, ixN_41, ixN_42, ixN_43, fUpd, uAppend, get_last, set_last, if_true, if_false, not_lt_self, cutL_toI, cutL_fromI, Bool.true_xor, Bool.false_xor, gAll_map, rngOk_lit, smallI_lit, divOk_lit, Int.cast_ofNat_Int, Int.natCast_zero, Int.natCast_one, Int.reduceToNat, Int.reduceNeg, Int.reduceLE, Int.reduceLT, Int.reduceAdd, Int.reduceSub, Int.reduceMul, Int.reducePow, Nat.reduceMul, Nat.reducePow, Nat.reduceBEq, cast_beqL, cast_bneL, Nat.reduceBeqDiff, Nat.reduceBneDiff, eqv_str, eqv_int, ofString_beq, ofString_bne, String.reduceBEq, String.reduceBNe, shaped_strS, List.any_cons, List.any_nil, flatD, List.all_cons, List.all_nil, fFld, fMeth, fMake, fInit, endI, fSetFld, toWM, wR, fLook, putFW, List.lookup_cons, List.lookup_nil, Option.isNone, dk, putSub, gSub2, gIn2, keyD, fExt, Option.map_some, Option.map_none, Int.reduceBEq, Int.reduceBNe, and_self, decide_false, List.take_succ_cons, List.take_zero, List.drop_succ_cons, List.drop_zero, Int.natAbs_one, ↓bind_bd, bd_ok, bd_cond, gStr, h1, nm_len h, nm]
theorem sums_snoc : ∀ (ps kvs : Prs), ND (kvs ++ ps) → ps.foldl (fun acc p => addL acc p.1 p.2) kvs = kvs ++ ps
  | [], kvs, _ => by simp
  | (k, c) :: ps, kvs, h => by
    have e : addL kvs k c = kvs ++ [(k, c)] := by
      have hk : k ∉ kvs.map (·.1) := by
        unfold ND at h
        rw [List.map_append, List.map_cons] at h
        exact fun hm => (List.nodup_append.mp h).2.2 k hm k (by simp) rfl
      clear h
      induction kvs with
      | nil => simp [addL]
      | cons p r ih =>
        obtain ⟨x, v⟩ := p
        simp only [List.map_cons, List.mem_cons, not_or] at hk
        unfold addL
        rw [if_neg (fun e => hk.1 e.symm), ih hk.2]
        rfl
    rw [List.foldl_cons, e, sums_snoc ps (kvs ++ [(k, c)]) (by simpa using h)]
    simp
theorem sums_nd' {ps : Prs} (h : ND ps) : sums ps = ps := by
  unfold sums
  rw [sums_snoc ps [] (by simpa using h)]
  simp
theorem encPut {kvs : Prs} {k : Str} {c : Int} (h : k ∉ kvs.map (·.1)) : dPut (enc kvs) (.inr k) (.int c) = enc (kvs ++ [(k, c)]) := by
  have e : (enc kvs).any (fun kv => decide (kv.1 = .inr k)) = false := by
    rw [List.any_eq_false]
    intro x hx
    obtain ⟨p, hp, rfl⟩ := List.mem_map.mp hx
    simp only [decide_eq_true_eq, Sum.inr.injEq]
    exact fun e => h (List.mem_map.mpr ⟨p, hp, e⟩)
  unfold dPut
  rw [e]
  simp [enc]
/-- the equation's pairs -/
def prsW (w0 w1 w2 w3 w4 n0 n1 n2 n3 n4 : Int) : Prs := [(nm w0, n0), (nm w1, n1), (nm w2, n2), (nm w3, n3), (nm w4, n4)]
section
variable {w0 w1 w2 w3 w4 n0 n1 n2 n3 n4 : Int}
theorem wr5 (h : Ds w0 w1 w2 w3 w4) (h2 : w4 ≤ 11) : Wr w0 ∧ Wr w1 ∧ Wr w2 ∧ Wr w3 ∧ Wr w4 := by unfold Wr Ds at *; omega
theorem prs_nd (h : Ds w0 w1 w2 w3 w4) (h2 : w4 ≤ 11) : ND (prsW w0 w1 w2 w3 w4 n0 n1 n2 n3 n4) := by
  obtain ⟨a0, a1, a2, a3, a4⟩ := wr5 h h2
  obtain ⟨h0, h1, h3, h4, h5⟩ := h
  have ne : ∀ {x y : Int}, Wr x → Wr y → x < y → nm x ≠ nm y := fun hx hy hl e => by have := nm_inj hx hy e; omega
  simp only [ND, prsW, List.map_cons, List.map_nil, List.nodup_cons, List.mem_cons, List.not_mem_nil, or_false, not_or, List.nodup_nil, and_true, not_false_eq_true]
  exact ⟨⟨ne a0 a1 (by omega), ne a0 a2 (by omega), ne a0 a3 (by omega), ne a0 a4 (by omega)⟩, ⟨ne a1 a2 (by omega), ne a1 a3 (by omega), ne a1 a4 (by omega)⟩, ⟨ne a2 a3 (by omega), ne a2 a4 (by omega)⟩, ne a3 a4 (by omega)⟩
theorem eq_form_ev (h : Ds w0 w1 w2 w3 w4) (h2 : w4 ≤ 11) (S : Sto) : d_equation_form [.d (.tuple [wD5 w0 w1 w2 w3 w4, wD5 n0 n1 n2 n3 n4, .int 0])] S = .ok (.d (formD 0 (prsW w0 w1 w2 w3 w4 n0 n1 n2 n3 n4))) S := by
  obtain ⟨a0, a1, a2, a3, a4⟩ := wr5 h h2
  have f := form_ev 0 (prsW w0 w1 w2 w3 w4 n0 n1 n2 n3 n4) S (by simp [prsW])
  unfold wD5 at *
  unfold d_equation_form
  simp only [prsW, List.map_cons, List.map_nil, prD] at f
  simp only [fDef, fRet, fRetN, fSeq, fIfS, fTru, fBoo, fAndT, fOrT, fNotT, fAndV, fOrV, fNotV, fIf, fVar, fC, fCall, fCons, fNil, fBin, fUn, on2, on1, pk, pkW, toD, toW, wD, wsD, gate_true, noX_ok, viewsOf, onA, fCB, startG, finD, fIsi, noX_cond, fNext, fDrop, fSet, fSetM, fTup, fLst, fAsgT, bTup, bAll, bName, List.getElem?_cons_zero, List.getElem?_cons_succ, List.map_cons, List.map_nil, List.length_cons, List.length_nil, List.replicate, Nat.reduceAdd, Nat.reduceSub, Nat.zero_add, Nat.sub_self, List.append_nil, List.cons_append, List.nil_append, List.take_length, decide_true, gate_dec, okD, truD, List.set_cons_zero, List.set_cons_succ, cond_true, cond_false, gLen, gAdd, Dl.gSub, gNeg, gEq_int, gNe_int, gLt, gGt, gLe, gGe, cond_and_d, cond_and_d', cond_or_d, cond_or_t, cond_and_t, cond_id, isInt, isBool, isTup, isStr, isLst, gIx, fNoP, fPart, fChain, gList, gTuple, fSeqI, take_app, fComp, fYes, wipeG, atI_0, atI_1, atI_2, atI_3, Bool.and_true, Bool.true_and, Bool.and_false, Bool.false_and, Bool.or_true, Bool.true_or, Bool.or_false, Bool.false_or, Bool.not_true, Bool.not_false, lim, Nat.reduceLeDiff, Nat.reduceLT, cast_beq, Option.map_some, shaped_int, fSetSub, ixN_40, ixN_41, ixN_42, ixN_43, fUpd, uAppend, get_last, set_last, if_true, if_false, not_lt_self, cutL_toI, cutL_fromI, Bool.true_xor, Bool.false_xor, gAll_map, rngOk_lit, smallI_lit, divOk_lit, Int.cast_ofNat_Int, Int.natCast_zero, Int.natCast_one, Int.reduceToNat, Int.reduceNeg, Int.reduceLE, Int.reduceLT, Int.reduceAdd, Int.reduceSub, Int.reduceMul, Int.reducePow, Nat.reduceMul, Nat.reducePow, Nat.reduceBEq, cast_beqL, cast_bneL, Nat.reduceBeqDiff, Nat.reduceBneDiff, eqv_str, eqv_int, ofString_beq, ofString_bne, String.reduceBEq, String.reduceBNe, shaped_strS, List.any_cons, List.any_nil, flatD, List.all_cons, List.all_nil, fFld, fMeth, fMake, fInit, endI, fSetFld, toWM, wR, fLook, putFW, List.lookup_cons, List.lookup_nil, Option.isNone, dk, putSub, gSub2, gIn2, keyD, fExt, Option.map_some, Option.map_none, Int.reduceBEq, Int.reduceBNe, and_self, decide_false, List.take_succ_cons, List.take_zero, List.drop_succ_cons, List.drop_zero, Int.natAbs_one, ↓bind_bd, bd_ok, bd_cond, fZip, zipD, compL, name_ev w0 S a0, name_ev w1 S a1, name_ev w2 S a2, name_ev w3 S a3, name_ev w4 S a4, f]
  rfl
theorem law_form_ev (h : Ds w0 w1 w2 w3 w4) (h2 : w4 ≤ 11) (S : Sto) : d__law_form_of [.d (.tuple [wD5 w0 w1 w2 w3 w4, wD5 n0 n1 n2 n3 n4, .int 0])] S = .ok (.d (formD 0 (prsW w0 w1 w2 w3 w4 n0 n1 n2 n3 n4))) S := by
  obtain ⟨a0, a1, a2, a3, a4⟩ := wr5 h h2
  have nd := prs_nd (n0 := n0) (n1 := n1) (n2 := n2) (n3 := n3) (n4 := n4) h h2
  have es := sums_nd' nd
  have ne : ∀ {x y : Int}, Wr x → Wr y → x < y → ¬ nm x = nm y := fun hx hy hl e => by have := nm_inj hx hy e; omega
  have hd := h
  obtain ⟨h0, h1, h3, h4, h5⟩ := hd
  have q1 : dPut ([] : List (Key × D)) (.inr (nm w0)) (.int n0) = enc [(nm w0, n0)] := rfl
  have q2 : dPut (enc [(nm w0, n0)]) (.inr (nm w1)) (.int n1) = enc [(nm w0, n0), (nm w1, n1)] := encPut (by simp [Ne.symm (ne a0 a1 (by omega))])
  have q3 : dPut (enc [(nm w0, n0), (nm w1, n1)]) (.inr (nm w2)) (.int n2) = enc [(nm w0, n0), (nm w1, n1), (nm w2, n2)] := encPut (by simp [Ne.symm (ne a0 a2 (by omega)), Ne.symm (ne a1 a2 (by omega))])
  have q4 : dPut (enc [(nm w0, n0), (nm w1, n1), (nm w2, n2)]) (.inr (nm w3)) (.int n3) = enc [(nm w0, n0), (nm w1, n1), (nm w2, n2), (nm w3, n3)] := encPut (by simp [Ne.symm (ne a0 a3 (by omega)), Ne.symm (ne a1 a3 (by omega)), Ne.symm (ne a2 a3 (by omega))])
  have q5 : dPut (enc [(nm w0, n0), (nm w1, n1), (nm w2, n2), (nm w3, n3)]) (.inr (nm w4)) (.int n4) = enc (prsW w0 w1 w2 w3 w4 n0 n1 n2 n3 n4) := encPut (by simp [Ne.symm (ne a0 a4 (by omega)), Ne.symm (ne a1 a4 (by omega)), Ne.symm (ne a2 a4 (by omega)), Ne.symm (ne a3 a4 (by omega))])
  have z1 : (enc [(nm w0, n0)]).length < 1000000 := by simp [enc]
  have z2 : (enc [(nm w0, n0), (nm w1, n1)]).length < 1000000 := by simp [enc]
  have z3 : (enc [(nm w0, n0), (nm w1, n1), (nm w2, n2)]).length < 1000000 := by simp [enc]
  have z4 : (enc [(nm w0, n0), (nm w1, n1), (nm w2, n2), (nm w3, n3)]).length < 1000000 := by simp [enc]
  unfold nm at q1 q2 q3 q4 q5 z1 z2 z3 z4
  have hlen : (prsW w0 w1 w2 w3 w4 n0 n1 n2 n3 n4).length = 5 := rfl
  generalize hP : prsW w0 w1 w2 w3 w4 n0 n1 n2 n3 n4 = P at *
  have e1 := strsK_enc P
  have e2 : decide ((P.map (·.1)).length < 64) = true := decide_eq_true (by simp; omega)
  have e3 : (((sortS (P.map (·.1))).map PyData.str).length ≤ 1000000) = True := eq_true (by
    rw [List.length_map, (sortS_perm _).length_eq, List.length_map]; omega)
  have q := fun {u0 u2} => compL_filterJ (f := fun (k : Str) => PyData.str k) (sg := [u0, some (.ref S.length), u2, none]) (i := 3) (S := S ++ [.dct (enc P)]) (ft := (fBoo (fBin kNe (yIx (fVar 1) (fVar 3)) (fC (.int 0))))) (fe := (fTup (fCons (fVar 3) (fCons (yIx (fVar 1) (fVar 3)) (fNil))))) (p := fun k => getL P k != 0) (g := fun k => prD (k, getL P k)) (xs := sortS (P.map (·.1))) (fun k hk => by
    have hm : k ∈ P.map (·.1) := (sortS_perm _).subset hk
    have e := enc_get2 hm
    exact ⟨by simp only [fDef, fRet, fRetN, fSeq, fIfS, fTru, fBoo, fAndT, fOrT, fNotT, fAndV, fOrV, fNotV, fIf, fVar, fC, fCall, fCons, fNil, fBin, fUn, on2, on1, pk, pkW, toD, toW, wD, wsD, gate_true, noX_ok, viewsOf, onA, fCB, startG, finD, fIsi, noX_cond, fNext, fDrop, fSet, fSetM, fTup, fLst, fAsgT, bTup, bAll, bName, List.getElem?_cons_zero, List.getElem?_cons_succ, List.map_cons, List.map_nil, List.length_cons, List.length_nil, List.replicate, Nat.reduceAdd, Nat.reduceSub, Nat.zero_add, Nat.sub_self, List.append_nil, List.cons_append, List.nil_append, List.take_length, decide_true, gate_dec, okD, truD, List.set_cons_zero, List.set_cons_succ, cond_true, cond_false, gLen, gAdd, Dl.gSub, gNeg, gEq_int, gNe_int, gLt, gGt, gLe, gGe, cond_and_d, cond_and_d', cond_or_d, cond_or_t, cond_and_t, cond_id, isInt, isBool, isTup, isStr, isLst, gIx, fNoP, fPart, fChain, gList, gTuple, fSeqI, take_app, fComp, fYes, wipeG, atI_0, atI_1, atI_2, atI_3, Bool.and_true, Bool.true_and, Bool.and_false, Bool.false_and, Bool.or_true, Bool.true_or, Bool.or_false, Bool.false_or, Bool.not_true, Bool.not_false, lim, Nat.reduceLeDiff, Nat.reduceLT, cast_beq, Option.map_some, shaped_int, fSetSub, ixN_40, ixN_41, ixN_42, ixN_43, fUpd, uAppend, get_last, set_last, if_true, if_false, not_lt_self, cutL_toI, cutL_fromI, Bool.true_xor, Bool.false_xor, gAll_map, rngOk_lit, smallI_lit, divOk_lit, Int.cast_ofNat_Int, Int.natCast_zero, Int.natCast_one, Int.reduceToNat, Int.reduceNeg, Int.reduceLE, Int.reduceLT, Int.reduceAdd, Int.reduceSub, Int.reduceMul, Int.reducePow, Nat.reduceMul, Nat.reducePow, Nat.reduceBEq, cast_beqL, cast_bneL, Nat.reduceBeqDiff, Nat.reduceBneDiff, eqv_str, eqv_int, ofString_beq, ofString_bne, String.reduceBEq, String.reduceBNe, shaped_strS, List.any_cons, List.any_nil, flatD, List.all_cons, List.all_nil, fFld, fMeth, fMake, fInit, endI, fSetFld, toWM, wR, fLook, putFW, List.lookup_cons, List.lookup_nil, Option.isNone, dk, putSub, gSub2, gIn2, keyD, fExt, Option.map_some, Option.map_none, Int.reduceBEq, Int.reduceBNe, and_self, decide_false, List.take_succ_cons, List.take_zero, List.drop_succ_cons, List.drop_zero, Int.natAbs_one, ↓bind_bd, bd_ok, bd_cond, e], fun _ => by simp only [fDef, fRet, fRetN, fSeq, fIfS, fTru, fBoo, fAndT, fOrT, fNotT, fAndV, fOrV, fNotV, fIf, fVar, fC, fCall, fCons, fNil, fBin, fUn, on2, on1, pk, pkW, toD, toW, wD, wsD, gate_true, noX_ok, viewsOf, onA, fCB, startG, finD, fIsi, noX_cond, fNext, fDrop, fSet, fSetM, fTup, fLst, fAsgT, bTup, bAll, bName, List.getElem?_cons_zero, List.getElem?_cons_succ, List.map_cons, List.map_nil, List.length_cons, List.length_nil, List.replicate, Nat.reduceAdd, Nat.reduceSub, Nat.zero_add, Nat.sub_self, List.append_nil, List.cons_append, List.nil_append, List.take_length, decide_true, gate_dec, okD, truD, List.set_cons_zero, List.set_cons_succ, cond_true, cond_false, gLen, gAdd, Dl.gSub, gNeg, gEq_int, gNe_int, gLt, gGt, gLe, gGe, cond_and_d, cond_and_d', cond_or_d, cond_or_t, cond_and_t, cond_id, isInt, isBool, isTup, isStr, isLst, gIx, fNoP, fPart, fChain, gList, gTuple, fSeqI, take_app, fComp, fYes, wipeG, atI_0, atI_1, atI_2, atI_3, Bool.and_true, Bool.true_and, Bool.and_false, Bool.false_and, Bool.or_true, Bool.true_or, Bool.or_false, Bool.false_or, Bool.not_true, Bool.not_false, lim, Nat.reduceLeDiff, Nat.reduceLT, cast_beq, Option.map_some, shaped_int, fSetSub, ixN_40, ixN_41, ixN_42, ixN_43, fUpd, uAppend, get_last, set_last, if_true, if_false, not_lt_self, cutL_toI, cutL_fromI, Bool.true_xor, Bool.false_xor, gAll_map, rngOk_lit, smallI_lit, divOk_lit, Int.cast_ofNat_Int, Int.natCast_zero, Int.natCast_one, Int.reduceToNat, Int.reduceNeg, Int.reduceLE, Int.reduceLT, Int.reduceAdd, Int.reduceSub, Int.reduceMul, Int.reducePow, Nat.reduceMul, Nat.reducePow, Nat.reduceBEq, cast_beqL, cast_bneL, Nat.reduceBeqDiff, Nat.reduceBneDiff, eqv_str, eqv_int, ofString_beq, ofString_bne, String.reduceBEq, String.reduceBNe, shaped_strS, List.any_cons, List.any_nil, flatD, List.all_cons, List.all_nil, fFld, fMeth, fMake, fInit, endI, fSetFld, toWM, wR, fLook, putFW, List.lookup_cons, List.lookup_nil, Option.isNone, dk, putSub, gSub2, gIn2, keyD, fExt, Option.map_some, Option.map_none, Int.reduceBEq, Int.reduceBNe, and_self, decide_false, List.take_succ_cons, List.take_zero, List.drop_succ_cons, List.drop_zero, Int.natAbs_one, ↓bind_bd, bd_ok, bd_cond, e, prD]⟩)
  have e4 : ((List.filter (fun k => getL P k != 0) (sortS (List.map (fun x => x.fst) P))).map fun k => prD (k, getL P k)) = (resL P).map prD := by
    unfold resL; rw [es, List.map_map]; rfl
  rw [e4] at q
  unfold d__law_form_of wD5
  simp only [fDef, fRet, fRetN, fSeq, fIfS, fTru, fBoo, fAndT, fOrT, fNotT, fAndV, fOrV, fNotV, fIf, fVar, fC, fCall, fCons, fNil, fBin, fUn, on2, on1, pk, pkW, toD, toW, wD, wsD, gate_true, noX_ok, viewsOf, onA, fCB, startG, finD, fIsi, noX_cond, fNext, fDrop, fSet, fSetM, fTup, fLst, fAsgT, bTup, bAll, bName, List.getElem?_cons_zero, List.getElem?_cons_succ, List.map_cons, List.map_nil, List.length_cons, List.length_nil, List.replicate, Nat.reduceAdd, Nat.reduceSub, Nat.zero_add, Nat.sub_self, List.append_nil, List.cons_append, List.nil_append, List.take_length, decide_true, gate_dec, okD, truD, List.set_cons_zero, List.set_cons_succ, cond_true, cond_false, gLen, gAdd, Dl.gSub, gNeg, gEq_int, gNe_int, gLt, gGt, gLe, gGe, cond_and_d, cond_and_d', cond_or_d, cond_or_t, cond_and_t, cond_id, isInt, isBool, isTup, isStr, isLst, gIx, fNoP, fPart, fChain, gList, gTuple, fSeqI, take_app, fComp, fYes, wipeG, atI_0, atI_1, atI_2, atI_3, Bool.and_true, Bool.true_and, Bool.and_false, Bool.false_and, Bool.or_true, Bool.true_or, Bool.or_false, Bool.false_or, Bool.not_true, Bool.not_false, lim, Nat.reduceLeDiff, Nat.reduceLT, cast_beq, Option.map_some, shaped_int, fSetSub, ixN_40, ixN_41, ixN_42, ixN_43, fUpd, uAppend, get_last, set_last, if_true, if_false, not_lt_self, cutL_toI, cutL_fromI, Bool.true_xor, Bool.false_xor, gAll_map, rngOk_lit, smallI_lit, divOk_lit, Int.cast_ofNat_Int, Int.natCast_zero, Int.natCast_one, Int.reduceToNat, Int.reduceNeg, Int.reduceLE, Int.reduceLT, Int.reduceAdd, Int.reduceSub, Int.reduceMul, Int.reducePow, Nat.reduceMul, Nat.reducePow, Nat.reduceBEq, cast_beqL, cast_bneL, Nat.reduceBeqDiff, Nat.reduceBneDiff, eqv_str, eqv_int, ofString_beq, ofString_bne, String.reduceBEq, String.reduceBNe, shaped_strS, List.any_cons, List.any_nil, flatD, List.all_cons, List.all_nil, fFld, fMeth, fMake, fInit, endI, fSetFld, toWM, wR, fLook, putFW, List.lookup_cons, List.lookup_nil, Option.isNone, dk, putSub, gSub2, gIn2, keyD, fExt, Option.map_some, Option.map_none, Int.reduceBEq, Int.reduceBNe, and_self, decide_false, List.take_succ_cons, List.take_zero, List.drop_succ_cons, List.drop_zero, Int.natAbs_one, ↓bind_bd, bd_ok, bd_cond, rg5, fRange1, fDNew, fFor, forL, fRange1, ix5_0, ix5_4, gStr, abs_ok a0, abs_ok a1, abs_ok a2, abs_ok a3, abs_ok a4, nm_len a0, nm_len a1, nm_len a2, nm_len a3, nm_len a4, q1, q2, q3, q4, q5, z1, z2, z3, z4, fCBW, gSorted, dkW, gSortK, get_last, set_last, e1, e2, e3, q, formD]
end
theorem is_integer_int (i : Int) (S : Sto) : d_is_integer [.d (.int i)] S = .ok (.d (.bool true)) S := by
  unfold d_is_integer
  simp only [fDef, fRet, fRetN, fSeq, fIfS, fTru, fBoo, fAndT, fOrT, fNotT, fAndV, fOrV, fNotV, fIf, fVar, fC, fCall, fCons, fNil, fBin, fUn, on2, on1, pk, pkW, toD, toW, wD, wsD, gate_true, noX_ok, viewsOf, onA, fCB, startG, finD, fIsi, noX_cond, fNext, fDrop, fSet, fSetM, fTup, fLst, fAsgT, bTup, bAll, bName, List.getElem?_cons_zero, List.getElem?_cons_succ, List.map_cons, List.map_nil, List.length_cons, List.length_nil, List.replicate, Nat.reduceAdd, Nat.reduceSub, Nat.zero_add, Nat.sub_self, List.append_nil, List.cons_append, List.nil_append, List.take_length, decide_true, gate_dec, okD, truD, List.set_cons_zero, List.set_cons_succ, cond_true, cond_false, gLen, gAdd, Dl.gSub, gNeg, gEq_int, gNe_int, gLt, gGt, gLe, gGe, cond_and_d, cond_and_d', cond_or_d, cond_or_t, cond_and_t, cond_id, isInt, isBool, isTup, isStr, isLst, gIx, fNoP, fPart, fChain, gList, gTuple, fSeqI, take_app, fComp, fYes, wipeG, atI_0, atI_1, atI_2, atI_3, Bool.and_true, Bool.true_and, Bool.and_false, Bool.false_and, Bool.or_true, Bool.true_or, Bool.or_false, Bool.false_or, Bool.not_true, Bool.not_false, lim, Nat.reduceLeDiff, Nat.reduceLT, cast_beq, Option.map_some, shaped_int, fSetSub, ixN_40, ixN_41, ixN_42, ixN_43, fUpd, uAppend, get_last, set_last, if_true, if_false, not_lt_self, cutL_toI, cutL_fromI, Bool.true_xor, Bool.false_xor, gAll_map, rngOk_lit, smallI_lit, divOk_lit, Int.cast_ofNat_Int, Int.natCast_zero, Int.natCast_one, Int.reduceToNat, Int.reduceNeg, Int.reduceLE, Int.reduceLT, Int.reduceAdd, Int.reduceSub, Int.reduceMul, Int.reducePow, Nat.reduceMul, Nat.reducePow, Nat.reduceBEq, cast_beqL, cast_bneL, Nat.reduceBeqDiff, Nat.reduceBneDiff, eqv_str, eqv_int, ofString_beq, ofString_bne, String.reduceBEq, String.reduceBNe, shaped_strS, List.any_cons, List.any_nil, flatD, List.all_cons, List.all_nil, fFld, fMeth, fMake, fInit, endI, fSetFld, toWM, wR, fLook, putFW, List.lookup_cons, List.lookup_nil, Option.isNone, dk, putSub, gSub2, gIn2, keyD, fExt, Option.map_some, Option.map_none, Int.reduceBEq, Int.reduceBNe, and_self, decide_false, List.take_succ_cons, List.take_zero, List.drop_succ_cons, List.drop_zero, Int.natAbs_one, ↓bind_bd, bd_ok, bd_cond]
theorem is_wire_ev {w : Int} (h0 : 0 < w) (h1 : w ≤ 11) (S : Sto) : d_is_wire [.d (.int w), .d (.int 12)] S = .ok (.d (.bool true)) S := by
  have e1 : decide (w ≥ 0) = true := decide_eq_true (by omega)
  have e2 : decide (w < 12) = true := decide_eq_true (by omega)
  unfold d_is_wire d_is_count
  simp only [fDef, fRet, fRetN, fSeq, fIfS, fTru, fBoo, fAndT, fOrT, fNotT, fAndV, fOrV, fNotV, fIf, fVar, fC, fCall, fCons, fNil, fBin, fUn, on2, on1, pk, pkW, toD, toW, wD, wsD, gate_true, noX_ok, viewsOf, onA, fCB, startG, finD, fIsi, noX_cond, fNext, fDrop, fSet, fSetM, fTup, fLst, fAsgT, bTup, bAll, bName, List.getElem?_cons_zero, List.getElem?_cons_succ, List.map_cons, List.map_nil, List.length_cons, List.length_nil, List.replicate, Nat.reduceAdd, Nat.reduceSub, Nat.zero_add, Nat.sub_self, List.append_nil, List.cons_append, List.nil_append, List.take_length, decide_true, gate_dec, okD, truD, List.set_cons_zero, List.set_cons_succ, cond_true, cond_false, gLen, gAdd, Dl.gSub, gNeg, gEq_int, gNe_int, gLt, gGt, gLe, gGe, cond_and_d, cond_and_d', cond_or_d, cond_or_t, cond_and_t, cond_id, isInt, isBool, isTup, isStr, isLst, gIx, fNoP, fPart, fChain, gList, gTuple, fSeqI, take_app, fComp, fYes, wipeG, atI_0, atI_1, atI_2, atI_3, Bool.and_true, Bool.true_and, Bool.and_false, Bool.false_and, Bool.or_true, Bool.true_or, Bool.or_false, Bool.false_or, Bool.not_true, Bool.not_false, lim, Nat.reduceLeDiff, Nat.reduceLT, cast_beq, Option.map_some, shaped_int, fSetSub, ixN_40, ixN_41, ixN_42, ixN_43, fUpd, uAppend, get_last, set_last, if_true, if_false, not_lt_self, cutL_toI, cutL_fromI, Bool.true_xor, Bool.false_xor, gAll_map, rngOk_lit, smallI_lit, divOk_lit, Int.cast_ofNat_Int, Int.natCast_zero, Int.natCast_one, Int.reduceToNat, Int.reduceNeg, Int.reduceLE, Int.reduceLT, Int.reduceAdd, Int.reduceSub, Int.reduceMul, Int.reducePow, Nat.reduceMul, Nat.reducePow, Nat.reduceBEq, cast_beqL, cast_bneL, Nat.reduceBeqDiff, Nat.reduceBneDiff, eqv_str, eqv_int, ofString_beq, ofString_bne, String.reduceBEq, String.reduceBNe, shaped_strS, List.any_cons, List.any_nil, flatD, List.all_cons, List.all_nil, fFld, fMeth, fMake, fInit, endI, fSetFld, toWM, wR, fLook, putFW, List.lookup_cons, List.lookup_nil, Option.isNone, dk, putSub, gSub2, gIn2, keyD, fExt, Option.map_some, Option.map_none, Int.reduceBEq, Int.reduceBNe, and_self, decide_false, List.take_succ_cons, List.take_zero, List.drop_succ_cons, List.drop_zero, Int.natAbs_one, ↓bind_bd, bd_ok, bd_cond, is_integer_int, e1, e2]
theorem gAll5 (S : Sto) : gAll S [.list [.bool true, .bool true, .bool true, .bool true, .bool true]] = .ok (.d (.bool true)) S := rfl
theorem is_tuple5 {x0 x1 x2 x3 x4 : D} (S : Sto) : d_is_tuple [.d (.tuple [x0, x1, x2, x3, x4]), .d (.int 5)] S = .ok (.d (.bool true)) S := by
  unfold d_is_tuple
  simp only [fDef, fRet, fRetN, fSeq, fIfS, fTru, fBoo, fAndT, fOrT, fNotT, fAndV, fOrV, fNotV, fIf, fVar, fC, fCall, fCons, fNil, fBin, fUn, on2, on1, pk, pkW, toD, toW, wD, wsD, gate_true, noX_ok, viewsOf, onA, fCB, startG, finD, fIsi, noX_cond, fNext, fDrop, fSet, fSetM, fTup, fLst, fAsgT, bTup, bAll, bName, List.getElem?_cons_zero, List.getElem?_cons_succ, List.map_cons, List.map_nil, List.length_cons, List.length_nil, List.replicate, Nat.reduceAdd, Nat.reduceSub, Nat.zero_add, Nat.sub_self, List.append_nil, List.cons_append, List.nil_append, List.take_length, decide_true, gate_dec, okD, truD, List.set_cons_zero, List.set_cons_succ, cond_true, cond_false, gLen, gAdd, Dl.gSub, gNeg, gEq_int, gNe_int, gLt, gGt, gLe, gGe, cond_and_d, cond_and_d', cond_or_d, cond_or_t, cond_and_t, cond_id, isInt, isBool, isTup, isStr, isLst, gIx, fNoP, fPart, fChain, gList, gTuple, fSeqI, take_app, fComp, fYes, wipeG, atI_0, atI_1, atI_2, atI_3, Bool.and_true, Bool.true_and, Bool.and_false, Bool.false_and, Bool.or_true, Bool.true_or, Bool.or_false, Bool.false_or, Bool.not_true, Bool.not_false, lim, Nat.reduceLeDiff, Nat.reduceLT, cast_beq, Option.map_some, shaped_int, fSetSub, ixN_40, ixN_41, ixN_42, ixN_43, fUpd, uAppend, get_last, set_last, if_true, if_false, not_lt_self, cutL_toI, cutL_fromI, Bool.true_xor, Bool.false_xor, gAll_map, rngOk_lit, smallI_lit, divOk_lit, Int.cast_ofNat_Int, Int.natCast_zero, Int.natCast_one, Int.reduceToNat, Int.reduceNeg, Int.reduceLE, Int.reduceLT, Int.reduceAdd, Int.reduceSub, Int.reduceMul, Int.reducePow, Nat.reduceMul, Nat.reducePow, Nat.reduceBEq, cast_beqL, cast_bneL, Nat.reduceBeqDiff, Nat.reduceBneDiff, eqv_str, eqv_int, ofString_beq, ofString_bne, String.reduceBEq, String.reduceBNe, shaped_strS, List.any_cons, List.any_nil, flatD, List.all_cons, List.all_nil, fFld, fMeth, fMake, fInit, endI, fSetFld, toWM, wR, fLook, putFW, List.lookup_cons, List.lookup_nil, Option.isNone, dk, putSub, gSub2, gIn2, keyD, fExt, Option.map_some, Option.map_none, Int.reduceBEq, Int.reduceBNe, and_self, decide_false, List.take_succ_cons, List.take_zero, List.drop_succ_cons, List.drop_zero, Int.natAbs_one, ↓bind_bd, bd_ok, bd_cond]
theorem is_tuple3 {x0 x1 x2 : D} (S : Sto) : d_is_tuple [.d (.tuple [x0, x1, x2]), .d (.int 3)] S = .ok (.d (.bool true)) S := by
  unfold d_is_tuple
  simp only [fDef, fRet, fRetN, fSeq, fIfS, fTru, fBoo, fAndT, fOrT, fNotT, fAndV, fOrV, fNotV, fIf, fVar, fC, fCall, fCons, fNil, fBin, fUn, on2, on1, pk, pkW, toD, toW, wD, wsD, gate_true, noX_ok, viewsOf, onA, fCB, startG, finD, fIsi, noX_cond, fNext, fDrop, fSet, fSetM, fTup, fLst, fAsgT, bTup, bAll, bName, List.getElem?_cons_zero, List.getElem?_cons_succ, List.map_cons, List.map_nil, List.length_cons, List.length_nil, List.replicate, Nat.reduceAdd, Nat.reduceSub, Nat.zero_add, Nat.sub_self, List.append_nil, List.cons_append, List.nil_append, List.take_length, decide_true, gate_dec, okD, truD, List.set_cons_zero, List.set_cons_succ, cond_true, cond_false, gLen, gAdd, Dl.gSub, gNeg, gEq_int, gNe_int, gLt, gGt, gLe, gGe, cond_and_d, cond_and_d', cond_or_d, cond_or_t, cond_and_t, cond_id, isInt, isBool, isTup, isStr, isLst, gIx, fNoP, fPart, fChain, gList, gTuple, fSeqI, take_app, fComp, fYes, wipeG, atI_0, atI_1, atI_2, atI_3, Bool.and_true, Bool.true_and, Bool.and_false, Bool.false_and, Bool.or_true, Bool.true_or, Bool.or_false, Bool.false_or, Bool.not_true, Bool.not_false, lim, Nat.reduceLeDiff, Nat.reduceLT, cast_beq, Option.map_some, shaped_int, fSetSub, ixN_40, ixN_41, ixN_42, ixN_43, fUpd, uAppend, get_last, set_last, if_true, if_false, not_lt_self, cutL_toI, cutL_fromI, Bool.true_xor, Bool.false_xor, gAll_map, rngOk_lit, smallI_lit, divOk_lit, Int.cast_ofNat_Int, Int.natCast_zero, Int.natCast_one, Int.reduceToNat, Int.reduceNeg, Int.reduceLE, Int.reduceLT, Int.reduceAdd, Int.reduceSub, Int.reduceMul, Int.reducePow, Nat.reduceMul, Nat.reducePow, Nat.reduceBEq, cast_beqL, cast_bneL, Nat.reduceBeqDiff, Nat.reduceBneDiff, eqv_str, eqv_int, ofString_beq, ofString_bne, String.reduceBEq, String.reduceBNe, shaped_strS, List.any_cons, List.any_nil, flatD, List.all_cons, List.all_nil, fFld, fMeth, fMake, fInit, endI, fSetFld, toWM, wR, fLook, putFW, List.lookup_cons, List.lookup_nil, Option.isNone, dk, putSub, gSub2, gIn2, keyD, fExt, Option.map_some, Option.map_none, Int.reduceBEq, Int.reduceBNe, and_self, decide_false, List.take_succ_cons, List.take_zero, List.drop_succ_cons, List.drop_zero, Int.natAbs_one, ↓bind_bd, bd_ok, bd_cond]
theorem ne5 (S : Sto) (w0 w1 w2 w3 w4 : Int) : gNe S (.tuple [.int w0, .int w1, .int w2, .int w3, .int w4]) (.tuple [.int w0, .int w1, .int w2, .int w3, .int w4]) = .ok (.d (.bool false)) S := by
  have h : SeqAt.shaped (.tuple [.int w0, .int w1, .int w2, .int w3, .int w4]) = true := by kernel_rfl
  simp only [gNe, h, PyData.eqv, PyData.eqvAll, beq_self_eq_true, Bool.and_true]
  rfl
theorem is_equation_ev {d e a b c w0 w1 w2 w3 w4 : Int} {k : Bool} (h : Sl d e a b c w0 w1 w2 w3 w4) (S : Sto) : d_is_equation [.d (dueD d e a b c w0 w1 w2 w3 w4 k), .d (.int 12)] S = .ok (.d (.bool true)) S := by
  obtain ⟨h0, h1, h2, h3, h4⟩ := h.ds
  have h5 := h.le
  have hA : ∀ S, d_ascending [.d (.tuple [.int w0, .int w1, .int w2, .int w3, .int w4])] S = .ok (.d (.tuple [.int w0, .int w1, .int w2, .int w3, .int w4])) S := fun S => by
    have := ascT_ev [w0, w1, w2, w3, w4] S (by simp)
    rw [h.asc2] at this
    exact this
  have i0 := fun S => is_wire_ev (w := w0) (by omega) (by omega) S
  have i1 := fun S => is_wire_ev (w := w1) (by omega) (by omega) S
  have i2 := fun S => is_wire_ev (w := w2) (by omega) (by omega) S
  have i3 := fun S => is_wire_ev (w := w3) (by omega) (by omega) S
  have i4 := fun S => is_wire_ev (w := w4) (by omega) (by omega) S
  unfold d_is_equation dueD wD5
  simp only [fDef, fRet, fRetN, fSeq, fIfS, fTru, fBoo, fAndT, fOrT, fNotT, fAndV, fOrV, fNotV, fIf, fVar, fC, fCall, fCons, fNil, fBin, fUn, on2, on1, pk, pkW, toD, toW, wD, wsD, gate_true, noX_ok, viewsOf, onA, fCB, startG, finD, fIsi, noX_cond, fNext, fDrop, fSet, fSetM, fTup, fLst, fAsgT, bTup, bAll, bName, List.getElem?_cons_zero, List.getElem?_cons_succ, List.map_cons, List.map_nil, List.length_cons, List.length_nil, List.replicate, Nat.reduceAdd, Nat.reduceSub, Nat.zero_add, Nat.sub_self, List.append_nil, List.cons_append, List.nil_append, List.take_length, decide_true, gate_dec, okD, truD, List.set_cons_zero, List.set_cons_succ, cond_true, cond_false, gLen, gAdd, Dl.gSub, gNeg, gEq_int, gNe_int, gLt, gGt, gLe, gGe, cond_and_d, cond_and_d', cond_or_d, cond_or_t, cond_and_t, cond_id, isInt, isBool, isTup, isStr, isLst, gIx, fNoP, fPart, fChain, gList, gTuple, fSeqI, take_app, fComp, fYes, wipeG, atI_0, atI_1, atI_2, atI_3, Bool.and_true, Bool.true_and, Bool.and_false, Bool.false_and, Bool.or_true, Bool.true_or, Bool.or_false, Bool.false_or, Bool.not_true, Bool.not_false, lim, Nat.reduceLeDiff, Nat.reduceLT, cast_beq, Option.map_some, shaped_int, fSetSub, ixN_40, ixN_41, ixN_42, ixN_43, fUpd, uAppend, get_last, set_last, if_true, if_false, not_lt_self, cutL_toI, cutL_fromI, Bool.true_xor, Bool.false_xor, gAll_map, rngOk_lit, smallI_lit, divOk_lit, Int.cast_ofNat_Int, Int.natCast_zero, Int.natCast_one, Int.reduceToNat, Int.reduceNeg, Int.reduceLE, Int.reduceLT, Int.reduceAdd, Int.reduceSub, Int.reduceMul, Int.reducePow, Nat.reduceMul, Nat.reducePow, Nat.reduceBEq, cast_beqL, cast_bneL, Nat.reduceBeqDiff, Nat.reduceBneDiff, eqv_str, eqv_int, ofString_beq, ofString_bne, String.reduceBEq, String.reduceBNe, shaped_strS, List.any_cons, List.any_nil, flatD, List.all_cons, List.all_nil, fFld, fMeth, fMake, fInit, endI, fSetFld, toWM, wR, fLook, putFW, List.lookup_cons, List.lookup_nil, Option.isNone, dk, putSub, gSub2, gIn2, keyD, fExt, Option.map_some, Option.map_none, Int.reduceBEq, Int.reduceBNe, and_self, decide_false, List.take_succ_cons, List.take_zero, List.drop_succ_cons, List.drop_zero, Int.natAbs_one, ↓bind_bd, bd_ok, bd_cond, is_tuple3, is_tuple5, is_integer_int, compL, i0, i1, i2, i3, i4, gAll5, hA, ne5]
theorem due_pl {d e a b c w0 w1 w2 w3 w4 : Int} {k : Bool} : Pl 2 (dueD d e a b c w0 w1 w2 w3 w4 k) := by
  have t5 : ∀ x0 x1 x2 x3 x4 : Int, Pl 1 (wD5 x0 x1 x2 x3 x4) := fun x0 x1 x2 x3 x4 => .tup (by simp) (by
    intro d hd
    simp only [List.mem_cons, List.not_mem_nil, or_false] at hd
    rcases hd with rfl | rfl | rfl | rfl | rfl <;> exact .int _)
  refine .tup (by simp) ?_
  intro d hd
  simp only [List.mem_cons, List.not_mem_nil, or_false] at hd
  rcases hd with rfl | rfl | rfl
  · exact t5 ..
  · exact t5 ..
  · exact .int _
theorem cls_pl (ls : List Lit) (h : ls.length ≤ 1000) : Pl 2 (clsD ls) := by
  have t : ∀ xs : List Int, xs.length ≤ 1000 → Pl 1 (.tuple (xs.map PyData.int)) := fun xs hx => .tup (by simpa using hx) (by
    intro d hd
    obtain ⟨i, _, rfl⟩ := List.mem_map.mp hd
    exact .int i)
  refine .tup (by simp) ?_
  intro d hd
  simp only [List.mem_cons, List.not_mem_nil, or_false] at hd
  rcases hd with rfl | rfl
  · exact t _ (by have := sortU_len (yesL ls); have := yes_len ls; omega)
  · exact t _ (by have := sortU_len (noL ls); have := no_len ls; omega)
theorem wants_pl {a b c d e : Int} {k : Bool} : Pl 3 (.tuple ((wantsL a b c d e k).map clsD)) := by
  refine .tup (by simp [wantsL, rows8, cls2]) ?_
  intro x hx
  obtain ⟨ls, hls, rfl⟩ := List.mem_map.mp hx
  refine cls_pl ls ?_
  simp only [wantsL, List.mem_flatMap, cls2, List.mem_cons, List.not_mem_nil, or_false] at hls
  obtain ⟨r, _, rfl | rfl⟩ := hls <;> simp
theorem res_name {ps : Prs} {p : Str × Int} (h : p ∈ resL ps) : p.1 ∈ (sums ps).map (·.1) := by
  unfold resL at h
  obtain ⟨k, hk, rfl⟩ := List.mem_map.mp h
  exact (sortS_perm _).subset ((List.mem_filter.mp hk).1)
theorem res_len (ps : Prs) : (resL ps).length ≤ ps.length := by
  unfold resL
  rw [List.length_map]
  refine Nat.le_trans (List.length_filter_le _ _) ?_
  rw [(sortS_perm _).length_eq, List.length_map]
  exact sums_len ps
theorem form_pl {w0 w1 w2 w3 w4 n0 n1 n2 n3 n4 : Int} (h : Ds w0 w1 w2 w3 w4) (h2 : w4 ≤ 11) : Pl 3 (formD 0 (prsW w0 w1 w2 w3 w4 n0 n1 n2 n3 n4)) := by
  obtain ⟨a0, a1, a2, a3, a4⟩ := wr5 h h2
  have es := sums_nd' (prs_nd (n0 := n0) (n1 := n1) (n2 := n2) (n3 := n3) (n4 := n4) h h2)
  refine .tup (by simp) ?_
  intro x hx
  simp only [List.mem_cons, List.not_mem_nil, or_false] at hx
  rcases hx with rfl | rfl
  · exact .int _
  · refine .tup ?_ ?_
    · rw [List.length_map]
      have := res_len (prsW w0 w1 w2 w3 w4 n0 n1 n2 n3 n4)
      have e : (prsW w0 w1 w2 w3 w4 n0 n1 n2 n3 n4).length = 5 := rfl
      omega
    · intro x hx
      obtain ⟨p, hp, rfl⟩ := List.mem_map.mp hx
      have q := res_name hp
      rw [es] at q
      refine .tup (by simp) ?_
      intro y hy
      simp only [List.mem_cons, List.not_mem_nil, or_false] at hy
      rcases hy with rfl | rfl
      · refine .str ?_
        simp only [prsW, List.map_cons, List.map_nil, List.mem_cons, List.not_mem_nil, or_false] at q
        rcases q with q | q | q | q | q <;> rw [q]
        · exact nm_ok a0
        · exact nm_ok a1
        · exact nm_ok a2
        · exact nm_ok a3
        · exact nm_ok a4
      · exact .int _
end K25
set_option maxHeartbeats 1000000
namespace K25
open PySem L2 Dl
section
variable {d e a b c w0 w1 w2 w3 w4 : Int} {k : Bool}
theorem wants_ev (h : Sl d e a b c w0 w1 w2 w3 w4) (st : Cell) (z : a ≠ 0 ∧ b ≠ 0 ∧ c ≠ 0) : d_cell_wants [.d (cellD a b c d e k)] [st] = .ok (.new ((wantsL a b c d e k).map clsD)) [st] := by
  obtain ⟨h1, h2, h3, h4, h5, h6, h7, h8, h9, h0⟩ := h.df
  obtain ⟨r, S, e, rfl, rfl⟩ := (wants_W (d := d) (e := e) (k := k) h8 h9 h0 z.1 z.2.1 z.2.2 st).eq
  exact e
theorem law_wants_ev (h : Sl d e a b c w0 w1 w2 w3 w4) (st : Cell) (z : a ≠ 0 ∧ b ≠ 0 ∧ c ≠ 0) : d__law_wants [.d (cellD a b c d e k)] [st] = .ok (.new ((wantsL a b c d e k).map clsD)) [st] := by
  obtain ⟨h1, h2, h3, h4, h5, h6, h7, h8, h9, h0⟩ := h.df
  obtain ⟨r, S, e, rfl, rfl⟩ := (lloop_ev (d := d) (e := e) (k := k) h8 h9 h0 z.1 z.2.1 z.2.2 st).eq
  exact e
theorem nz (h : Sl d e a b c w0 w1 w2 w3 w4) : a ≠ 0 ∧ b ≠ 0 ∧ c ≠ 0 := by
  have g : ∀ x ∈ [d, e, a, b, c], x ≠ 0 := fun x hx => by
    have := h.perm.mem_iff.mpr hx
    obtain ⟨h0, h1, h2, h3, h4⟩ := h.ds
    simp only [List.mem_cons, List.not_mem_nil, or_false] at this
    omega
  exact ⟨g a (by simp), g b (by simp), g c (by simp)⟩
theorem kept_ev {n0 n1 n2 n3 n4 k : Int} (h : Ds w0 w1 w2 w3 w4) {cs : List (List Lit)} (hc : ∀ ls ∈ cs, ls.length ≤ 20 ∧ ∀ l ∈ ls, l.1 ∈ [w0, w1, w2, w3, w4]) (hl : cs.length ≤ 1000) (S : Sto) :
    d_is_kept [.d (.list (cs.map clsD)), .d (.tuple [wD5 w0 w1 w2 w3 w4, wD5 n0 n1 n2 n3 n4, .int k])] S = .ok (.d (.bool (keptB w0 w1 w2 w3 w4 n0 n1 n2 n3 n4 k cs))) S := by
  obtain ⟨r, S', e, rfl, rfl⟩ := (kept_W (n0 := n0) (n1 := n1) (n2 := n2) (n3 := n3) (n4 := n4) (k := k) h hc hl S).eq
  exact e
theorem wants_len : (wantsL a b c d e k).length = 16 := rfl
theorem fits_W (h : Sl d e a b c w0 w1 w2 w3 w4) {c0 : Cell} (hc : StOk c0) : W (d__law_slice_fits [.ref 0, .d (cellD a b c d e k), .d (dueD d e a b c w0 w1 w2 w3 w4 k)] [c0]) (fun r S => ∃ c', StOk c' ∧ r = .d (.bool true) ∧ S = [c']) := by
  have z := nz h
  have we := fun st => wants_ev (k := k) h st z
  have ee := fun st => equations_ev (k := k) h st
  have s1 := fun S => same_ev 4 3 (.tuple [dueD d e a b c w0 w1 w2 w3 w4 k]) S (.tup (by simp) (by intro x hx; rw [List.mem_singleton.mp hx]; exact due_pl)) (by omega)
  have ie := fun S => is_equation_ev (k := k) h S
  have f1 := fun S => eq_form_ev (n0 := tbl d e a b c k w0) (n1 := tbl d e a b c k w1) (n2 := tbl d e a b c k w2) (n3 := tbl d e a b c k w3) (n4 := tbl d e a b c k w4) h.ds h.le S
  have f2 := fun S => law_form_ev (n0 := tbl d e a b c k w0) (n1 := tbl d e a b c k w1) (n2 := tbl d e a b c k w2) (n3 := tbl d e a b c k w3) (n4 := tbl d e a b c k w4) h.ds h.le S
  have s2 := fun S => same_ev 4 3 _ S (form_pl (n0 := tbl d e a b c k w0) (n1 := tbl d e a b c k w1) (n2 := tbl d e a b c k w2) (n3 := tbl d e a b c k w3) (n4 := tbl d e a b c k w4) h.ds h.le) (by omega)
  have wi := wants_in (k := k) h.perm
  have k1 := fun S => kept_ev (n0 := tbl d e a b c k w0) (n1 := tbl d e a b c k w1) (n2 := tbl d e a b c k w2) (n3 := tbl d e a b c k w3) (n4 := tbl d e a b c k w4) (k := 0) h.ds wi (by rw [wants_len]; omega) S
  have k4 := fun S => kept_ev (n0 := tbl d e a b c k w0) (n1 := tbl d e a b c k w1) (n2 := tbl d e a b c k w2) (n3 := tbl d e a b c k w3) (n4 := tbl d e a b c k w4) (k := 1) h.ds wi (by rw [wants_len]; omega) S
  have wl := wants_len (a := a) (b := b) (c := c) (d := d) (e := e) (k := k)
  simp only [K1 h.df h.perm] at k1
  simp only [K4 h.ds h.df h.perm] at k4
  unfold d__law_slice_fits
  unfold dueD at *
  simp (disch := omega) only [fDef, fRet, fRetN, fSeq, fIfS, fTru, fBoo, fAndT, fOrT, fNotT, fAndV, fOrV, fNotV, fIf, fVar, fC, fCall, fCons, fNil, fBin, fUn, on2, on1, pk, pkW, toD, toW, wD, wsD, gate_true, noX_ok, viewsOf, onA, fCB, startG, finD, fIsi, noX_cond, fNext, fDrop, fSet, fSetM, fTup, fLst, fAsgT, bTup, bAll, bName, List.getElem?_cons_zero, List.getElem?_cons_succ, List.map_cons, List.map_nil, List.length_cons, List.length_nil, List.replicate, Nat.reduceAdd, Nat.reduceSub, Nat.zero_add, Nat.sub_self, List.append_nil, List.cons_append, List.nil_append, List.take_length, decide_true, gate_dec, okD, truD, List.set_cons_zero, List.set_cons_succ, cond_true, cond_false, gLen, gAdd, Dl.gSub, gNeg, gEq_int, gNe_int, gLt, gGt, gLe, gGe, cond_and_d, cond_and_d', cond_or_d, cond_or_t, cond_and_t, cond_id, isInt, isBool, isTup, isStr, isLst, gIx, fNoP, fPart, gList, gTuple, fSeqI, take_app, fComp, fYes, wipeG, atI_0, atI_1, atI_2, atI_3, Bool.and_true, Bool.true_and, Bool.and_false, Bool.false_and, Bool.or_true, Bool.true_or, Bool.or_false, Bool.false_or, Bool.not_true, Bool.not_false, lim, Nat.reduceLeDiff, Nat.reduceLT, cast_beq, Option.map_some, shaped_int, fSetSub, ixN_40, ixN_41, ixN_42, ixN_43, fUpd, get_last, set_last, if_true, if_false, not_lt_self, cutL_toI, cutL_fromI, Bool.true_xor, Bool.false_xor, gAll_map, rngOk_lit, smallI_lit, divOk_lit, Int.cast_ofNat_Int, Int.natCast_zero, Int.natCast_one, Int.reduceToNat, Int.reduceNeg, Int.reduceLE, Int.reduceLT, Int.reduceAdd, Int.reduceSub, Int.reduceMul, Int.reducePow, Nat.reduceMul, Nat.reducePow, Nat.reduceBEq, cast_beqL, cast_bneL, Nat.reduceBeqDiff, Nat.reduceBneDiff, eqv_str, eqv_int, ofString_beq, ofString_bne, String.reduceBEq, String.reduceBNe, shaped_strS, List.any_cons, List.any_nil, flatD, List.all_cons, List.all_nil, fFld, fMeth, fMake, fInit, endI, fSetFld, toWM, wR, fLook, putFW, List.lookup_cons, List.lookup_nil, Option.isNone, dk, putSub, gSub2, gIn2, keyD, fExt, Option.map_some, Option.map_none, Int.reduceBEq, Int.reduceBNe, and_self, decide_false, List.take_succ_cons, List.take_zero, List.drop_succ_cons, List.drop_zero, Int.natAbs_one, gate_and, fChainE, boolR_b, uAppend_ok, uInsert_ok, rangeD_len, ↓bind_bd, bd_ok, W_bd, W_ok, W_noX, drawE, fFor, fRange1, fRange2, fSl, gSl, List.length_append, List.length_map, List.length_reverse, List.length_take, List.length_drop, we, ee, s1, ie, f1, f2, s2, k1, gIs, decide_true, Bool.xor_true, Bool.xor_false, wl, fSl, gSl]
  refine W_draw hc (by decide) (by decide) fun r c1 hc1 b0 b1 => ?_
  have k2 : ∀ S, d_is_kept [.d (.list (((wantsL a b c d e k).map clsD).take r.toNat ++ ((wantsL a b c d e k).map clsD).drop (r + 1).toNat)), .d (.tuple [wD5 w0 w1 w2 w3 w4, wD5 (tbl d e a b c k w0) (tbl d e a b c k w1) (tbl d e a b c k w2) (tbl d e a b c k w3) (tbl d e a b c k w4), .int 0])] S = .ok (.d (.bool false)) S := fun S => by
    have er : (r + 1).toNat = r.toNat + 1 := by omega
    have hcs : ∀ ls ∈ (wantsL a b c d e k).take r.toNat ++ (wantsL a b c d e k).drop (r.toNat + 1), ls.length ≤ 20 ∧ ∀ l ∈ ls, l.1 ∈ [w0, w1, w2, w3, w4] := fun ls hls => by
      rcases List.mem_append.mp hls with q | q
      · exact wi ls (List.mem_of_mem_take q)
      · exact wi ls (List.mem_of_mem_drop q)
    have hln : ((wantsL a b c d e k).take r.toNat ++ (wantsL a b c d e k).drop (r.toNat + 1)).length ≤ 1000 := by
      rw [List.length_append, List.length_take, List.length_drop, wl]; omega
    rw [er, ← List.map_take, ← List.map_drop, ← List.map_append, kept_ev h.ds hcs hln S, K2 h.ds h.df h.perm (by omega)]
  simp (disch := omega) only [fDef, fRet, fRetN, fSeq, fIfS, fTru, fBoo, fAndT, fOrT, fNotT, fAndV, fOrV, fNotV, fIf, fVar, fC, fCall, fCons, fNil, fBin, fUn, on2, on1, pk, pkW, toD, toW, wD, wsD, gate_true, noX_ok, viewsOf, onA, fCB, startG, finD, fIsi, noX_cond, fNext, fDrop, fSet, fSetM, fTup, fLst, fAsgT, bTup, bAll, bName, List.getElem?_cons_zero, List.getElem?_cons_succ, List.map_cons, List.map_nil, List.length_cons, List.length_nil, List.replicate, Nat.reduceAdd, Nat.reduceSub, Nat.zero_add, Nat.sub_self, List.append_nil, List.cons_append, List.nil_append, List.take_length, decide_true, gate_dec, okD, truD, List.set_cons_zero, List.set_cons_succ, cond_true, cond_false, gLen, gAdd, Dl.gSub, gNeg, gEq_int, gNe_int, gLt, gGt, gLe, gGe, cond_and_d, cond_and_d', cond_or_d, cond_or_t, cond_and_t, cond_id, isInt, isBool, isTup, isStr, isLst, gIx, fNoP, fPart, gList, gTuple, fSeqI, take_app, fComp, fYes, wipeG, atI_0, atI_1, atI_2, atI_3, Bool.and_true, Bool.true_and, Bool.and_false, Bool.false_and, Bool.or_true, Bool.true_or, Bool.or_false, Bool.false_or, Bool.not_true, Bool.not_false, lim, Nat.reduceLeDiff, Nat.reduceLT, cast_beq, Option.map_some, shaped_int, fSetSub, ixN_40, ixN_41, ixN_42, ixN_43, fUpd, get_last, set_last, if_true, if_false, not_lt_self, cutL_toI, cutL_fromI, Bool.true_xor, Bool.false_xor, gAll_map, rngOk_lit, smallI_lit, divOk_lit, Int.cast_ofNat_Int, Int.natCast_zero, Int.natCast_one, Int.reduceToNat, Int.reduceNeg, Int.reduceLE, Int.reduceLT, Int.reduceAdd, Int.reduceSub, Int.reduceMul, Int.reducePow, Nat.reduceMul, Nat.reducePow, Nat.reduceBEq, cast_beqL, cast_bneL, Nat.reduceBeqDiff, Nat.reduceBneDiff, eqv_str, eqv_int, ofString_beq, ofString_bne, String.reduceBEq, String.reduceBNe, shaped_strS, List.any_cons, List.any_nil, flatD, List.all_cons, List.all_nil, fFld, fMeth, fMake, fInit, endI, fSetFld, toWM, wR, fLook, putFW, List.lookup_cons, List.lookup_nil, Option.isNone, dk, putSub, gSub2, gIn2, keyD, fExt, Option.map_some, Option.map_none, Int.reduceBEq, Int.reduceBNe, and_self, decide_false, List.take_succ_cons, List.take_zero, List.drop_succ_cons, List.drop_zero, Int.natAbs_one, gate_and, fChainE, boolR_b, uAppend_ok, uInsert_ok, rangeD_len, ↓bind_bd, bd_ok, W_bd, W_ok, W_noX, drawE, fFor, fRange1, fRange2, fSl, gSl, List.length_append, List.length_map, List.length_reverse, List.length_take, List.length_drop, k2, gIs, decide_true, Bool.xor_true, Bool.xor_false, Bool.not_false]
  refine W_draw hc1 (by decide) (by decide) fun r2 c2 hc2 b2 b3 => ?_
  have k3 : ∀ (j : Nat) (r3 : Int), j < 5 → 0 ≤ r3 → ∀ (n : Int × Int × Int × Int × Int), n = upd5 (tbl d e a b c k w0) (tbl d e a b c k w1) (tbl d e a b c k w2) (tbl d e a b c k w3) (tbl d e a b c k w4) j r3 → ∀ S, d_is_kept [.d (.list ((wantsL a b c d e k).map clsD)), .d (.tuple [wD5 w0 w1 w2 w3 w4, wD5 n.1 n.2.1 n.2.2.1 n.2.2.2.1 n.2.2.2.2, .int 0])] S = .ok (.d (.bool false)) S := fun j r3 hj hr n hn S => by
    rw [kept_ev h.ds wi (by rw [wl]; omega) S, K3 h.ds h.df h.perm hr hj hn]
  have hr2 : r2 = 0 ∨ r2 = 1 ∨ r2 = 2 ∨ r2 = 3 ∨ r2 = 4 := by omega
  rcases hr2 with rfl | rfl | rfl | rfl | rfl
  · simp (disch := omega) only [fDef, fRet, fRetN, fSeq, fIfS, fTru, fBoo, fAndT, fOrT, fNotT, fAndV, fOrV, fNotV, fIf, fVar, fC, fCall, fCons, fNil, fBin, fUn, on2, on1, pk, pkW, toD, toW, wD, wsD, gate_true, noX_ok, viewsOf, onA, fCB, startG, finD, fIsi, noX_cond, fNext, fDrop, fSet, fSetM, fTup, fLst, fAsgT, bTup, bAll, bName, List.getElem?_cons_zero, List.getElem?_cons_succ, List.map_cons, List.map_nil, List.length_cons, List.length_nil, List.replicate, Nat.reduceAdd, Nat.reduceSub, Nat.zero_add, Nat.sub_self, List.append_nil, List.cons_append, List.nil_append, List.take_length, decide_true, gate_dec, okD, truD, List.set_cons_zero, List.set_cons_succ, cond_true, cond_false, gLen, gAdd, Dl.gSub, gNeg, gEq_int, gNe_int, gLt, gGt, gLe, gGe, cond_and_d, cond_and_d', cond_or_d, cond_or_t, cond_and_t, cond_id, isInt, isBool, isTup, isStr, isLst, gIx, fNoP, fPart, gList, gTuple, fSeqI, take_app, fComp, fYes, wipeG, atI_0, atI_1, atI_2, atI_3, Bool.and_true, Bool.true_and, Bool.and_false, Bool.false_and, Bool.or_true, Bool.true_or, Bool.or_false, Bool.false_or, Bool.not_true, Bool.not_false, lim, Nat.reduceLeDiff, Nat.reduceLT, cast_beq, Option.map_some, shaped_int, fSetSub, ixN_40, ixN_41, ixN_42, ixN_43, fUpd, get_last, set_last, if_true, if_false, not_lt_self, cutL_toI, cutL_fromI, Bool.true_xor, Bool.false_xor, gAll_map, rngOk_lit, smallI_lit, divOk_lit, Int.cast_ofNat_Int, Int.natCast_zero, Int.natCast_one, Int.reduceToNat, Int.reduceNeg, Int.reduceLE, Int.reduceLT, Int.reduceAdd, Int.reduceSub, Int.reduceMul, Int.reducePow, Nat.reduceMul, Nat.reducePow, Nat.reduceBEq, cast_beqL, cast_bneL, Nat.reduceBeqDiff, Nat.reduceBneDiff, eqv_str, eqv_int, ofString_beq, ofString_bne, String.reduceBEq, String.reduceBNe, shaped_strS, List.any_cons, List.any_nil, flatD, List.all_cons, List.all_nil, fFld, fMeth, fMake, fInit, endI, fSetFld, toWM, wR, fLook, putFW, List.lookup_cons, List.lookup_nil, Option.isNone, dk, putSub, gSub2, gIn2, keyD, fExt, Option.map_some, Option.map_none, Int.reduceBEq, Int.reduceBNe, and_self, decide_false, List.take_succ_cons, List.take_zero, List.drop_succ_cons, List.drop_zero, Int.natAbs_one, gate_and, fChainE, boolR_b, uAppend_ok, uInsert_ok, rangeD_len, ↓bind_bd, bd_ok, W_bd, W_ok, W_noX, drawE, fFor, fRange1, fRange2, fSl, gSl, List.length_append, List.length_map, List.length_reverse, List.length_take, List.length_drop, wD5, ix5_0, ix5_4]
    refine W_draw hc2 (by decide) (by decide) fun r3 c3 hc3 b4 b5 => ?_
    have k3j := k3 0 r3 (by omega) b4 _ rfl
    simp only [upd5, wD5] at k3j k4
    simp (disch := omega) only [fDef, fRet, fRetN, fSeq, fIfS, fTru, fBoo, fAndT, fOrT, fNotT, fAndV, fOrV, fNotV, fIf, fVar, fC, fCall, fCons, fNil, fBin, fUn, on2, on1, pk, pkW, toD, toW, wD, wsD, gate_true, noX_ok, viewsOf, onA, fCB, startG, finD, fIsi, noX_cond, fNext, fDrop, fSet, fSetM, fTup, fLst, fAsgT, bTup, bAll, bName, List.getElem?_cons_zero, List.getElem?_cons_succ, List.map_cons, List.map_nil, List.length_cons, List.length_nil, List.replicate, Nat.reduceAdd, Nat.reduceSub, Nat.zero_add, Nat.sub_self, List.append_nil, List.cons_append, List.nil_append, List.take_length, decide_true, gate_dec, okD, truD, List.set_cons_zero, List.set_cons_succ, cond_true, cond_false, gLen, gAdd, Dl.gSub, gNeg, gEq_int, gNe_int, gLt, gGt, gLe, gGe, cond_and_d, cond_and_d', cond_or_d, cond_or_t, cond_and_t, cond_id, isInt, isBool, isTup, isStr, isLst, gIx, fNoP, fPart, gList, gTuple, fSeqI, take_app, fComp, fYes, wipeG, atI_0, atI_1, atI_2, atI_3, Bool.and_true, Bool.true_and, Bool.and_false, Bool.false_and, Bool.or_true, Bool.true_or, Bool.or_false, Bool.false_or, Bool.not_true, Bool.not_false, lim, Nat.reduceLeDiff, Nat.reduceLT, cast_beq, Option.map_some, shaped_int, fSetSub, ixN_40, ixN_41, ixN_42, ixN_43, fUpd, get_last, set_last, if_true, if_false, not_lt_self, cutL_toI, cutL_fromI, Bool.true_xor, Bool.false_xor, gAll_map, rngOk_lit, smallI_lit, divOk_lit, Int.cast_ofNat_Int, Int.natCast_zero, Int.natCast_one, Int.reduceToNat, Int.reduceNeg, Int.reduceLE, Int.reduceLT, Int.reduceAdd, Int.reduceSub, Int.reduceMul, Int.reducePow, Nat.reduceMul, Nat.reducePow, Nat.reduceBEq, cast_beqL, cast_bneL, Nat.reduceBeqDiff, Nat.reduceBneDiff, eqv_str, eqv_int, ofString_beq, ofString_bne, String.reduceBEq, String.reduceBNe, shaped_strS, List.any_cons, List.any_nil, flatD, List.all_cons, List.all_nil, fFld, fMeth, fMake, fInit, endI, fSetFld, toWM, wR, fLook, putFW, List.lookup_cons, List.lookup_nil, Option.isNone, dk, putSub, gSub2, gIn2, keyD, fExt, Option.map_some, Option.map_none, Int.reduceBEq, Int.reduceBNe, and_self, decide_false, List.take_succ_cons, List.take_zero, List.drop_succ_cons, List.drop_zero, Int.natAbs_one, gate_and, fChainE, boolR_b, uAppend_ok, uInsert_ok, rangeD_len, ↓bind_bd, bd_ok, W_bd, W_ok, W_noX, drawE, fFor, fRange1, fRange2, fSl, gSl, List.length_append, List.length_map, List.length_reverse, List.length_take, List.length_drop, k3j, k4, gIs, decide_true, Bool.xor_true, Bool.xor_false, Bool.not_false]
    exact ⟨c3, hc3, trivial, rfl⟩
  · simp (disch := omega) only [fDef, fRet, fRetN, fSeq, fIfS, fTru, fBoo, fAndT, fOrT, fNotT, fAndV, fOrV, fNotV, fIf, fVar, fC, fCall, fCons, fNil, fBin, fUn, on2, on1, pk, pkW, toD, toW, wD, wsD, gate_true, noX_ok, viewsOf, onA, fCB, startG, finD, fIsi, noX_cond, fNext, fDrop, fSet, fSetM, fTup, fLst, fAsgT, bTup, bAll, bName, List.getElem?_cons_zero, List.getElem?_cons_succ, List.map_cons, List.map_nil, List.length_cons, List.length_nil, List.replicate, Nat.reduceAdd, Nat.reduceSub, Nat.zero_add, Nat.sub_self, List.append_nil, List.cons_append, List.nil_append, List.take_length, decide_true, gate_dec, okD, truD, List.set_cons_zero, List.set_cons_succ, cond_true, cond_false, gLen, gAdd, Dl.gSub, gNeg, gEq_int, gNe_int, gLt, gGt, gLe, gGe, cond_and_d, cond_and_d', cond_or_d, cond_or_t, cond_and_t, cond_id, isInt, isBool, isTup, isStr, isLst, gIx, fNoP, fPart, gList, gTuple, fSeqI, take_app, fComp, fYes, wipeG, atI_0, atI_1, atI_2, atI_3, Bool.and_true, Bool.true_and, Bool.and_false, Bool.false_and, Bool.or_true, Bool.true_or, Bool.or_false, Bool.false_or, Bool.not_true, Bool.not_false, lim, Nat.reduceLeDiff, Nat.reduceLT, cast_beq, Option.map_some, shaped_int, fSetSub, ixN_40, ixN_41, ixN_42, ixN_43, fUpd, get_last, set_last, if_true, if_false, not_lt_self, cutL_toI, cutL_fromI, Bool.true_xor, Bool.false_xor, gAll_map, rngOk_lit, smallI_lit, divOk_lit, Int.cast_ofNat_Int, Int.natCast_zero, Int.natCast_one, Int.reduceToNat, Int.reduceNeg, Int.reduceLE, Int.reduceLT, Int.reduceAdd, Int.reduceSub, Int.reduceMul, Int.reducePow, Nat.reduceMul, Nat.reducePow, Nat.reduceBEq, cast_beqL, cast_bneL, Nat.reduceBeqDiff, Nat.reduceBneDiff, eqv_str, eqv_int, ofString_beq, ofString_bne, String.reduceBEq, String.reduceBNe, shaped_strS, List.any_cons, List.any_nil, flatD, List.all_cons, List.all_nil, fFld, fMeth, fMake, fInit, endI, fSetFld, toWM, wR, fLook, putFW, List.lookup_cons, List.lookup_nil, Option.isNone, dk, putSub, gSub2, gIn2, keyD, fExt, Option.map_some, Option.map_none, Int.reduceBEq, Int.reduceBNe, and_self, decide_false, List.take_succ_cons, List.take_zero, List.drop_succ_cons, List.drop_zero, Int.natAbs_one, gate_and, fChainE, boolR_b, uAppend_ok, uInsert_ok, rangeD_len, ↓bind_bd, bd_ok, W_bd, W_ok, W_noX, drawE, fFor, fRange1, fRange2, fSl, gSl, List.length_append, List.length_map, List.length_reverse, List.length_take, List.length_drop, wD5, ix5_0, ix5_4]
    refine W_draw hc2 (by decide) (by decide) fun r3 c3 hc3 b4 b5 => ?_
    have k3j := k3 1 r3 (by omega) b4 _ rfl
    simp only [upd5, wD5] at k3j k4
    simp (disch := omega) only [fDef, fRet, fRetN, fSeq, fIfS, fTru, fBoo, fAndT, fOrT, fNotT, fAndV, fOrV, fNotV, fIf, fVar, fC, fCall, fCons, fNil, fBin, fUn, on2, on1, pk, pkW, toD, toW, wD, wsD, gate_true, noX_ok, viewsOf, onA, fCB, startG, finD, fIsi, noX_cond, fNext, fDrop, fSet, fSetM, fTup, fLst, fAsgT, bTup, bAll, bName, List.getElem?_cons_zero, List.getElem?_cons_succ, List.map_cons, List.map_nil, List.length_cons, List.length_nil, List.replicate, Nat.reduceAdd, Nat.reduceSub, Nat.zero_add, Nat.sub_self, List.append_nil, List.cons_append, List.nil_append, List.take_length, decide_true, gate_dec, okD, truD, List.set_cons_zero, List.set_cons_succ, cond_true, cond_false, gLen, gAdd, Dl.gSub, gNeg, gEq_int, gNe_int, gLt, gGt, gLe, gGe, cond_and_d, cond_and_d', cond_or_d, cond_or_t, cond_and_t, cond_id, isInt, isBool, isTup, isStr, isLst, gIx, fNoP, fPart, gList, gTuple, fSeqI, take_app, fComp, fYes, wipeG, atI_0, atI_1, atI_2, atI_3, Bool.and_true, Bool.true_and, Bool.and_false, Bool.false_and, Bool.or_true, Bool.true_or, Bool.or_false, Bool.false_or, Bool.not_true, Bool.not_false, lim, Nat.reduceLeDiff, Nat.reduceLT, cast_beq, Option.map_some, shaped_int, fSetSub, ixN_40, ixN_41, ixN_42, ixN_43, fUpd, get_last, set_last, if_true, if_false, not_lt_self, cutL_toI, cutL_fromI, Bool.true_xor, Bool.false_xor, gAll_map, rngOk_lit, smallI_lit, divOk_lit, Int.cast_ofNat_Int, Int.natCast_zero, Int.natCast_one, Int.reduceToNat, Int.reduceNeg, Int.reduceLE, Int.reduceLT, Int.reduceAdd, Int.reduceSub, Int.reduceMul, Int.reducePow, Nat.reduceMul, Nat.reducePow, Nat.reduceBEq, cast_beqL, cast_bneL, Nat.reduceBeqDiff, Nat.reduceBneDiff, eqv_str, eqv_int, ofString_beq, ofString_bne, String.reduceBEq, String.reduceBNe, shaped_strS, List.any_cons, List.any_nil, flatD, List.all_cons, List.all_nil, fFld, fMeth, fMake, fInit, endI, fSetFld, toWM, wR, fLook, putFW, List.lookup_cons, List.lookup_nil, Option.isNone, dk, putSub, gSub2, gIn2, keyD, fExt, Option.map_some, Option.map_none, Int.reduceBEq, Int.reduceBNe, and_self, decide_false, List.take_succ_cons, List.take_zero, List.drop_succ_cons, List.drop_zero, Int.natAbs_one, gate_and, fChainE, boolR_b, uAppend_ok, uInsert_ok, rangeD_len, ↓bind_bd, bd_ok, W_bd, W_ok, W_noX, drawE, fFor, fRange1, fRange2, fSl, gSl, List.length_append, List.length_map, List.length_reverse, List.length_take, List.length_drop, k3j, k4, gIs, decide_true, Bool.xor_true, Bool.xor_false, Bool.not_false]
    exact ⟨c3, hc3, trivial, rfl⟩
  · simp (disch := omega) only [fDef, fRet, fRetN, fSeq, fIfS, fTru, fBoo, fAndT, fOrT, fNotT, fAndV, fOrV, fNotV, fIf, fVar, fC, fCall, fCons, fNil, fBin, fUn, on2, on1, pk, pkW, toD, toW, wD, wsD, gate_true, noX_ok, viewsOf, onA, fCB, startG, finD, fIsi, noX_cond, fNext, fDrop, fSet, fSetM, fTup, fLst, fAsgT, bTup, bAll, bName, List.getElem?_cons_zero, List.getElem?_cons_succ, List.map_cons, List.map_nil, List.length_cons, List.length_nil, List.replicate, Nat.reduceAdd, Nat.reduceSub, Nat.zero_add, Nat.sub_self, List.append_nil, List.cons_append, List.nil_append, List.take_length, decide_true, gate_dec, okD, truD, List.set_cons_zero, List.set_cons_succ, cond_true, cond_false, gLen, gAdd, Dl.gSub, gNeg, gEq_int, gNe_int, gLt, gGt, gLe, gGe, cond_and_d, cond_and_d', cond_or_d, cond_or_t, cond_and_t, cond_id, isInt, isBool, isTup, isStr, isLst, gIx, fNoP, fPart, gList, gTuple, fSeqI, take_app, fComp, fYes, wipeG, atI_0, atI_1, atI_2, atI_3, Bool.and_true, Bool.true_and, Bool.and_false, Bool.false_and, Bool.or_true, Bool.true_or, Bool.or_false, Bool.false_or, Bool.not_true, Bool.not_false, lim, Nat.reduceLeDiff, Nat.reduceLT, cast_beq, Option.map_some, shaped_int, fSetSub, ixN_40, ixN_41, ixN_42, ixN_43, fUpd, get_last, set_last, if_true, if_false, not_lt_self, cutL_toI, cutL_fromI, Bool.true_xor, Bool.false_xor, gAll_map, rngOk_lit, smallI_lit, divOk_lit, Int.cast_ofNat_Int, Int.natCast_zero, Int.natCast_one, Int.reduceToNat, Int.reduceNeg, Int.reduceLE, Int.reduceLT, Int.reduceAdd, Int.reduceSub, Int.reduceMul, Int.reducePow, Nat.reduceMul, Nat.reducePow, Nat.reduceBEq, cast_beqL, cast_bneL, Nat.reduceBeqDiff, Nat.reduceBneDiff, eqv_str, eqv_int, ofString_beq, ofString_bne, String.reduceBEq, String.reduceBNe, shaped_strS, List.any_cons, List.any_nil, flatD, List.all_cons, List.all_nil, fFld, fMeth, fMake, fInit, endI, fSetFld, toWM, wR, fLook, putFW, List.lookup_cons, List.lookup_nil, Option.isNone, dk, putSub, gSub2, gIn2, keyD, fExt, Option.map_some, Option.map_none, Int.reduceBEq, Int.reduceBNe, and_self, decide_false, List.take_succ_cons, List.take_zero, List.drop_succ_cons, List.drop_zero, Int.natAbs_one, gate_and, fChainE, boolR_b, uAppend_ok, uInsert_ok, rangeD_len, ↓bind_bd, bd_ok, W_bd, W_ok, W_noX, drawE, fFor, fRange1, fRange2, fSl, gSl, List.length_append, List.length_map, List.length_reverse, List.length_take, List.length_drop, wD5, ix5_0, ix5_4]
    refine W_draw hc2 (by decide) (by decide) fun r3 c3 hc3 b4 b5 => ?_
    have k3j := k3 2 r3 (by omega) b4 _ rfl
    simp only [upd5, wD5] at k3j k4
    simp (disch := omega) only [fDef, fRet, fRetN, fSeq, fIfS, fTru, fBoo, fAndT, fOrT, fNotT, fAndV, fOrV, fNotV, fIf, fVar, fC, fCall, fCons, fNil, fBin, fUn, on2, on1, pk, pkW, toD, toW, wD, wsD, gate_true, noX_ok, viewsOf, onA, fCB, startG, finD, fIsi, noX_cond, fNext, fDrop, fSet, fSetM, fTup, fLst, fAsgT, bTup, bAll, bName, List.getElem?_cons_zero, List.getElem?_cons_succ, List.map_cons, List.map_nil, List.length_cons, List.length_nil, List.replicate, Nat.reduceAdd, Nat.reduceSub, Nat.zero_add, Nat.sub_self, List.append_nil, List.cons_append, List.nil_append, List.take_length, decide_true, gate_dec, okD, truD, List.set_cons_zero, List.set_cons_succ, cond_true, cond_false, gLen, gAdd, Dl.gSub, gNeg, gEq_int, gNe_int, gLt, gGt, gLe, gGe, cond_and_d, cond_and_d', cond_or_d, cond_or_t, cond_and_t, cond_id, isInt, isBool, isTup, isStr, isLst, gIx, fNoP, fPart, gList, gTuple, fSeqI, take_app, fComp, fYes, wipeG, atI_0, atI_1, atI_2, atI_3, Bool.and_true, Bool.true_and, Bool.and_false, Bool.false_and, Bool.or_true, Bool.true_or, Bool.or_false, Bool.false_or, Bool.not_true, Bool.not_false, lim, Nat.reduceLeDiff, Nat.reduceLT, cast_beq, Option.map_some, shaped_int, fSetSub, ixN_40, ixN_41, ixN_42, ixN_43, fUpd, get_last, set_last, if_true, if_false, not_lt_self, cutL_toI, cutL_fromI, Bool.true_xor, Bool.false_xor, gAll_map, rngOk_lit, smallI_lit, divOk_lit, Int.cast_ofNat_Int, Int.natCast_zero, Int.natCast_one, Int.reduceToNat, Int.reduceNeg, Int.reduceLE, Int.reduceLT, Int.reduceAdd, Int.reduceSub, Int.reduceMul, Int.reducePow, Nat.reduceMul, Nat.reducePow, Nat.reduceBEq, cast_beqL, cast_bneL, Nat.reduceBeqDiff, Nat.reduceBneDiff, eqv_str, eqv_int, ofString_beq, ofString_bne, String.reduceBEq, String.reduceBNe, shaped_strS, List.any_cons, List.any_nil, flatD, List.all_cons, List.all_nil, fFld, fMeth, fMake, fInit, endI, fSetFld, toWM, wR, fLook, putFW, List.lookup_cons, List.lookup_nil, Option.isNone, dk, putSub, gSub2, gIn2, keyD, fExt, Option.map_some, Option.map_none, Int.reduceBEq, Int.reduceBNe, and_self, decide_false, List.take_succ_cons, List.take_zero, List.drop_succ_cons, List.drop_zero, Int.natAbs_one, gate_and, fChainE, boolR_b, uAppend_ok, uInsert_ok, rangeD_len, ↓bind_bd, bd_ok, W_bd, W_ok, W_noX, drawE, fFor, fRange1, fRange2, fSl, gSl, List.length_append, List.length_map, List.length_reverse, List.length_take, List.length_drop, k3j, k4, gIs, decide_true, Bool.xor_true, Bool.xor_false, Bool.not_false]
    exact ⟨c3, hc3, trivial, rfl⟩
  · simp (disch := omega) only [fDef, fRet, fRetN, fSeq, fIfS, fTru, fBoo, fAndT, fOrT, fNotT, fAndV, fOrV, fNotV, fIf, fVar, fC, fCall, fCons, fNil, fBin, fUn, on2, on1, pk, pkW, toD, toW, wD, wsD, gate_true, noX_ok, viewsOf, onA, fCB, startG, finD, fIsi, noX_cond, fNext, fDrop, fSet, fSetM, fTup, fLst, fAsgT, bTup, bAll, bName, List.getElem?_cons_zero, List.getElem?_cons_succ, List.map_cons, List.map_nil, List.length_cons, List.length_nil, List.replicate, Nat.reduceAdd, Nat.reduceSub, Nat.zero_add, Nat.sub_self, List.append_nil, List.cons_append, List.nil_append, List.take_length, decide_true, gate_dec, okD, truD, List.set_cons_zero, List.set_cons_succ, cond_true, cond_false, gLen, gAdd, Dl.gSub, gNeg, gEq_int, gNe_int, gLt, gGt, gLe, gGe, cond_and_d, cond_and_d', cond_or_d, cond_or_t, cond_and_t, cond_id, isInt, isBool, isTup, isStr, isLst, gIx, fNoP, fPart, gList, gTuple, fSeqI, take_app, fComp, fYes, wipeG, atI_0, atI_1, atI_2, atI_3, Bool.and_true, Bool.true_and, Bool.and_false, Bool.false_and, Bool.or_true, Bool.true_or, Bool.or_false, Bool.false_or, Bool.not_true, Bool.not_false, lim, Nat.reduceLeDiff, Nat.reduceLT, cast_beq, Option.map_some, shaped_int, fSetSub, ixN_40, ixN_41, ixN_42, ixN_43, fUpd, get_last, set_last, if_true, if_false, not_lt_self, cutL_toI, cutL_fromI, Bool.true_xor, Bool.false_xor, gAll_map, rngOk_lit, smallI_lit, divOk_lit, Int.cast_ofNat_Int, Int.natCast_zero, Int.natCast_one, Int.reduceToNat, Int.reduceNeg, Int.reduceLE, Int.reduceLT, Int.reduceAdd, Int.reduceSub, Int.reduceMul, Int.reducePow, Nat.reduceMul, Nat.reducePow, Nat.reduceBEq, cast_beqL, cast_bneL, Nat.reduceBeqDiff, Nat.reduceBneDiff, eqv_str, eqv_int, ofString_beq, ofString_bne, String.reduceBEq, String.reduceBNe, shaped_strS, List.any_cons, List.any_nil, flatD, List.all_cons, List.all_nil, fFld, fMeth, fMake, fInit, endI, fSetFld, toWM, wR, fLook, putFW, List.lookup_cons, List.lookup_nil, Option.isNone, dk, putSub, gSub2, gIn2, keyD, fExt, Option.map_some, Option.map_none, Int.reduceBEq, Int.reduceBNe, and_self, decide_false, List.take_succ_cons, List.take_zero, List.drop_succ_cons, List.drop_zero, Int.natAbs_one, gate_and, fChainE, boolR_b, uAppend_ok, uInsert_ok, rangeD_len, ↓bind_bd, bd_ok, W_bd, W_ok, W_noX, drawE, fFor, fRange1, fRange2, fSl, gSl, List.length_append, List.length_map, List.length_reverse, List.length_take, List.length_drop, wD5, ix5_0, ix5_4]
    refine W_draw hc2 (by decide) (by decide) fun r3 c3 hc3 b4 b5 => ?_
    have k3j := k3 3 r3 (by omega) b4 _ rfl
    simp only [upd5, wD5] at k3j k4
    simp (disch := omega) only [fDef, fRet, fRetN, fSeq, fIfS, fTru, fBoo, fAndT, fOrT, fNotT, fAndV, fOrV, fNotV, fIf, fVar, fC, fCall, fCons, fNil, fBin, fUn, on2, on1, pk, pkW, toD, toW, wD, wsD, gate_true, noX_ok, viewsOf, onA, fCB, startG, finD, fIsi, noX_cond, fNext, fDrop, fSet, fSetM, fTup, fLst, fAsgT, bTup, bAll, bName, List.getElem?_cons_zero, List.getElem?_cons_succ, List.map_cons, List.map_nil, List.length_cons, List.length_nil, List.replicate, Nat.reduceAdd, Nat.reduceSub, Nat.zero_add, Nat.sub_self, List.append_nil, List.cons_append, List.nil_append, List.take_length, decide_true, gate_dec, okD, truD, List.set_cons_zero, List.set_cons_succ, cond_true, cond_false, gLen, gAdd, Dl.gSub, gNeg, gEq_int, gNe_int, gLt, gGt, gLe, gGe, cond_and_d, cond_and_d', cond_or_d, cond_or_t, cond_and_t, cond_id, isInt, isBool, isTup, isStr, isLst, gIx, fNoP, fPart, gList, gTuple, fSeqI, take_app, fComp, fYes, wipeG, atI_0, atI_1, atI_2, atI_3, Bool.and_true, Bool.true_and, Bool.and_false, Bool.false_and, Bool.or_true, Bool.true_or, Bool.or_false, Bool.false_or, Bool.not_true, Bool.not_false, lim, Nat.reduceLeDiff, Nat.reduceLT, cast_beq, Option.map_some, shaped_int, fSetSub, ixN_40, ixN_41, ixN_42, ixN_43, fUpd, get_last, set_last, if_true, if_false, not_lt_self, cutL_toI, cutL_fromI, Bool.true_xor, Bool.false_xor, gAll_map, rngOk_lit, smallI_lit, divOk_lit, Int.cast_ofNat_Int, Int.natCast_zero, Int.natCast_one, Int.reduceToNat, Int.reduceNeg, Int.reduceLE, Int.reduceLT, Int.reduceAdd, Int.reduceSub, Int.reduceMul, Int.reducePow, Nat.reduceMul, Nat.reducePow, Nat.reduceBEq, cast_beqL, cast_bneL, Nat.reduceBeqDiff, Nat.reduceBneDiff, eqv_str, eqv_int, ofString_beq, ofString_bne, String.reduceBEq, String.reduceBNe, shaped_strS, List.any_cons, List.any_nil, flatD, List.all_cons, List.all_nil, fFld, fMeth, fMake, fInit, endI, fSetFld, toWM, wR, fLook, putFW, List.lookup_cons, List.lookup_nil, Option.isNone, dk, putSub, gSub2, gIn2, keyD, fExt, Option.map_some, Option.map_none, Int.reduceBEq, Int.reduceBNe, and_self, decide_false, List.take_succ_cons, List.take_zero, List.drop_succ_cons, List.drop_zero, Int.natAbs_one, gate_and, fChainE, boolR_b, uAppend_ok, uInsert_ok, rangeD_len, ↓bind_bd, bd_ok, W_bd, W_ok, W_noX, drawE, fFor, fRange1, fRange2, fSl, gSl, List.length_append, List.length_map, List.length_reverse, List.length_take, List.length_drop, k3j, k4, gIs, decide_true, Bool.xor_true, Bool.xor_false, Bool.not_false]
    exact ⟨c3, hc3, trivial, rfl⟩
  · simp (disch := omega) only [fDef, fRet, fRetN, fSeq, fIfS, fTru, fBoo, fAndT, fOrT, fNotT, fAndV, fOrV, fNotV, fIf, fVar, fC, fCall, fCons, fNil, fBin, fUn, on2, on1, pk, pkW, toD, toW, wD, wsD, gate_true, noX_ok, viewsOf, onA, fCB, startG, finD, fIsi, noX_cond, fNext, fDrop, fSet, fSetM, fTup, fLst, fAsgT, bTup, bAll, bName, List.getElem?_cons_zero, List.getElem?_cons_succ, List.map_cons, List.map_nil, List.length_cons, List.length_nil, List.replicate, Nat.reduceAdd, Nat.reduceSub, Nat.zero_add, Nat.sub_self, List.append_nil, List.cons_append, List.nil_append, List.take_length, decide_true, gate_dec, okD, truD, List.set_cons_zero, List.set_cons_succ, cond_true, cond_false, gLen, gAdd, Dl.gSub, gNeg, gEq_int, gNe_int, gLt, gGt, gLe, gGe, cond_and_d, cond_and_d', cond_or_d, cond_or_t, cond_and_t, cond_id, isInt, isBool, isTup, isStr, isLst, gIx, fNoP, fPart, gList, gTuple, fSeqI, take_app, fComp, fYes, wipeG, atI_0, atI_1, atI_2, atI_3, Bool.and_true, Bool.true_and, Bool.and_false, Bool.false_and, Bool.or_true, Bool.true_or, Bool.or_false, Bool.false_or, Bool.not_true, Bool.not_false, lim, Nat.reduceLeDiff, Nat.reduceLT, cast_beq, Option.map_some, shaped_int, fSetSub, ixN_40, ixN_41, ixN_42, ixN_43, fUpd, get_last, set_last, if_true, if_false, not_lt_self, cutL_toI, cutL_fromI, Bool.true_xor, Bool.false_xor, gAll_map, rngOk_lit, smallI_lit, divOk_lit, Int.cast_ofNat_Int, Int.natCast_zero, Int.natCast_one, Int.reduceToNat, Int.reduceNeg, Int.reduceLE, Int.reduceLT, Int.reduceAdd, Int.reduceSub, Int.reduceMul, Int.reducePow, Nat.reduceMul, Nat.reducePow, Nat.reduceBEq, cast_beqL, cast_bneL, Nat.reduceBeqDiff, Nat.reduceBneDiff, eqv_str, eqv_int, ofString_beq, ofString_bne, String.reduceBEq, String.reduceBNe, shaped_strS, List.any_cons, List.any_nil, flatD, List.all_cons, List.all_nil, fFld, fMeth, fMake, fInit, endI, fSetFld, toWM, wR, fLook, putFW, List.lookup_cons, List.lookup_nil, Option.isNone, dk, putSub, gSub2, gIn2, keyD, fExt, Option.map_some, Option.map_none, Int.reduceBEq, Int.reduceBNe, and_self, decide_false, List.take_succ_cons, List.take_zero, List.drop_succ_cons, List.drop_zero, Int.natAbs_one, gate_and, fChainE, boolR_b, uAppend_ok, uInsert_ok, rangeD_len, ↓bind_bd, bd_ok, W_bd, W_ok, W_noX, drawE, fFor, fRange1, fRange2, fSl, gSl, List.length_append, List.length_map, List.length_reverse, List.length_take, List.length_drop, wD5, ix5_0, ix5_4]
    refine W_draw hc2 (by decide) (by decide) fun r3 c3 hc3 b4 b5 => ?_
    have k3j := k3 4 r3 (by omega) b4 _ rfl
    simp only [upd5, wD5] at k3j k4
    simp (disch := omega) only [fDef, fRet, fRetN, fSeq, fIfS, fTru, fBoo, fAndT, fOrT, fNotT, fAndV, fOrV, fNotV, fIf, fVar, fC, fCall, fCons, fNil, fBin, fUn, on2, on1, pk, pkW, toD, toW, wD, wsD, gate_true, noX_ok, viewsOf, onA, fCB, startG, finD, fIsi, noX_cond, fNext, fDrop, fSet, fSetM, fTup, fLst, fAsgT, bTup, bAll, bName, List.getElem?_cons_zero, List.getElem?_cons_succ, List.map_cons, List.map_nil, List.length_cons, List.length_nil, List.replicate, Nat.reduceAdd, Nat.reduceSub, Nat.zero_add, Nat.sub_self, List.append_nil, List.cons_append, List.nil_append, List.take_length, decide_true, gate_dec, okD, truD, List.set_cons_zero, List.set_cons_succ, cond_true, cond_false, gLen, gAdd, Dl.gSub, gNeg, gEq_int, gNe_int, gLt, gGt, gLe, gGe, cond_and_d, cond_and_d', cond_or_d, cond_or_t, cond_and_t, cond_id, isInt, isBool, isTup, isStr, isLst, gIx, fNoP, fPart, gList, gTuple, fSeqI, take_app, fComp, fYes, wipeG, atI_0, atI_1, atI_2, atI_3, Bool.and_true, Bool.true_and, Bool.and_false, Bool.false_and, Bool.or_true, Bool.true_or, Bool.or_false, Bool.false_or, Bool.not_true, Bool.not_false, lim, Nat.reduceLeDiff, Nat.reduceLT, cast_beq, Option.map_some, shaped_int, fSetSub, ixN_40, ixN_41, ixN_42, ixN_43, fUpd, get_last, set_last, if_true, if_false, not_lt_self, cutL_toI, cutL_fromI, Bool.true_xor, Bool.false_xor, gAll_map, rngOk_lit, smallI_lit, divOk_lit, Int.cast_ofNat_Int, Int.natCast_zero, Int.natCast_one, Int.reduceToNat, Int.reduceNeg, Int.reduceLE, Int.reduceLT, Int.reduceAdd, Int.reduceSub, Int.reduceMul, Int.reducePow, Nat.reduceMul, Nat.reducePow, Nat.reduceBEq, cast_beqL, cast_bneL, Nat.reduceBeqDiff, Nat.reduceBneDiff, eqv_str, eqv_int, ofString_beq, ofString_bne, String.reduceBEq, String.reduceBNe, shaped_strS, List.any_cons, List.any_nil, flatD, List.all_cons, List.all_nil, fFld, fMeth, fMake, fInit, endI, fSetFld, toWM, wR, fLook, putFW, List.lookup_cons, List.lookup_nil, Option.isNone, dk, putSub, gSub2, gIn2, keyD, fExt, Option.map_some, Option.map_none, Int.reduceBEq, Int.reduceBNe, and_self, decide_false, List.take_succ_cons, List.take_zero, List.drop_succ_cons, List.drop_zero, Int.natAbs_one, gate_and, fChainE, boolR_b, uAppend_ok, uInsert_ok, rangeD_len, ↓bind_bd, bd_ok, W_bd, W_ok, W_noX, drawE, fFor, fRange1, fRange2, fSl, gSl, List.length_append, List.length_map, List.length_reverse, List.length_take, List.length_drop, k3j, k4, gIs, decide_true, Bool.xor_true, Bool.xor_false, Bool.not_false]
    exact ⟨c3, hc3, trivial, rfl⟩
end
end K25
namespace K25
open PySem L2 Dl
/-- behind the drawn cell -/
def rest : FS := fSeq (fIfS (fNotT (fTru (fCall 2 (d__law_same 4) (fCons (fCB gTuple (fCons (fCall 1 d_cell_equations (fCons (fVar 3) (fNil))) (fNil))) (fCons (fTup (fNil)) (fNil)))))) (fRet (fC (.bool false))) (fNext))
  (fIfS (fNotT (fTru (fCall 2 (d__law_same 4) (fCons (fCB gTuple (fCons (fCall 1 d_cell_wants (fCons (fVar 3) (fNil))) (fNil))) (fCons (fCB gTuple (fCons (fCall 1 d__law_wants (fCons (fVar 3) (fNil))) (fNil))) (fNil)))))) (fRet (fC (.bool false))) (fNext))
def chk (o : Out Fl) : Option Sto := match o with
  | .ok (.nx [_, some (.ref 0), _, _, _]) S => some S
  | _ => none
def cell2 (kind : Str) (i j o : Int) : D := .tuple [.str kind, .tuple [.int i, .int j], .tuple [.int o]]
def cell1 (i o : Int) : D := .tuple [.str "not", .tuple [.int i], .tuple [.int o]]
def combos : List (Int × Int × Int) := [0, 1, 2, 3, 4].flatMap fun i => [0, 1, 2, 3, 4].flatMap fun j => [7, 8, 9].map fun o => (i, j, o)
def combos1 : List (Int × Int) := [0, 1, 2, 3, 4].flatMap fun i => [7, 8, 9].map fun o => (i, o)
theorem not_ok (c : Cell) (x0 x2 x4 : Option Wv) : (combos1.map fun p => chk (rest [x0, some (.ref 0), x2, some (.d (cell1 p.1 p.2)), x4] [c])) = combos1.map fun _ => some [c] := by kernel_rfl
end K25
namespace K25
open PySem L2 Dl
theorem and_ok (c : Cell) (x0 x2 x4 : Option Wv) : (combos.map fun p => chk (rest [x0, some (.ref 0), x2, some (.d (cell2 "and" p.1 p.2.1 p.2.2)), x4] [c])) = combos.map fun _ => some [c] := by kernel_rfl
end K25
namespace K25
open PySem L2 Dl
theorem or_ok (c : Cell) (x0 x2 x4 : Option Wv) : (combos.map fun p => chk (rest [x0, some (.ref 0), x2, some (.d (cell2 "or" p.1 p.2.1 p.2.2)), x4] [c])) = combos.map fun _ => some [c] := by kernel_rfl
end K25
namespace K25
open PySem L2 Dl
theorem unlike_ok (c : Cell) (x0 x2 x4 : Option Wv) : (combos.map fun p => chk (rest [x0, some (.ref 0), x2, some (.d (cell2 "unlike" p.1 p.2.1 p.2.2)), x4] [c])) = combos.map fun _ => some [c] := by kernel_rfl
end K25
namespace K25
open PySem L2 Dl
theorem like_ok (c : Cell) (x0 x2 x4 : Option Wv) : (combos.map fun p => chk (rest [x0, some (.ref 0), x2, some (.d (cell2 "like" p.1 p.2.1 p.2.2)), x4] [c])) = combos.map fun _ => some [c] := by kernel_rfl
end K25
namespace K25
open PySem L2 Dl
theorem all_of {α β : Type} {f : α → β} {b : β} : ∀ {l : List α}, l.map f = l.map (fun _ => b) → ∀ p ∈ l, f p = b
  | [], _, p, h => by cases h
  | x :: l, e, p, h => by
    simp only [List.map_cons, List.cons.injEq] at e
    rcases List.mem_cons.mp h with rfl | h
    · exact e.1
    · exact all_of e.2 p h
theorem not_ok2 (c : Cell) (x0 x2 x4 : Option Wv) : ∀ p ∈ combos1, chk (rest [x0, some (.ref 0), x2, some (.d (cell1 p.1 p.2)), x4] [c]) = some [c] := all_of (not_ok c x0 x2 x4)
theorem and_ok2 (c : Cell) (x0 x2 x4 : Option Wv) : ∀ p ∈ combos, chk (rest [x0, some (.ref 0), x2, some (.d (cell2 "and" p.1 p.2.1 p.2.2)), x4] [c]) = some [c] := all_of (and_ok c x0 x2 x4)
theorem or_ok2 (c : Cell) (x0 x2 x4 : Option Wv) : ∀ p ∈ combos, chk (rest [x0, some (.ref 0), x2, some (.d (cell2 "or" p.1 p.2.1 p.2.2)), x4] [c]) = some [c] := all_of (or_ok c x0 x2 x4)
theorem unlike_ok2 (c : Cell) (x0 x2 x4 : Option Wv) : ∀ p ∈ combos, chk (rest [x0, some (.ref 0), x2, some (.d (cell2 "unlike" p.1 p.2.1 p.2.2)), x4] [c]) = some [c] := all_of (unlike_ok c x0 x2 x4)
theorem like_ok2 (c : Cell) (x0 x2 x4 : Option Wv) : ∀ p ∈ combos, chk (rest [x0, some (.ref 0), x2, some (.d (cell2 "like" p.1 p.2.1 p.2.2)), x4] [c]) = some [c] := all_of (like_ok c x0 x2 x4)
theorem chk_ok {o : Out Fl} {S : Sto} (h : chk o = some S) : ∃ y0 y2 y3 y4, o = .ok (.nx [y0, some (.ref 0), y2, y3, y4]) S := by
  unfold chk at h
  split at h
  · cases h; exact ⟨_, _, _, _, rfl⟩
  · cases h
theorem mem3 {x y z : Int} (hx : 0 ≤ x ∧ x < 5) (hy : 0 ≤ y ∧ y < 5) (hz : 0 ≤ z ∧ z < 3) : (x, y, 7 + z) ∈ combos := by
  have h1 : x = 0 ∨ x = 1 ∨ x = 2 ∨ x = 3 ∨ x = 4 := by omega
  have h2 : y = 0 ∨ y = 1 ∨ y = 2 ∨ y = 3 ∨ y = 4 := by omega
  have h3 : 7 + z = 7 ∨ 7 + z = 8 ∨ 7 + z = 9 := by omega
  generalize 7 + z = t at h3
  simp only [combos, List.mem_flatMap, List.mem_map, List.mem_cons, List.not_mem_nil, or_false, Prod.mk.injEq]
  exact ⟨x, h1, y, h2, t, h3, rfl, rfl, rfl⟩
theorem mem2 {x z : Int} (hx : 0 ≤ x ∧ x < 5) (hz : 0 ≤ z ∧ z < 3) : (x, 7 + z) ∈ combos1 := by
  have h1 : x = 0 ∨ x = 1 ∨ x = 2 ∨ x = 3 ∨ x = 4 := by omega
  have h3 : 7 + z = 7 ∨ 7 + z = 8 ∨ 7 + z = 9 := by omega
  generalize 7 + z = t at h3
  simp only [combos1, List.mem_flatMap, List.mem_map, List.mem_cons, List.not_mem_nil, or_false, Prod.mk.injEq]
  exact ⟨x, h1, t, h3, rfl, rfl⟩
/-- a drawn cell that is no slice -/
inductive Oc : D → Prop
  | not {i o : Int} : 0 ≤ i ∧ i < 5 → 0 ≤ o ∧ o < 3 → Oc (cell1 i (7 + o))
  | two {kind : Str} {i j o : Int} : (kind = "and" ∨ kind = "or" ∨ kind = "unlike" ∨ kind = "like") → 0 ≤ i ∧ i < 5 → 0 ≤ j ∧ j < 5 → 0 ≤ o ∧ o < 3 → Oc (cell2 kind i j (7 + o))
theorem rest_ev {x : D} (h : Oc x) (c : Cell) (x0 x2 x4 : Option Wv) : ∃ y0 y2 y3 y4, rest [x0, some (.ref 0), x2, some (.d x), x4] [c] = .ok (.nx [y0, some (.ref 0), y2, y3, y4]) [c] := by
  refine chk_ok ?_
  cases h with
  | @not i o hi ho => exact not_ok2 c x0 x2 x4 (i, 7 + o) (mem2 hi ho)
  | @two kind i j o hk hi hj ho =>
    rcases hk with rfl | rfl | rfl | rfl
    · exact and_ok2 c x0 x2 x4 (i, j, 7 + o) (mem3 hi hj ho)
    · exact or_ok2 c x0 x2 x4 (i, j, 7 + o) (mem3 hi hj ho)
    · exact unlike_ok2 c x0 x2 x4 (i, j, 7 + o) (mem3 hi hj ho)
    · exact like_ok2 c x0 x2 x4 (i, j, 7 + o) (mem3 hi hj ho)
theorem other_W {c0 : Cell} (hc : StOk c0) : W (d__law_other_cell [.ref 0] [c0]) (fun r S => ∃ x c', r = .d x ∧ Oc x ∧ StOk c' ∧ S = [c']) := by
  unfold d__law_other_cell
  simp (disch := omega) only [fDef, fRet, fRetN, fSeq, fIfS, fTru, fBoo, fAndT, fOrT, fNotT, fAndV, fOrV, fNotV, fIf, fVar, fC, fCall, fCons, fNil, fBin, fUn, on2, on1, pk, pkW, toD, toW, wD, wsD, gate_true, noX_ok, viewsOf, onA, fCB, startG, finD, fIsi, noX_cond, fNext, fDrop, fSet, fSetM, fTup, fLst, fAsgT, bTup, bAll, bName, List.getElem?_cons_zero, List.getElem?_cons_succ, List.map_cons, List.map_nil, List.length_cons, List.length_nil, List.replicate, Nat.reduceAdd, Nat.reduceSub, Nat.zero_add, Nat.sub_self, List.append_nil, List.cons_append, List.nil_append, List.take_length, decide_true, gate_dec, okD, truD, List.set_cons_zero, List.set_cons_succ, cond_true, cond_false, gLen, gAdd, Dl.gSub, gNeg, gEq_int, gNe_int, gLt, gGt, gLe, gGe, cond_and_d, cond_and_d', cond_or_d, cond_or_t, cond_and_t, cond_id, isInt, isBool, isTup, isStr, isLst, gIx, fNoP, fPart, gList, gTuple, fSeqI, take_app, fComp, fYes, wipeG, atI_0, atI_1, atI_2, atI_3, Bool.and_true, Bool.true_and, Bool.and_false, Bool.false_and, Bool.or_true, Bool.true_or, Bool.or_false, Bool.false_or, Bool.not_true, Bool.not_false, lim, Nat.reduceLeDiff, Nat.reduceLT, cast_beq, Option.map_some, shaped_int, fSetSub, ixN_40, ixN_41, ixN_42, ixN_43, fUpd, get_last, set_last, if_true, if_false, not_lt_self, cutL_toI, cutL_fromI, Bool.true_xor, Bool.false_xor, gAll_map, rngOk_lit, smallI_lit, divOk_lit, Int.cast_ofNat_Int, Int.natCast_zero, Int.natCast_one, Int.reduceToNat, Int.reduceNeg, Int.reduceLE, Int.reduceLT, Int.reduceAdd, Int.reduceSub, Int.reduceMul, Int.reducePow, Nat.reduceMul, Nat.reducePow, Nat.reduceBEq, cast_beqL, cast_bneL, Nat.reduceBeqDiff, Nat.reduceBneDiff, eqv_str, eqv_int, ofString_beq, ofString_bne, String.reduceBEq, String.reduceBNe, shaped_strS, List.any_cons, List.any_nil, flatD, List.all_cons, List.all_nil, fFld, fMeth, fMake, fInit, endI, fSetFld, toWM, wR, fLook, putFW, List.lookup_cons, List.lookup_nil, Option.isNone, dk, putSub, gSub2, gIn2, keyD, fExt, Option.map_some, Option.map_none, Int.reduceBEq, Int.reduceBNe, and_self, decide_false, List.take_succ_cons, List.take_zero, List.drop_succ_cons, List.drop_zero, Int.natAbs_one, gate_and, fChainE, boolR_b, uAppend_ok, uInsert_ok, rangeD_len, ↓bind_bd, bd_ok, W_bd, W_ok, W_noX, drawE, fFor, fRange1, fRange2, fSl, gSl, List.length_append, List.length_map, List.length_reverse, List.length_take, List.length_drop, oneE]
  refine W_one hc (by simp) (by simp) fun x c1 hc1 hx => ?_
  simp only [List.mem_cons, List.not_mem_nil, or_false] at hx
  have rg1 : rangeD 0 1 = [.int 0] := rfl
  rcases hx with rfl | rfl | rfl | rfl | rfl
  · simp (disch := omega) only [fDef, fRet, fRetN, fSeq, fIfS, fTru, fBoo, fAndT, fOrT, fNotT, fAndV, fOrV, fNotV, fIf, fVar, fC, fCall, fCons, fNil, fBin, fUn, on2, on1, pk, pkW, toD, toW, wD, wsD, gate_true, noX_ok, viewsOf, onA, fCB, startG, finD, fIsi, noX_cond, fNext, fDrop, fSet, fSetM, fTup, fLst, fAsgT, bTup, bAll, bName, List.getElem?_cons_zero, List.getElem?_cons_succ, List.map_cons, List.map_nil, List.length_cons, List.length_nil, List.replicate, Nat.reduceAdd, Nat.reduceSub, Nat.zero_add, Nat.sub_self, List.append_nil, List.cons_append, List.nil_append, List.take_length, decide_true, gate_dec, okD, truD, List.set_cons_zero, List.set_cons_succ, cond_true, cond_false, gLen, gAdd, Dl.gSub, gNeg, gEq_int, gNe_int, gLt, gGt, gLe, gGe, cond_and_d, cond_and_d', cond_or_d, cond_or_t, cond_and_t, cond_id, isInt, isBool, isTup, isStr, isLst, gIx, fNoP, fPart, gList, gTuple, fSeqI, take_app, fComp, fYes, wipeG, atI_0, atI_1, atI_2, atI_3, Bool.and_true, Bool.true_and, Bool.and_false, Bool.false_and, Bool.or_true, Bool.true_or, Bool.or_false, Bool.false_or, Bool.not_true, Bool.not_false, lim, Nat.reduceLeDiff, Nat.reduceLT, cast_beq, Option.map_some, shaped_int, fSetSub, ixN_40, ixN_41, ixN_42, ixN_43, fUpd, get_last, set_last, if_true, if_false, not_lt_self, cutL_toI, cutL_fromI, Bool.true_xor, Bool.false_xor, gAll_map, rngOk_lit, smallI_lit, divOk_lit, Int.cast_ofNat_Int, Int.natCast_zero, Int.natCast_one, Int.reduceToNat, Int.reduceNeg, Int.reduceLE, Int.reduceLT, Int.reduceAdd, Int.reduceSub, Int.reduceMul, Int.reducePow, Nat.reduceMul, Nat.reducePow, Nat.reduceBEq, cast_beqL, cast_bneL, Nat.reduceBeqDiff, Nat.reduceBneDiff, eqv_str, eqv_int, ofString_beq, ofString_bne, String.reduceBEq, String.reduceBNe, shaped_strS, List.any_cons, List.any_nil, flatD, List.all_cons, List.all_nil, fFld, fMeth, fMake, fInit, endI, fSetFld, toWM, wR, fLook, putFW, List.lookup_cons, List.lookup_nil, Option.isNone, dk, putSub, gSub2, gIn2, keyD, fExt, Option.map_some, Option.map_none, Int.reduceBEq, Int.reduceBNe, and_self, decide_false, List.take_succ_cons, List.take_zero, List.drop_succ_cons, List.drop_zero, Int.natAbs_one, gate_and, fChainE, boolR_b, uAppend_ok, uInsert_ok, rangeD_len, ↓bind_bd, bd_ok, W_bd, W_ok, W_noX, drawE, fFor, fRange1, fRange2, fSl, gSl, List.length_append, List.length_map, List.length_reverse, List.length_take, List.length_drop, rg1, compL, gInt, gEq]
    refine W_draw hc1 (by decide) (by decide) fun i c2 hc2 a0 a1 => ?_
    simp (disch := omega) only [fDef, fRet, fRetN, fSeq, fIfS, fTru, fBoo, fAndT, fOrT, fNotT, fAndV, fOrV, fNotV, fIf, fVar, fC, fCall, fCons, fNil, fBin, fUn, on2, on1, pk, pkW, toD, toW, wD, wsD, gate_true, noX_ok, viewsOf, onA, fCB, startG, finD, fIsi, noX_cond, fNext, fDrop, fSet, fSetM, fTup, fLst, fAsgT, bTup, bAll, bName, List.getElem?_cons_zero, List.getElem?_cons_succ, List.map_cons, List.map_nil, List.length_cons, List.length_nil, List.replicate, Nat.reduceAdd, Nat.reduceSub, Nat.zero_add, Nat.sub_self, List.append_nil, List.cons_append, List.nil_append, List.take_length, decide_true, gate_dec, okD, truD, List.set_cons_zero, List.set_cons_succ, cond_true, cond_false, gLen, gAdd, Dl.gSub, gNeg, gEq_int, gNe_int, gLt, gGt, gLe, gGe, cond_and_d, cond_and_d', cond_or_d, cond_or_t, cond_and_t, cond_id, isInt, isBool, isTup, isStr, isLst, gIx, fNoP, fPart, gList, gTuple, fSeqI, take_app, fComp, fYes, wipeG, atI_0, atI_1, atI_2, atI_3, Bool.and_true, Bool.true_and, Bool.and_false, Bool.false_and, Bool.or_true, Bool.true_or, Bool.or_false, Bool.false_or, Bool.not_true, Bool.not_false, lim, Nat.reduceLeDiff, Nat.reduceLT, cast_beq, Option.map_some, shaped_int, fSetSub, ixN_40, ixN_41, ixN_42, ixN_43, fUpd, get_last, set_last, if_true, if_false, not_lt_self, cutL_toI, cutL_fromI, Bool.true_xor, Bool.false_xor, gAll_map, rngOk_lit, smallI_lit, divOk_lit, Int.cast_ofNat_Int, Int.natCast_zero, Int.natCast_one, Int.reduceToNat, Int.reduceNeg, Int.reduceLE, Int.reduceLT, Int.reduceAdd, Int.reduceSub, Int.reduceMul, Int.reducePow, Nat.reduceMul, Nat.reducePow, Nat.reduceBEq, cast_beqL, cast_bneL, Nat.reduceBeqDiff, Nat.reduceBneDiff, eqv_str, eqv_int, ofString_beq, ofString_bne, String.reduceBEq, String.reduceBNe, shaped_strS, List.any_cons, List.any_nil, flatD, List.all_cons, List.all_nil, fFld, fMeth, fMake, fInit, endI, fSetFld, toWM, wR, fLook, putFW, List.lookup_cons, List.lookup_nil, Option.isNone, dk, putSub, gSub2, gIn2, keyD, fExt, Option.map_some, Option.map_none, Int.reduceBEq, Int.reduceBNe, and_self, decide_false, List.take_succ_cons, List.take_zero, List.drop_succ_cons, List.drop_zero, Int.natAbs_one, gate_and, fChainE, boolR_b, uAppend_ok, uInsert_ok, rangeD_len, ↓bind_bd, bd_ok, W_bd, W_ok, W_noX, drawE, fFor, fRange1, fRange2, fSl, gSl, List.length_append, List.length_map, List.length_reverse, List.length_take, List.length_drop, compL]
    refine W_draw hc2 (by decide) (by decide) fun o c3 hc3 b0 b1 => ?_
    simp (disch := omega) only [fDef, fRet, fRetN, fSeq, fIfS, fTru, fBoo, fAndT, fOrT, fNotT, fAndV, fOrV, fNotV, fIf, fVar, fC, fCall, fCons, fNil, fBin, fUn, on2, on1, pk, pkW, toD, toW, wD, wsD, gate_true, noX_ok, viewsOf, onA, fCB, startG, finD, fIsi, noX_cond, fNext, fDrop, fSet, fSetM, fTup, fLst, fAsgT, bTup, bAll, bName, List.getElem?_cons_zero, List.getElem?_cons_succ, List.map_cons, List.map_nil, List.length_cons, List.length_nil, List.replicate, Nat.reduceAdd, Nat.reduceSub, Nat.zero_add, Nat.sub_self, List.append_nil, List.cons_append, List.nil_append, List.take_length, decide_true, gate_dec, okD, truD, List.set_cons_zero, List.set_cons_succ, cond_true, cond_false, gLen, gAdd, Dl.gSub, gNeg, gEq_int, gNe_int, gLt, gGt, gLe, gGe, cond_and_d, cond_and_d', cond_or_d, cond_or_t, cond_and_t, cond_id, isInt, isBool, isTup, isStr, isLst, gIx, fNoP, fPart, gList, gTuple, fSeqI, take_app, fComp, fYes, wipeG, atI_0, atI_1, atI_2, atI_3, Bool.and_true, Bool.true_and, Bool.and_false, Bool.false_and, Bool.or_true, Bool.true_or, Bool.or_false, Bool.false_or, Bool.not_true, Bool.not_false, lim, Nat.reduceLeDiff, Nat.reduceLT, cast_beq, Option.map_some, shaped_int, fSetSub, ixN_40, ixN_41, ixN_42, ixN_43, fUpd, get_last, set_last, if_true, if_false, not_lt_self, cutL_toI, cutL_fromI, Bool.true_xor, Bool.false_xor, gAll_map, rngOk_lit, smallI_lit, divOk_lit, Int.cast_ofNat_Int, Int.natCast_zero, Int.natCast_one, Int.reduceToNat, Int.reduceNeg, Int.reduceLE, Int.reduceLT, Int.reduceAdd, Int.reduceSub, Int.reduceMul, Int.reducePow, Nat.reduceMul, Nat.reducePow, Nat.reduceBEq, cast_beqL, cast_bneL, Nat.reduceBeqDiff, Nat.reduceBneDiff, eqv_str, eqv_int, ofString_beq, ofString_bne, String.reduceBEq, String.reduceBNe, shaped_strS, List.any_cons, List.any_nil, flatD, List.all_cons, List.all_nil, fFld, fMeth, fMake, fInit, endI, fSetFld, toWM, wR, fLook, putFW, List.lookup_cons, List.lookup_nil, Option.isNone, dk, putSub, gSub2, gIn2, keyD, fExt, Option.map_some, Option.map_none, Int.reduceBEq, Int.reduceBNe, and_self, decide_false, List.take_succ_cons, List.take_zero, List.drop_succ_cons, List.drop_zero, Int.natAbs_one, gate_and, fChainE, boolR_b, uAppend_ok, uInsert_ok, rangeD_len, ↓bind_bd, bd_ok, W_bd, W_ok, W_noX, drawE, fFor, fRange1, fRange2, fSl, gSl, List.length_append, List.length_map, List.length_reverse, List.length_take, List.length_drop]
    exact ⟨_, c3, rfl, .not ⟨a0, a1⟩ ⟨b0, b1⟩, hc3, rfl⟩
  · simp (disch := omega) only [fDef, fRet, fRetN, fSeq, fIfS, fTru, fBoo, fAndT, fOrT, fNotT, fAndV, fOrV, fNotV, fIf, fVar, fC, fCall, fCons, fNil, fBin, fUn, on2, on1, pk, pkW, toD, toW, wD, wsD, gate_true, noX_ok, viewsOf, onA, fCB, startG, finD, fIsi, noX_cond, fNext, fDrop, fSet, fSetM, fTup, fLst, fAsgT, bTup, bAll, bName, List.getElem?_cons_zero, List.getElem?_cons_succ, List.map_cons, List.map_nil, List.length_cons, List.length_nil, List.replicate, Nat.reduceAdd, Nat.reduceSub, Nat.zero_add, Nat.sub_self, List.append_nil, List.cons_append, List.nil_append, List.take_length, decide_true, gate_dec, okD, truD, List.set_cons_zero, List.set_cons_succ, cond_true, cond_false, gLen, gAdd, Dl.gSub, gNeg, gEq_int, gNe_int, gLt, gGt, gLe, gGe, cond_and_d, cond_and_d', cond_or_d, cond_or_t, cond_and_t, cond_id, isInt, isBool, isTup, isStr, isLst, gIx, fNoP, fPart, gList, gTuple, fSeqI, take_app, fComp, fYes, wipeG, atI_0, atI_1, atI_2, atI_3, Bool.and_true, Bool.true_and, Bool.and_false, Bool.false_and, Bool.or_true, Bool.true_or, Bool.or_false, Bool.false_or, Bool.not_true, Bool.not_false, lim, Nat.reduceLeDiff, Nat.reduceLT, cast_beq, Option.map_some, shaped_int, fSetSub, ixN_40, ixN_41, ixN_42, ixN_43, fUpd, get_last, set_last, if_true, if_false, not_lt_self, cutL_toI, cutL_fromI, Bool.true_xor, Bool.false_xor, gAll_map, rngOk_lit, smallI_lit, divOk_lit, Int.cast_ofNat_Int, Int.natCast_zero, Int.natCast_one, Int.reduceToNat, Int.reduceNeg, Int.reduceLE, Int.reduceLT, Int.reduceAdd, Int.reduceSub, Int.reduceMul, Int.reducePow, Nat.reduceMul, Nat.reducePow, Nat.reduceBEq, cast_beqL, cast_bneL, Nat.reduceBeqDiff, Nat.reduceBneDiff, eqv_str, eqv_int, ofString_beq, ofString_bne, String.reduceBEq, String.reduceBNe, shaped_strS, List.any_cons, List.any_nil, flatD, List.all_cons, List.all_nil, fFld, fMeth, fMake, fInit, endI, fSetFld, toWM, wR, fLook, putFW, List.lookup_cons, List.lookup_nil, Option.isNone, dk, putSub, gSub2, gIn2, keyD, fExt, Option.map_some, Option.map_none, Int.reduceBEq, Int.reduceBNe, and_self, decide_false, List.take_succ_cons, List.take_zero, List.drop_succ_cons, List.drop_zero, Int.natAbs_one, gate_and, fChainE, boolR_b, uAppend_ok, uInsert_ok, rangeD_len, ↓bind_bd, bd_ok, W_bd, W_ok, W_noX, drawE, fFor, fRange1, fRange2, fSl, gSl, List.length_append, List.length_map, List.length_reverse, List.length_take, List.length_drop, rg2, compL, gInt, gEq, Bool.false_eq_true, if_false]
    refine W_draw hc1 (by decide) (by decide) fun i c2 hc2 a0 a1 => ?_
    simp (disch := omega) only [fDef, fRet, fRetN, fSeq, fIfS, fTru, fBoo, fAndT, fOrT, fNotT, fAndV, fOrV, fNotV, fIf, fVar, fC, fCall, fCons, fNil, fBin, fUn, on2, on1, pk, pkW, toD, toW, wD, wsD, gate_true, noX_ok, viewsOf, onA, fCB, startG, finD, fIsi, noX_cond, fNext, fDrop, fSet, fSetM, fTup, fLst, fAsgT, bTup, bAll, bName, List.getElem?_cons_zero, List.getElem?_cons_succ, List.map_cons, List.map_nil, List.length_cons, List.length_nil, List.replicate, Nat.reduceAdd, Nat.reduceSub, Nat.zero_add, Nat.sub_self, List.append_nil, List.cons_append, List.nil_append, List.take_length, decide_true, gate_dec, okD, truD, List.set_cons_zero, List.set_cons_succ, cond_true, cond_false, gLen, gAdd, Dl.gSub, gNeg, gEq_int, gNe_int, gLt, gGt, gLe, gGe, cond_and_d, cond_and_d', cond_or_d, cond_or_t, cond_and_t, cond_id, isInt, isBool, isTup, isStr, isLst, gIx, fNoP, fPart, gList, gTuple, fSeqI, take_app, fComp, fYes, wipeG, atI_0, atI_1, atI_2, atI_3, Bool.and_true, Bool.true_and, Bool.and_false, Bool.false_and, Bool.or_true, Bool.true_or, Bool.or_false, Bool.false_or, Bool.not_true, Bool.not_false, lim, Nat.reduceLeDiff, Nat.reduceLT, cast_beq, Option.map_some, shaped_int, fSetSub, ixN_40, ixN_41, ixN_42, ixN_43, fUpd, get_last, set_last, if_true, if_false, not_lt_self, cutL_toI, cutL_fromI, Bool.true_xor, Bool.false_xor, gAll_map, rngOk_lit, smallI_lit, divOk_lit, Int.cast_ofNat_Int, Int.natCast_zero, Int.natCast_one, Int.reduceToNat, Int.reduceNeg, Int.reduceLE, Int.reduceLT, Int.reduceAdd, Int.reduceSub, Int.reduceMul, Int.reducePow, Nat.reduceMul, Nat.reducePow, Nat.reduceBEq, cast_beqL, cast_bneL, Nat.reduceBeqDiff, Nat.reduceBneDiff, eqv_str, eqv_int, ofString_beq, ofString_bne, String.reduceBEq, String.reduceBNe, shaped_strS, List.any_cons, List.any_nil, flatD, List.all_cons, List.all_nil, fFld, fMeth, fMake, fInit, endI, fSetFld, toWM, wR, fLook, putFW, List.lookup_cons, List.lookup_nil, Option.isNone, dk, putSub, gSub2, gIn2, keyD, fExt, Option.map_some, Option.map_none, Int.reduceBEq, Int.reduceBNe, and_self, decide_false, List.take_succ_cons, List.take_zero, List.drop_succ_cons, List.drop_zero, Int.natAbs_one, gate_and, fChainE, boolR_b, uAppend_ok, uInsert_ok, rangeD_len, ↓bind_bd, bd_ok, W_bd, W_ok, W_noX, drawE, fFor, fRange1, fRange2, fSl, gSl, List.length_append, List.length_map, List.length_reverse, List.length_take, List.length_drop, compL]
    refine W_draw hc2 (by decide) (by decide) fun j c3 hc3 b0 b1 => ?_
    simp (disch := omega) only [fDef, fRet, fRetN, fSeq, fIfS, fTru, fBoo, fAndT, fOrT, fNotT, fAndV, fOrV, fNotV, fIf, fVar, fC, fCall, fCons, fNil, fBin, fUn, on2, on1, pk, pkW, toD, toW, wD, wsD, gate_true, noX_ok, viewsOf, onA, fCB, startG, finD, fIsi, noX_cond, fNext, fDrop, fSet, fSetM, fTup, fLst, fAsgT, bTup, bAll, bName, List.getElem?_cons_zero, List.getElem?_cons_succ, List.map_cons, List.map_nil, List.length_cons, List.length_nil, List.replicate, Nat.reduceAdd, Nat.reduceSub, Nat.zero_add, Nat.sub_self, List.append_nil, List.cons_append, List.nil_append, List.take_length, decide_true, gate_dec, okD, truD, List.set_cons_zero, List.set_cons_succ, cond_true, cond_false, gLen, gAdd, Dl.gSub, gNeg, gEq_int, gNe_int, gLt, gGt, gLe, gGe, cond_and_d, cond_and_d', cond_or_d, cond_or_t, cond_and_t, cond_id, isInt, isBool, isTup, isStr, isLst, gIx, fNoP, fPart, gList, gTuple, fSeqI, take_app, fComp, fYes, wipeG, atI_0, atI_1, atI_2, atI_3, Bool.and_true, Bool.true_and, Bool.and_false, Bool.false_and, Bool.or_true, Bool.true_or, Bool.or_false, Bool.false_or, Bool.not_true, Bool.not_false, lim, Nat.reduceLeDiff, Nat.reduceLT, cast_beq, Option.map_some, shaped_int, fSetSub, ixN_40, ixN_41, ixN_42, ixN_43, fUpd, get_last, set_last, if_true, if_false, not_lt_self, cutL_toI, cutL_fromI, Bool.true_xor, Bool.false_xor, gAll_map, rngOk_lit, smallI_lit, divOk_lit, Int.cast_ofNat_Int, Int.natCast_zero, Int.natCast_one, Int.reduceToNat, Int.reduceNeg, Int.reduceLE, Int.reduceLT, Int.reduceAdd, Int.reduceSub, Int.reduceMul, Int.reducePow, Nat.reduceMul, Nat.reducePow, Nat.reduceBEq, cast_beqL, cast_bneL, Nat.reduceBeqDiff, Nat.reduceBneDiff, eqv_str, eqv_int, ofString_beq, ofString_bne, String.reduceBEq, String.reduceBNe, shaped_strS, List.any_cons, List.any_nil, flatD, List.all_cons, List.all_nil, fFld, fMeth, fMake, fInit, endI, fSetFld, toWM, wR, fLook, putFW, List.lookup_cons, List.lookup_nil, Option.isNone, dk, putSub, gSub2, gIn2, keyD, fExt, Option.map_some, Option.map_none, Int.reduceBEq, Int.reduceBNe, and_self, decide_false, List.take_succ_cons, List.take_zero, List.drop_succ_cons, List.drop_zero, Int.natAbs_one, gate_and, fChainE, boolR_b, uAppend_ok, uInsert_ok, rangeD_len, ↓bind_bd, bd_ok, W_bd, W_ok, W_noX, drawE, fFor, fRange1, fRange2, fSl, gSl, List.length_append, List.length_map, List.length_reverse, List.length_take, List.length_drop, compL]
    refine W_draw hc3 (by decide) (by decide) fun o c4 hc4 d0 d1 => ?_
    simp (disch := omega) only [fDef, fRet, fRetN, fSeq, fIfS, fTru, fBoo, fAndT, fOrT, fNotT, fAndV, fOrV, fNotV, fIf, fVar, fC, fCall, fCons, fNil, fBin, fUn, on2, on1, pk, pkW, toD, toW, wD, wsD, gate_true, noX_ok, viewsOf, onA, fCB, startG, finD, fIsi, noX_cond, fNext, fDrop, fSet, fSetM, fTup, fLst, fAsgT, bTup, bAll, bName, List.getElem?_cons_zero, List.getElem?_cons_succ, List.map_cons, List.map_nil, List.length_cons, List.length_nil, List.replicate, Nat.reduceAdd, Nat.reduceSub, Nat.zero_add, Nat.sub_self, List.append_nil, List.cons_append, List.nil_append, List.take_length, decide_true, gate_dec, okD, truD, List.set_cons_zero, List.set_cons_succ, cond_true, cond_false, gLen, gAdd, Dl.gSub, gNeg, gEq_int, gNe_int, gLt, gGt, gLe, gGe, cond_and_d, cond_and_d', cond_or_d, cond_or_t, cond_and_t, cond_id, isInt, isBool, isTup, isStr, isLst, gIx, fNoP, fPart, gList, gTuple, fSeqI, take_app, fComp, fYes, wipeG, atI_0, atI_1, atI_2, atI_3, Bool.and_true, Bool.true_and, Bool.and_false, Bool.false_and, Bool.or_true, Bool.true_or, Bool.or_false, Bool.false_or, Bool.not_true, Bool.not_false, lim, Nat.reduceLeDiff, Nat.reduceLT, cast_beq, Option.map_some, shaped_int, fSetSub, ixN_40, ixN_41, ixN_42, ixN_43, fUpd, get_last, set_last, if_true, if_false, not_lt_self, cutL_toI, cutL_fromI, Bool.true_xor, Bool.false_xor, gAll_map, rngOk_lit, smallI_lit, divOk_lit, Int.cast_ofNat_Int, Int.natCast_zero, Int.natCast_one, Int.reduceToNat, Int.reduceNeg, Int.reduceLE, Int.reduceLT, Int.reduceAdd, Int.reduceSub, Int.reduceMul, Int.reducePow, Nat.reduceMul, Nat.reducePow, Nat.reduceBEq, cast_beqL, cast_bneL, Nat.reduceBeqDiff, Nat.reduceBneDiff, eqv_str, eqv_int, ofString_beq, ofString_bne, String.reduceBEq, String.reduceBNe, shaped_strS, List.any_cons, List.any_nil, flatD, List.all_cons, List.all_nil, fFld, fMeth, fMake, fInit, endI, fSetFld, toWM, wR, fLook, putFW, List.lookup_cons, List.lookup_nil, Option.isNone, dk, putSub, gSub2, gIn2, keyD, fExt, Option.map_some, Option.map_none, Int.reduceBEq, Int.reduceBNe, and_self, decide_false, List.take_succ_cons, List.take_zero, List.drop_succ_cons, List.drop_zero, Int.natAbs_one, gate_and, fChainE, boolR_b, uAppend_ok, uInsert_ok, rangeD_len, ↓bind_bd, bd_ok, W_bd, W_ok, W_noX, drawE, fFor, fRange1, fRange2, fSl, gSl, List.length_append, List.length_map, List.length_reverse, List.length_take, List.length_drop]
    exact ⟨_, c4, rfl, .two (.inl rfl) ⟨a0, a1⟩ ⟨b0, b1⟩ ⟨d0, d1⟩, hc4, rfl⟩
  · simp (disch := omega) only [fDef, fRet, fRetN, fSeq, fIfS, fTru, fBoo, fAndT, fOrT, fNotT, fAndV, fOrV, fNotV, fIf, fVar, fC, fCall, fCons, fNil, fBin, fUn, on2, on1, pk, pkW, toD, toW, wD, wsD, gate_true, noX_ok, viewsOf, onA, fCB, startG, finD, fIsi, noX_cond, fNext, fDrop, fSet, fSetM, fTup, fLst, fAsgT, bTup, bAll, bName, List.getElem?_cons_zero, List.getElem?_cons_succ, List.map_cons, List.map_nil, List.length_cons, List.length_nil, List.replicate, Nat.reduceAdd, Nat.reduceSub, Nat.zero_add, Nat.sub_self, List.append_nil, List.cons_append, List.nil_append, List.take_length, decide_true, gate_dec, okD, truD, List.set_cons_zero, List.set_cons_succ, cond_true, cond_false, gLen, gAdd, Dl.gSub, gNeg, gEq_int, gNe_int, gLt, gGt, gLe, gGe, cond_and_d, cond_and_d', cond_or_d, cond_or_t, cond_and_t, cond_id, isInt, isBool, isTup, isStr, isLst, gIx, fNoP, fPart, gList, gTuple, fSeqI, take_app, fComp, fYes, wipeG, atI_0, atI_1, atI_2, atI_3, Bool.and_true, Bool.true_and, Bool.and_false, Bool.false_and, Bool.or_true, Bool.true_or, Bool.or_false, Bool.false_or, Bool.not_true, Bool.not_false, lim, Nat.reduceLeDiff, Nat.reduceLT, cast_beq, Option.map_some, shaped_int, fSetSub, ixN_40, ixN_41, ixN_42, ixN_43, fUpd, get_last, set_last, if_true, if_false, not_lt_self, cutL_toI, cutL_fromI, Bool.true_xor, Bool.false_xor, gAll_map, rngOk_lit, smallI_lit, divOk_lit, Int.cast_ofNat_Int, Int.natCast_zero, Int.natCast_one, Int.reduceToNat, Int.reduceNeg, Int.reduceLE, Int.reduceLT, Int.reduceAdd, Int.reduceSub, Int.reduceMul, Int.reducePow, Nat.reduceMul, Nat.reducePow, Nat.reduceBEq, cast_beqL, cast_bneL, Nat.reduceBeqDiff, Nat.reduceBneDiff, eqv_str, eqv_int, ofString_beq, ofString_bne, String.reduceBEq, String.reduceBNe, shaped_strS, List.any_cons, List.any_nil, flatD, List.all_cons, List.all_nil, fFld, fMeth, fMake, fInit, endI, fSetFld, toWM, wR, fLook, putFW, List.lookup_cons, List.lookup_nil, Option.isNone, dk, putSub, gSub2, gIn2, keyD, fExt, Option.map_some, Option.map_none, Int.reduceBEq, Int.reduceBNe, and_self, decide_false, List.take_succ_cons, List.take_zero, List.drop_succ_cons, List.drop_zero, Int.natAbs_one, gate_and, fChainE, boolR_b, uAppend_ok, uInsert_ok, rangeD_len, ↓bind_bd, bd_ok, W_bd, W_ok, W_noX, drawE, fFor, fRange1, fRange2, fSl, gSl, List.length_append, List.length_map, List.length_reverse, List.length_take, List.length_drop, rg2, compL, gInt, gEq, Bool.false_eq_true, if_false]
    refine W_draw hc1 (by decide) (by decide) fun i c2 hc2 a0 a1 => ?_
    simp (disch := omega) only [fDef, fRet, fRetN, fSeq, fIfS, fTru, fBoo, fAndT, fOrT, fNotT, fAndV, fOrV, fNotV, fIf, fVar, fC, fCall, fCons, fNil, fBin, fUn, on2, on1, pk, pkW, toD, toW, wD, wsD, gate_true, noX_ok, viewsOf, onA, fCB, startG, finD, fIsi, noX_cond, fNext, fDrop, fSet, fSetM, fTup, fLst, fAsgT, bTup, bAll, bName, List.getElem?_cons_zero, List.getElem?_cons_succ, List.map_cons, List.map_nil, List.length_cons, List.length_nil, List.replicate, Nat.reduceAdd, Nat.reduceSub, Nat.zero_add, Nat.sub_self, List.append_nil, List.cons_append, List.nil_append, List.take_length, decide_true, gate_dec, okD, truD, List.set_cons_zero, List.set_cons_succ, cond_true, cond_false, gLen, gAdd, Dl.gSub, gNeg, gEq_int, gNe_int, gLt, gGt, gLe, gGe, cond_and_d, cond_and_d', cond_or_d, cond_or_t, cond_and_t, cond_id, isInt, isBool, isTup, isStr, isLst, gIx, fNoP, fPart, gList, gTuple, fSeqI, take_app, fComp, fYes, wipeG, atI_0, atI_1, atI_2, atI_3, Bool.and_true, Bool.true_and, Bool.and_false, Bool.false_and, Bool.or_true, Bool.true_or, Bool.or_false, Bool.false_or, Bool.not_true, Bool.not_false, lim, Nat.reduceLeDiff, Nat.reduceLT, cast_beq, Option.map_some, shaped_int, fSetSub, ixN_40, ixN_41, ixN_42, ixN_43, fUpd, get_last, set_last, if_true, if_false, not_lt_self, cutL_toI, cutL_fromI, Bool.true_xor, Bool.false_xor, gAll_map, rngOk_lit, smallI_lit, divOk_lit, Int.cast_ofNat_Int, Int.natCast_zero, Int.natCast_one, Int.reduceToNat, Int.reduceNeg, Int.reduceLE, Int.reduceLT, Int.reduceAdd, Int.reduceSub, Int.reduceMul, Int.reducePow, Nat.reduceMul, Nat.reducePow, Nat.reduceBEq, cast_beqL, cast_bneL, Nat.reduceBeqDiff, Nat.reduceBneDiff, eqv_str, eqv_int, ofString_beq, ofString_bne, String.reduceBEq, String.reduceBNe, shaped_strS, List.any_cons, List.any_nil, flatD, List.all_cons, List.all_nil, fFld, fMeth, fMake, fInit, endI, fSetFld, toWM, wR, fLook, putFW, List.lookup_cons, List.lookup_nil, Option.isNone, dk, putSub, gSub2, gIn2, keyD, fExt, Option.map_some, Option.map_none, Int.reduceBEq, Int.reduceBNe, and_self, decide_false, List.take_succ_cons, List.take_zero, List.drop_succ_cons, List.drop_zero, Int.natAbs_one, gate_and, fChainE, boolR_b, uAppend_ok, uInsert_ok, rangeD_len, ↓bind_bd, bd_ok, W_bd, W_ok, W_noX, drawE, fFor, fRange1, fRange2, fSl, gSl, List.length_append, List.length_map, List.length_reverse, List.length_take, List.length_drop, compL]
    refine W_draw hc2 (by decide) (by decide) fun j c3 hc3 b0 b1 => ?_
    simp (disch := omega) only [fDef, fRet, fRetN, fSeq, fIfS, fTru, fBoo, fAndT, fOrT, fNotT, fAndV, fOrV, fNotV, fIf, fVar, fC, fCall, fCons, fNil, fBin, fUn, on2, on1, pk, pkW, toD, toW, wD, wsD, gate_true, noX_ok, viewsOf, onA, fCB, startG, finD, fIsi, noX_cond, fNext, fDrop, fSet, fSetM, fTup, fLst, fAsgT, bTup, bAll, bName, List.getElem?_cons_zero, List.getElem?_cons_succ, List.map_cons, List.map_nil, List.length_cons, List.length_nil, List.replicate, Nat.reduceAdd, Nat.reduceSub, Nat.zero_add, Nat.sub_self, List.append_nil, List.cons_append, List.nil_append, List.take_length, decide_true, gate_dec, okD, truD, List.set_cons_zero, List.set_cons_succ, cond_true, cond_false, gLen, gAdd, Dl.gSub, gNeg, gEq_int, gNe_int, gLt, gGt, gLe, gGe, cond_and_d, cond_and_d', cond_or_d, cond_or_t, cond_and_t, cond_id, isInt, isBool, isTup, isStr, isLst, gIx, fNoP, fPart, gList, gTuple, fSeqI, take_app, fComp, fYes, wipeG, atI_0, atI_1, atI_2, atI_3, Bool.and_true, Bool.true_and, Bool.and_false, Bool.false_and, Bool.or_true, Bool.true_or, Bool.or_false, Bool.false_or, Bool.not_true, Bool.not_false, lim, Nat.reduceLeDiff, Nat.reduceLT, cast_beq, Option.map_some, shaped_int, fSetSub, ixN_40, ixN_41, ixN_42, ixN_43, fUpd, get_last, set_last, if_true, if_false, not_lt_self, cutL_toI, cutL_fromI, Bool.true_xor, Bool.false_xor, gAll_map, rngOk_lit, smallI_lit, divOk_lit, Int.cast_ofNat_Int, Int.natCast_zero, Int.natCast_one, Int.reduceToNat, Int.reduceNeg, Int.reduceLE, Int.reduceLT, Int.reduceAdd, Int.reduceSub, Int.reduceMul, Int.reducePow, Nat.reduceMul, Nat.reducePow, Nat.reduceBEq, cast_beqL, cast_bneL, Nat.reduceBeqDiff, Nat.reduceBneDiff, eqv_str, eqv_int, ofString_beq, ofString_bne, String.reduceBEq, String.reduceBNe, shaped_strS, List.any_cons, List.any_nil, flatD, List.all_cons, List.all_nil, fFld, fMeth, fMake, fInit, endI, fSetFld, toWM, wR, fLook, putFW, List.lookup_cons, List.lookup_nil, Option.isNone, dk, putSub, gSub2, gIn2, keyD, fExt, Option.map_some, Option.map_none, Int.reduceBEq, Int.reduceBNe, and_self, decide_false, List.take_succ_cons, List.take_zero, List.drop_succ_cons, List.drop_zero, Int.natAbs_one, gate_and, fChainE, boolR_b, uAppend_ok, uInsert_ok, rangeD_len, ↓bind_bd, bd_ok, W_bd, W_ok, W_noX, drawE, fFor, fRange1, fRange2, fSl, gSl, List.length_append, List.length_map, List.length_reverse, List.length_take, List.length_drop, compL]
    refine W_draw hc3 (by decide) (by decide) fun o c4 hc4 d0 d1 => ?_
    simp (disch := omega) only [fDef, fRet, fRetN, fSeq, fIfS, fTru, fBoo, fAndT, fOrT, fNotT, fAndV, fOrV, fNotV, fIf, fVar, fC, fCall, fCons, fNil, fBin, fUn, on2, on1, pk, pkW, toD, toW, wD, wsD, gate_true, noX_ok, viewsOf, onA, fCB, startG, finD, fIsi, noX_cond, fNext, fDrop, fSet, fSetM, fTup, fLst, fAsgT, bTup, bAll, bName, List.getElem?_cons_zero, List.getElem?_cons_succ, List.map_cons, List.map_nil, List.length_cons, List.length_nil, List.replicate, Nat.reduceAdd, Nat.reduceSub, Nat.zero_add, Nat.sub_self, List.append_nil, List.cons_append, List.nil_append, List.take_length, decide_true, gate_dec, okD, truD, List.set_cons_zero, List.set_cons_succ, cond_true, cond_false, gLen, gAdd, Dl.gSub, gNeg, gEq_int, gNe_int, gLt, gGt, gLe, gGe, cond_and_d, cond_and_d', cond_or_d, cond_or_t, cond_and_t, cond_id, isInt, isBool, isTup, isStr, isLst, gIx, fNoP, fPart, gList, gTuple, fSeqI, take_app, fComp, fYes, wipeG, atI_0, atI_1, atI_2, atI_3, Bool.and_true, Bool.true_and, Bool.and_false, Bool.false_and, Bool.or_true, Bool.true_or, Bool.or_false, Bool.false_or, Bool.not_true, Bool.not_false, lim, Nat.reduceLeDiff, Nat.reduceLT, cast_beq, Option.map_some, shaped_int, fSetSub, ixN_40, ixN_41, ixN_42, ixN_43, fUpd, get_last, set_last, if_true, if_false, not_lt_self, cutL_toI, cutL_fromI, Bool.true_xor, Bool.false_xor, gAll_map, rngOk_lit, smallI_lit, divOk_lit, Int.cast_ofNat_Int, Int.natCast_zero, Int.natCast_one, Int.reduceToNat, Int.reduceNeg, Int.reduceLE, Int.reduceLT, Int.reduceAdd, Int.reduceSub, Int.reduceMul, Int.reducePow, Nat.reduceMul, Nat.reducePow, Nat.reduceBEq, cast_beqL, cast_bneL, Nat.reduceBeqDiff, Nat.reduceBneDiff, eqv_str, eqv_int, ofString_beq, ofString_bne, String.reduceBEq, String.reduceBNe, shaped_strS, List.any_cons, List.any_nil, flatD, List.all_cons, List.all_nil, fFld, fMeth, fMake, fInit, endI, fSetFld, toWM, wR, fLook, putFW, List.lookup_cons, List.lookup_nil, Option.isNone, dk, putSub, gSub2, gIn2, keyD, fExt, Option.map_some, Option.map_none, Int.reduceBEq, Int.reduceBNe, and_self, decide_false, List.take_succ_cons, List.take_zero, List.drop_succ_cons, List.drop_zero, Int.natAbs_one, gate_and, fChainE, boolR_b, uAppend_ok, uInsert_ok, rangeD_len, ↓bind_bd, bd_ok, W_bd, W_ok, W_noX, drawE, fFor, fRange1, fRange2, fSl, gSl, List.length_append, List.length_map, List.length_reverse, List.length_take, List.length_drop]
    exact ⟨_, c4, rfl, .two (.inr (.inl rfl)) ⟨a0, a1⟩ ⟨b0, b1⟩ ⟨d0, d1⟩, hc4, rfl⟩
  · simp (disch := omega) only [fDef, fRet, fRetN, fSeq, fIfS, fTru, fBoo, fAndT, fOrT, fNotT, fAndV, fOrV, fNotV, fIf, fVar, fC, fCall, fCons, fNil, fBin, fUn, on2, on1, pk, pkW, toD, toW, wD, wsD, gate_true, noX_ok, viewsOf, onA, fCB, startG, finD, fIsi, noX_cond, fNext, fDrop, fSet, fSetM, fTup, fLst, fAsgT, bTup, bAll, bName, List.getElem?_cons_zero, List.getElem?_cons_succ, List.map_cons, List.map_nil, List.length_cons, List.length_nil, List.replicate, Nat.reduceAdd, Nat.reduceSub, Nat.zero_add, Nat.sub_self, List.append_nil, List.cons_append, List.nil_append, List.take_length, decide_true, gate_dec, okD, truD, List.set_cons_zero, List.set_cons_succ, cond_true, cond_false, gLen, gAdd, Dl.gSub, gNeg, gEq_int, gNe_int, gLt, gGt, gLe, gGe, cond_and_d, cond_and_d', cond_or_d, cond_or_t, cond_and_t, cond_id, isInt, isBool, isTup, isStr, isLst, gIx, fNoP, fPart, gList, gTuple, fSeqI, take_app, fComp, fYes, wipeG, atI_0, atI_1, atI_2, atI_3, Bool.and_true, Bool.true_and, Bool.and_false, Bool.false_and, Bool.or_true, Bool.true_or, Bool.or_false, Bool.false_or, Bool.not_true, Bool.not_false, lim, Nat.reduceLeDiff, Nat.reduceLT, cast_beq, Option.map_some, shaped_int, fSetSub, ixN_40, ixN_41, ixN_42, ixN_43, fUpd, get_last, set_last, if_true, if_false, not_lt_self, cutL_toI, cutL_fromI, Bool.true_xor, Bool.false_xor, gAll_map, rngOk_lit, smallI_lit, divOk_lit, Int.cast_ofNat_Int, Int.natCast_zero, Int.natCast_one, Int.reduceToNat, Int.reduceNeg, Int.reduceLE, Int.reduceLT, Int.reduceAdd, Int.reduceSub, Int.reduceMul, Int.reducePow, Nat.reduceMul, Nat.reducePow, Nat.reduceBEq, cast_beqL, cast_bneL, Nat.reduceBeqDiff, Nat.reduceBneDiff, eqv_str, eqv_int, ofString_beq, ofString_bne, String.reduceBEq, String.reduceBNe, shaped_strS, List.any_cons, List.any_nil, flatD, List.all_cons, List.all_nil, fFld, fMeth, fMake, fInit, endI, fSetFld, toWM, wR, fLook, putFW, List.lookup_cons, List.lookup_nil, Option.isNone, dk, putSub, gSub2, gIn2, keyD, fExt, Option.map_some, Option.map_none, Int.reduceBEq, Int.reduceBNe, and_self, decide_false, List.take_succ_cons, List.take_zero, List.drop_succ_cons, List.drop_zero, Int.natAbs_one, gate_and, fChainE, boolR_b, uAppend_ok, uInsert_ok, rangeD_len, ↓bind_bd, bd_ok, W_bd, W_ok, W_noX, drawE, fFor, fRange1, fRange2, fSl, gSl, List.length_append, List.length_map, List.length_reverse, List.length_take, List.length_drop, rg2, compL, gInt, gEq, Bool.false_eq_true, if_false]
    refine W_draw hc1 (by decide) (by decide) fun i c2 hc2 a0 a1 => ?_
    simp (disch := omega) only [fDef, fRet, fRetN, fSeq, fIfS, fTru, fBoo, fAndT, fOrT, fNotT, fAndV, fOrV, fNotV, fIf, fVar, fC, fCall, fCons, fNil, fBin, fUn, on2, on1, pk, pkW, toD, toW, wD, wsD, gate_true, noX_ok, viewsOf, onA, fCB, startG, finD, fIsi, noX_cond, fNext, fDrop, fSet, fSetM, fTup, fLst, fAsgT, bTup, bAll, bName, List.getElem?_cons_zero, List.getElem?_cons_succ, List.map_cons, List.map_nil, List.length_cons, List.length_nil, List.replicate, Nat.reduceAdd, Nat.reduceSub, Nat.zero_add, Nat.sub_self, List.append_nil, List.cons_append, List.nil_append, List.take_length, decide_true, gate_dec, okD, truD, List.set_cons_zero, List.set_cons_succ, cond_true, cond_false, gLen, gAdd, Dl.gSub, gNeg, gEq_int, gNe_int, gLt, gGt, gLe, gGe, cond_and_d, cond_and_d', cond_or_d, cond_or_t, cond_and_t, cond_id, isInt, isBool, isTup, isStr, isLst, gIx, fNoP, fPart, gList, gTuple, fSeqI, take_app, fComp, fYes, wipeG, atI_0, atI_1, atI_2, atI_3, Bool.and_true, Bool.true_and, Bool.and_false, Bool.false_and, Bool.or_true, Bool.true_or, Bool.or_false, Bool.false_or, Bool.not_true, Bool.not_false, lim, Nat.reduceLeDiff, Nat.reduceLT, cast_beq, Option.map_some, shaped_int, fSetSub, ixN_40, ixN_41, ixN_42, ixN_43, fUpd, get_last, set_last, if_true, if_false, not_lt_self, cutL_toI, cutL_fromI, Bool.true_xor, Bool.false_xor, gAll_map, rngOk_lit, smallI_lit, divOk_lit, Int.cast_ofNat_Int, Int.natCast_zero, Int.natCast_one, Int.reduceToNat, Int.reduceNeg, Int.reduceLE, Int.reduceLT, Int.reduceAdd, Int.reduceSub, Int.reduceMul, Int.reducePow, Nat.reduceMul, Nat.reducePow, Nat.reduceBEq, cast_beqL, cast_bneL, Nat.reduceBeqDiff, Nat.reduceBneDiff, eqv_str, eqv_int, ofString_beq, ofString_bne, String.reduceBEq, String.reduceBNe, shaped_strS, List.any_cons, List.any_nil, flatD, List.all_cons, List.all_nil, fFld, fMeth, fMake, fInit, endI, fSetFld, toWM, wR, fLook, putFW, List.lookup_cons, List.lookup_nil, Option.isNone, dk, putSub, gSub2, gIn2, keyD, fExt, Option.map_some, Option.map_none, Int.reduceBEq, Int.reduceBNe, and_self, decide_false, List.take_succ_cons, List.take_zero, List.drop_succ_cons, List.drop_zero, Int.natAbs_one, gate_and, fChainE, boolR_b, uAppend_ok, uInsert_ok, rangeD_len, ↓bind_bd, bd_ok, W_bd, W_ok, W_noX, drawE, fFor, fRange1, fRange2, fSl, gSl, List.length_append, List.length_map, List.length_reverse, List.length_take, List.length_drop, compL]
    refine W_draw hc2 (by decide) (by decide) fun j c3 hc3 b0 b1 => ?_
    simp (disch := omega) only [fDef, fRet, fRetN, fSeq, fIfS, fTru, fBoo, fAndT, fOrT, fNotT, fAndV, fOrV, fNotV, fIf, fVar, fC, fCall, fCons, fNil, fBin, fUn, on2, on1, pk, pkW, toD, toW, wD, wsD, gate_true, noX_ok, viewsOf, onA, fCB, startG, finD, fIsi, noX_cond, fNext, fDrop, fSet, fSetM, fTup, fLst, fAsgT, bTup, bAll, bName, List.getElem?_cons_zero, List.getElem?_cons_succ, List.map_cons, List.map_nil, List.length_cons, List.length_nil, List.replicate, Nat.reduceAdd, Nat.reduceSub, Nat.zero_add, Nat.sub_self, List.append_nil, List.cons_append, List.nil_append, List.take_length, decide_true, gate_dec, okD, truD, List.set_cons_zero, List.set_cons_succ, cond_true, cond_false, gLen, gAdd, Dl.gSub, gNeg, gEq_int, gNe_int, gLt, gGt, gLe, gGe, cond_and_d, cond_and_d', cond_or_d, cond_or_t, cond_and_t, cond_id, isInt, isBool, isTup, isStr, isLst, gIx, fNoP, fPart, gList, gTuple, fSeqI, take_app, fComp, fYes, wipeG, atI_0, atI_1, atI_2, atI_3, Bool.and_true, Bool.true_and, Bool.and_false, Bool.false_and, Bool.or_true, Bool.true_or, Bool.or_false, Bool.false_or, Bool.not_true, Bool.not_false, lim, Nat.reduceLeDiff, Nat.reduceLT, cast_beq, Option.map_some, shaped_int, fSetSub, ixN_40, ixN_41, ixN_42, ixN_43, fUpd, get_last, set_last, if_true, if_false, not_lt_self, cutL_toI, cutL_fromI, Bool.true_xor, Bool.false_xor, gAll_map, rngOk_lit, smallI_lit, divOk_lit, Int.cast_ofNat_Int, Int.natCast_zero, Int.natCast_one, Int.reduceToNat, Int.reduceNeg, Int.reduceLE, Int.reduceLT, Int.reduceAdd, Int.reduceSub, Int.reduceMul, Int.reducePow, Nat.reduceMul, Nat.reducePow, Nat.reduceBEq, cast_beqL, cast_bneL, Nat.reduceBeqDiff, Nat.reduceBneDiff, eqv_str, eqv_int, ofString_beq, ofString_bne, String.reduceBEq, String.reduceBNe, shaped_strS, List.any_cons, List.any_nil, flatD, List.all_cons, List.all_nil, fFld, fMeth, fMake, fInit, endI, fSetFld, toWM, wR, fLook, putFW, List.lookup_cons, List.lookup_nil, Option.isNone, dk, putSub, gSub2, gIn2, keyD, fExt, Option.map_some, Option.map_none, Int.reduceBEq, Int.reduceBNe, and_self, decide_false, List.take_succ_cons, List.take_zero, List.drop_succ_cons, List.drop_zero, Int.natAbs_one, gate_and, fChainE, boolR_b, uAppend_ok, uInsert_ok, rangeD_len, ↓bind_bd, bd_ok, W_bd, W_ok, W_noX, drawE, fFor, fRange1, fRange2, fSl, gSl, List.length_append, List.length_map, List.length_reverse, List.length_take, List.length_drop, compL]
    refine W_draw hc3 (by decide) (by decide) fun o c4 hc4 d0 d1 => ?_
    simp (disch := omega) only [fDef, fRet, fRetN, fSeq, fIfS, fTru, fBoo, fAndT, fOrT, fNotT, fAndV, fOrV, fNotV, fIf, fVar, fC, fCall, fCons, fNil, fBin, fUn, on2, on1, pk, pkW, toD, toW, wD, wsD, gate_true, noX_ok, viewsOf, onA, fCB, startG, finD, fIsi, noX_cond, fNext, fDrop, fSet, fSetM, fTup, fLst, fAsgT, bTup, bAll, bName, List.getElem?_cons_zero, List.getElem?_cons_succ, List.map_cons, List.map_nil, List.length_cons, List.length_nil, List.replicate, Nat.reduceAdd, Nat.reduceSub, Nat.zero_add, Nat.sub_self, List.append_nil, List.cons_append, List.nil_append, List.take_length, decide_true, gate_dec, okD, truD, List.set_cons_zero, List.set_cons_succ, cond_true, cond_false, gLen, gAdd, Dl.gSub, gNeg, gEq_int, gNe_int, gLt, gGt, gLe, gGe, cond_and_d, cond_and_d', cond_or_d, cond_or_t, cond_and_t, cond_id, isInt, isBool, isTup, isStr, isLst, gIx, fNoP, fPart, gList, gTuple, fSeqI, take_app, fComp, fYes, wipeG, atI_0, atI_1, atI_2, atI_3, Bool.and_true, Bool.true_and, Bool.and_false, Bool.false_and, Bool.or_true, Bool.true_or, Bool.or_false, Bool.false_or, Bool.not_true, Bool.not_false, lim, Nat.reduceLeDiff, Nat.reduceLT, cast_beq, Option.map_some, shaped_int, fSetSub, ixN_40, ixN_41, ixN_42, ixN_43, fUpd, get_last, set_last, if_true, if_false, not_lt_self, cutL_toI, cutL_fromI, Bool.true_xor, Bool.false_xor, gAll_map, rngOk_lit, smallI_lit, divOk_lit, Int.cast_ofNat_Int, Int.natCast_zero, Int.natCast_one, Int.reduceToNat, Int.reduceNeg, Int.reduceLE, Int.reduceLT, Int.reduceAdd, Int.reduceSub, Int.reduceMul, Int.reducePow, Nat.reduceMul, Nat.reducePow, Nat.reduceBEq, cast_beqL, cast_bneL, Nat.reduceBeqDiff, Nat.reduceBneDiff, eqv_str, eqv_int, ofString_beq, ofString_bne, String.reduceBEq, String.reduceBNe, shaped_strS, List.any_cons, List.any_nil, flatD, List.all_cons, List.all_nil, fFld, fMeth, fMake, fInit, endI, fSetFld, toWM, wR, fLook, putFW, List.lookup_cons, List.lookup_nil, Option.isNone, dk, putSub, gSub2, gIn2, keyD, fExt, Option.map_some, Option.map_none, Int.reduceBEq, Int.reduceBNe, and_self, decide_false, List.take_succ_cons, List.take_zero, List.drop_succ_cons, List.drop_zero, Int.natAbs_one, gate_and, fChainE, boolR_b, uAppend_ok, uInsert_ok, rangeD_len, ↓bind_bd, bd_ok, W_bd, W_ok, W_noX, drawE, fFor, fRange1, fRange2, fSl, gSl, List.length_append, List.length_map, List.length_reverse, List.length_take, List.length_drop]
    exact ⟨_, c4, rfl, .two (.inr (.inr (.inl rfl))) ⟨a0, a1⟩ ⟨b0, b1⟩ ⟨d0, d1⟩, hc4, rfl⟩
  · simp (disch := omega) only [fDef, fRet, fRetN, fSeq, fIfS, fTru, fBoo, fAndT, fOrT, fNotT, fAndV, fOrV, fNotV, fIf, fVar, fC, fCall, fCons, fNil, fBin, fUn, on2, on1, pk, pkW, toD, toW, wD, wsD, gate_true, noX_ok, viewsOf, onA, fCB, startG, finD, fIsi, noX_cond, fNext, fDrop, fSet, fSetM, fTup, fLst, fAsgT, bTup, bAll, bName, List.getElem?_cons_zero, List.getElem?_cons_succ, List.map_cons, List.map_nil, List.length_cons, List.length_nil, List.replicate, Nat.reduceAdd, Nat.reduceSub, Nat.zero_add, Nat.sub_self, List.append_nil, List.cons_append, List.nil_append, List.take_length, decide_true, gate_dec, okD, truD, List.set_cons_zero, List.set_cons_succ, cond_true, cond_false, gLen, gAdd, Dl.gSub, gNeg, gEq_int, gNe_int, gLt, gGt, gLe, gGe, cond_and_d, cond_and_d', cond_or_d, cond_or_t, cond_and_t, cond_id, isInt, isBool, isTup, isStr, isLst, gIx, fNoP, fPart, gList, gTuple, fSeqI, take_app, fComp, fYes, wipeG, atI_0, atI_1, atI_2, atI_3, Bool.and_true, Bool.true_and, Bool.and_false, Bool.false_and, Bool.or_true, Bool.true_or, Bool.or_false, Bool.false_or, Bool.not_true, Bool.not_false, lim, Nat.reduceLeDiff, Nat.reduceLT, cast_beq, Option.map_some, shaped_int, fSetSub, ixN_40, ixN_41, ixN_42, ixN_43, fUpd, get_last, set_last, if_true, if_false, not_lt_self, cutL_toI, cutL_fromI, Bool.true_xor, Bool.false_xor, gAll_map, rngOk_lit, smallI_lit, divOk_lit, Int.cast_ofNat_Int, Int.natCast_zero, Int.natCast_one, Int.reduceToNat, Int.reduceNeg, Int.reduceLE, Int.reduceLT, Int.reduceAdd, Int.reduceSub, Int.reduceMul, Int.reducePow, Nat.reduceMul, Nat.reducePow, Nat.reduceBEq, cast_beqL, cast_bneL, Nat.reduceBeqDiff, Nat.reduceBneDiff, eqv_str, eqv_int, ofString_beq, ofString_bne, String.reduceBEq, String.reduceBNe, shaped_strS, List.any_cons, List.any_nil, flatD, List.all_cons, List.all_nil, fFld, fMeth, fMake, fInit, endI, fSetFld, toWM, wR, fLook, putFW, List.lookup_cons, List.lookup_nil, Option.isNone, dk, putSub, gSub2, gIn2, keyD, fExt, Option.map_some, Option.map_none, Int.reduceBEq, Int.reduceBNe, and_self, decide_false, List.take_succ_cons, List.take_zero, List.drop_succ_cons, List.drop_zero, Int.natAbs_one, gate_and, fChainE, boolR_b, uAppend_ok, uInsert_ok, rangeD_len, ↓bind_bd, bd_ok, W_bd, W_ok, W_noX, drawE, fFor, fRange1, fRange2, fSl, gSl, List.length_append, List.length_map, List.length_reverse, List.length_take, List.length_drop, rg2, compL, gInt, gEq, Bool.false_eq_true, if_false]
    refine W_draw hc1 (by decide) (by decide) fun i c2 hc2 a0 a1 => ?_
    simp (disch := omega) only [fDef, fRet, fRetN, fSeq, fIfS, fTru, fBoo, fAndT, fOrT, fNotT, fAndV, fOrV, fNotV, fIf, fVar, fC, fCall, fCons, fNil, fBin, fUn, on2, on1, pk, pkW, toD, toW, wD, wsD, gate_true, noX_ok, viewsOf, onA, fCB, startG, finD, fIsi, noX_cond, fNext, fDrop, fSet, fSetM, fTup, fLst, fAsgT, bTup, bAll, bName, List.getElem?_cons_zero, List.getElem?_cons_succ, List.map_cons, List.map_nil, List.length_cons, List.length_nil, List.replicate, Nat.reduceAdd, Nat.reduceSub, Nat.zero_add, Nat.sub_self, List.append_nil, List.cons_append, List.nil_append, List.take_length, decide_true, gate_dec, okD, truD, List.set_cons_zero, List.set_cons_succ, cond_true, cond_false, gLen, gAdd, Dl.gSub, gNeg, gEq_int, gNe_int, gLt, gGt, gLe, gGe, cond_and_d, cond_and_d', cond_or_d, cond_or_t, cond_and_t, cond_id, isInt, isBool, isTup, isStr, isLst, gIx, fNoP, fPart, gList, gTuple, fSeqI, take_app, fComp, fYes, wipeG, atI_0, atI_1, atI_2, atI_3, Bool.and_true, Bool.true_and, Bool.and_false, Bool.false_and, Bool.or_true, Bool.true_or, Bool.or_false, Bool.false_or, Bool.not_true, Bool.not_false, lim, Nat.reduceLeDiff, Nat.reduceLT, cast_beq, Option.map_some, shaped_int, fSetSub, ixN_40, ixN_41, ixN_42, ixN_43, fUpd, get_last, set_last, if_true, if_false, not_lt_self, cutL_toI, cutL_fromI, Bool.true_xor, Bool.false_xor, gAll_map, rngOk_lit, smallI_lit, divOk_lit, Int.cast_ofNat_Int, Int.natCast_zero, Int.natCast_one, Int.reduceToNat, Int.reduceNeg, Int.reduceLE, Int.reduceLT, Int.reduceAdd, Int.reduceSub, Int.reduceMul, Int.reducePow, Nat.reduceMul, Nat.reducePow, Nat.reduceBEq, cast_beqL, cast_bneL, Nat.reduceBeqDiff, Nat.reduceBneDiff, eqv_str, eqv_int, ofString_beq, ofString_bne, String.reduceBEq, String.reduceBNe, shaped_strS, List.any_cons, List.any_nil, flatD, List.all_cons, List.all_nil, fFld, fMeth, fMake, fInit, endI, fSetFld, toWM, wR, fLook, putFW, List.lookup_cons, List.lookup_nil, Option.isNone, dk, putSub, gSub2, gIn2, keyD, fExt, Option.map_some, Option.map_none, Int.reduceBEq, Int.reduceBNe, and_self, decide_false, List.take_succ_cons, List.take_zero, List.drop_succ_cons, List.drop_zero, Int.natAbs_one, gate_and, fChainE, boolR_b, uAppend_ok, uInsert_ok, rangeD_len, ↓bind_bd, bd_ok, W_bd, W_ok, W_noX, drawE, fFor, fRange1, fRange2, fSl, gSl, List.length_append, List.length_map, List.length_reverse, List.length_take, List.length_drop, compL]
    refine W_draw hc2 (by decide) (by decide) fun j c3 hc3 b0 b1 => ?_
    simp (disch := omega) only [fDef, fRet, fRetN, fSeq, fIfS, fTru, fBoo, fAndT, fOrT, fNotT, fAndV, fOrV, fNotV, fIf, fVar, fC, fCall, fCons, fNil, fBin, fUn, on2, on1, pk, pkW, toD, toW, wD, wsD, gate_true, noX_ok, viewsOf, onA, fCB, startG, finD, fIsi, noX_cond, fNext, fDrop, fSet, fSetM, fTup, fLst, fAsgT, bTup, bAll, bName, List.getElem?_cons_zero, List.getElem?_cons_succ, List.map_cons, List.map_nil, List.length_cons, List.length_nil, List.replicate, Nat.reduceAdd, Nat.reduceSub, Nat.zero_add, Nat.sub_self, List.append_nil, List.cons_append, List.nil_append, List.take_length, decide_true, gate_dec, okD, truD, List.set_cons_zero, List.set_cons_succ, cond_true, cond_false, gLen, gAdd, Dl.gSub, gNeg, gEq_int, gNe_int, gLt, gGt, gLe, gGe, cond_and_d, cond_and_d', cond_or_d, cond_or_t, cond_and_t, cond_id, isInt, isBool, isTup, isStr, isLst, gIx, fNoP, fPart, gList, gTuple, fSeqI, take_app, fComp, fYes, wipeG, atI_0, atI_1, atI_2, atI_3, Bool.and_true, Bool.true_and, Bool.and_false, Bool.false_and, Bool.or_true, Bool.true_or, Bool.or_false, Bool.false_or, Bool.not_true, Bool.not_false, lim, Nat.reduceLeDiff, Nat.reduceLT, cast_beq, Option.map_some, shaped_int, fSetSub, ixN_40, ixN_41, ixN_42, ixN_43, fUpd, get_last, set_last, if_true, if_false, not_lt_self, cutL_toI, cutL_fromI, Bool.true_xor, Bool.false_xor, gAll_map, rngOk_lit, smallI_lit, divOk_lit, Int.cast_ofNat_Int, Int.natCast_zero, Int.natCast_one, Int.reduceToNat, Int.reduceNeg, Int.reduceLE, Int.reduceLT, Int.reduceAdd, Int.reduceSub, Int.reduceMul, Int.reducePow, Nat.reduceMul, Nat.reducePow, Nat.reduceBEq, cast_beqL, cast_bneL, Nat.reduceBeqDiff, Nat.reduceBneDiff, eqv_str, eqv_int, ofString_beq, ofString_bne, String.reduceBEq, String.reduceBNe, shaped_strS, List.any_cons, List.any_nil, flatD, List.all_cons, List.all_nil, fFld, fMeth, fMake, fInit, endI, fSetFld, toWM, wR, fLook, putFW, List.lookup_cons, List.lookup_nil, Option.isNone, dk, putSub, gSub2, gIn2, keyD, fExt, Option.map_some, Option.map_none, Int.reduceBEq, Int.reduceBNe, and_self, decide_false, List.take_succ_cons, List.take_zero, List.drop_succ_cons, List.drop_zero, Int.natAbs_one, gate_and, fChainE, boolR_b, uAppend_ok, uInsert_ok, rangeD_len, ↓bind_bd, bd_ok, W_bd, W_ok, W_noX, drawE, fFor, fRange1, fRange2, fSl, gSl, List.length_append, List.length_map, List.length_reverse, List.length_take, List.length_drop, compL]
    refine W_draw hc3 (by decide) (by decide) fun o c4 hc4 d0 d1 => ?_
    simp (disch := omega) only [fDef, fRet, fRetN, fSeq, fIfS, fTru, fBoo, fAndT, fOrT, fNotT, fAndV, fOrV, fNotV, fIf, fVar, fC, fCall, fCons, fNil, fBin, fUn, on2, on1, pk, pkW, toD, toW, wD, wsD, gate_true, noX_ok, viewsOf, onA, fCB, startG, finD, fIsi, noX_cond, fNext, fDrop, fSet, fSetM, fTup, fLst, fAsgT, bTup, bAll, bName, List.getElem?_cons_zero, List.getElem?_cons_succ, List.map_cons, List.map_nil, List.length_cons, List.length_nil, List.replicate, Nat.reduceAdd, Nat.reduceSub, Nat.zero_add, Nat.sub_self, List.append_nil, List.cons_append, List.nil_append, List.take_length, decide_true, gate_dec, okD, truD, List.set_cons_zero, List.set_cons_succ, cond_true, cond_false, gLen, gAdd, Dl.gSub, gNeg, gEq_int, gNe_int, gLt, gGt, gLe, gGe, cond_and_d, cond_and_d', cond_or_d, cond_or_t, cond_and_t, cond_id, isInt, isBool, isTup, isStr, isLst, gIx, fNoP, fPart, gList, gTuple, fSeqI, take_app, fComp, fYes, wipeG, atI_0, atI_1, atI_2, atI_3, Bool.and_true, Bool.true_and, Bool.and_false, Bool.false_and, Bool.or_true, Bool.true_or, Bool.or_false, Bool.false_or, Bool.not_true, Bool.not_false, lim, Nat.reduceLeDiff, Nat.reduceLT, cast_beq, Option.map_some, shaped_int, fSetSub, ixN_40, ixN_41, ixN_42, ixN_43, fUpd, get_last, set_last, if_true, if_false, not_lt_self, cutL_toI, cutL_fromI, Bool.true_xor, Bool.false_xor, gAll_map, rngOk_lit, smallI_lit, divOk_lit, Int.cast_ofNat_Int, Int.natCast_zero, Int.natCast_one, Int.reduceToNat, Int.reduceNeg, Int.reduceLE, Int.reduceLT, Int.reduceAdd, Int.reduceSub, Int.reduceMul, Int.reducePow, Nat.reduceMul, Nat.reducePow, Nat.reduceBEq, cast_beqL, cast_bneL, Nat.reduceBeqDiff, Nat.reduceBneDiff, eqv_str, eqv_int, ofString_beq, ofString_bne, String.reduceBEq, String.reduceBNe, shaped_strS, List.any_cons, List.any_nil, flatD, List.all_cons, List.all_nil, fFld, fMeth, fMake, fInit, endI, fSetFld, toWM, wR, fLook, putFW, List.lookup_cons, List.lookup_nil, Option.isNone, dk, putSub, gSub2, gIn2, keyD, fExt, Option.map_some, Option.map_none, Int.reduceBEq, Int.reduceBNe, and_self, decide_false, List.take_succ_cons, List.take_zero, List.drop_succ_cons, List.drop_zero, Int.natAbs_one, gate_and, fChainE, boolR_b, uAppend_ok, uInsert_ok, rangeD_len, ↓bind_bd, bd_ok, W_bd, W_ok, W_noX, drawE, fFor, fRange1, fRange2, fSl, gSl, List.length_append, List.length_map, List.length_reverse, List.length_take, List.length_drop]
    exact ⟨_, c4, rfl, .two (.inr (.inr (.inr rfl))) ⟨a0, a1⟩ ⟨b0, b1⟩ ⟨d0, d1⟩, hc4, rfl⟩
def e1 : FS := (fIfS (fNotT (fTru (fCall 2 (d__law_same 4) (fCons (fCB gTuple (fCons (fCall 1 d_cell_equations (fCons (fVar 3) (fNil))) (fNil))) (fCons (fTup (fNil)) (fNil)))))) (fRet (fC (.bool false))) (fNext))
def e2 : FS := (fIfS (fNotT (fTru (fCall 2 (d__law_same 4) (fCons (fCB gTuple (fCons (fCall 1 d_cell_wants (fCons (fVar 3) (fNil))) (fNil))) (fCons (fCB gTuple (fCons (fCall 1 d__law_wants (fCons (fVar 3) (fNil))) (fNil))) (fNil)))))) (fRet (fC (.bool false))) (fNext))
theorem rest_e : rest = fSeq e1 e2 := rfl
theorem startE (ns : List Int) : d__law_start [.d (.list (ns.map PyData.int))] [] = .ok (.new [.list (ns.map PyData.int), .int 0, .int 0, .int 0]) [] := by
  unfold d__law_start
  simp only [fDef, fRet, fRetN, fSeq, fIfS, fTru, fBoo, fAndT, fOrT, fNotT, fAndV, fOrV, fNotV, fIf, fVar, fC, fCall, fCons, fNil, fBin, fUn, on2, on1, pk, pkW, toD, toW, wD, wsD, gate_true, noX_ok, viewsOf, onA, fCB, startG, finD, fIsi, noX_cond, fNext, fDrop, fSet, fSetM, fTup, fLst, fAsgT, bTup, bAll, bName, List.getElem?_cons_zero, List.getElem?_cons_succ, List.map_cons, List.map_nil, List.length_cons, List.length_nil, List.replicate, Nat.reduceAdd, Nat.reduceSub, Nat.zero_add, Nat.sub_self, List.append_nil, List.cons_append, List.nil_append, List.take_length, decide_true, gate_dec, okD, truD, List.set_cons_zero, List.set_cons_succ, cond_true, cond_false, gLen, gAdd, Dl.gSub, gNeg, gEq_int, gNe_int, gLt, gGt, gLe, gGe, cond_and_d, cond_and_d', cond_or_d, cond_or_t, cond_and_t, cond_id, isInt, isBool, isTup, isStr, isLst, gIx, fNoP, fPart, fChain, gList, gTuple, fSeqI, take_app, fComp, fYes, wipeG, atI_0, atI_1, atI_2, atI_3, Bool.and_true, Bool.true_and, Bool.and_false, Bool.false_and, Bool.or_true, Bool.true_or, Bool.or_false, Bool.false_or, Bool.not_true, Bool.not_false, lim, Nat.reduceLeDiff, Nat.reduceLT, cast_beq, Option.map_some, shaped_int, fSetSub, ixN_40, ixN_41, ixN_42, ixN_43, fUpd, uAppend, get_last, set_last, if_true, if_false, not_lt_self, cutL_toI, cutL_fromI, Bool.true_xor, Bool.false_xor, gAll_map, rngOk_lit, smallI_lit, divOk_lit, Int.cast_ofNat_Int, Int.natCast_zero, Int.natCast_one, Int.reduceToNat, Int.reduceNeg, Int.reduceLE, Int.reduceLT, Int.reduceAdd, Int.reduceSub, Int.reduceMul, Int.reducePow, Nat.reduceMul, Nat.reducePow, Nat.reduceBEq, cast_beqL, cast_bneL, Nat.reduceBeqDiff, Nat.reduceBneDiff, eqv_str, eqv_int, ofString_beq, ofString_bne, String.reduceBEq, String.reduceBNe, shaped_strS, List.any_cons, List.any_nil, flatD, List.all_cons, List.all_nil, fFld, fMeth, fMake, fInit, endI, fSetFld, toWM, wR, fLook, putFW, List.lookup_cons, List.lookup_nil, Option.isNone, dk, putSub, gSub2, gIn2, keyD, fExt, Option.map_some, Option.map_none, Int.reduceBEq, Int.reduceBNe, and_self, decide_false, List.take_succ_cons, List.take_zero, List.drop_succ_cons, List.drop_zero, Int.natAbs_one, ↓bind_bd, bd_ok, bd_cond]
theorem W_unseq {f g : FS} {sg : Sg} {S : Sto} {p : Fl → Sto → Prop} (h : W (fSeq f g sg S) p) : W (f sg S) fun fl S1 => W (match fl with
    | .nx g1 => g g1 S1
    | x => .ok x S1) p := by
  unfold fSeq at h
  cases e : f sg S with
  | ok fl S1 =>
    rw [e] at h
    cases fl <;> exact h
  | exc x S1 => rw [e] at h; exact h
  | stuck => rw [e] at h; exact h
theorem law_W (ns : List Int) : W (d_law [.d (.list (ns.map PyData.int))] []) (fun r S => r = .d (.bool true)) := by
  unfold d_law
  simp (disch := omega) only [fDef, fRet, fRetN, fSeq, fIfS, fTru, fBoo, fAndT, fOrT, fNotT, fAndV, fOrV, fNotV, fIf, fVar, fC, fCall, fCons, fNil, fBin, fUn, on2, on1, pk, pkW, toD, toW, wD, wsD, gate_true, noX_ok, viewsOf, onA, fCB, startG, finD, fIsi, noX_cond, fNext, fDrop, fSet, fSetM, fTup, fLst, fAsgT, bTup, bAll, bName, List.getElem?_cons_zero, List.getElem?_cons_succ, List.map_cons, List.map_nil, List.length_cons, List.length_nil, List.replicate, Nat.reduceAdd, Nat.reduceSub, Nat.zero_add, Nat.sub_self, List.append_nil, List.cons_append, List.nil_append, List.take_length, decide_true, gate_dec, okD, truD, List.set_cons_zero, List.set_cons_succ, cond_true, cond_false, gLen, gAdd, Dl.gSub, gNeg, gEq_int, gNe_int, gLt, gGt, gLe, gGe, cond_and_d, cond_and_d', cond_or_d, cond_or_t, cond_and_t, cond_id, isInt, isBool, isTup, isStr, isLst, gIx, fNoP, fPart, gList, gTuple, fSeqI, take_app, fComp, fYes, wipeG, atI_0, atI_1, atI_2, atI_3, Bool.and_true, Bool.true_and, Bool.and_false, Bool.false_and, Bool.or_true, Bool.true_or, Bool.or_false, Bool.false_or, Bool.not_true, Bool.not_false, lim, Nat.reduceLeDiff, Nat.reduceLT, cast_beq, Option.map_some, shaped_int, fSetSub, ixN_40, ixN_41, ixN_42, ixN_43, fUpd, get_last, set_last, if_true, if_false, not_lt_self, cutL_toI, cutL_fromI, Bool.true_xor, Bool.false_xor, gAll_map, rngOk_lit, smallI_lit, divOk_lit, Int.cast_ofNat_Int, Int.natCast_zero, Int.natCast_one, Int.reduceToNat, Int.reduceNeg, Int.reduceLE, Int.reduceLT, Int.reduceAdd, Int.reduceSub, Int.reduceMul, Int.reducePow, Nat.reduceMul, Nat.reducePow, Nat.reduceBEq, cast_beqL, cast_bneL, Nat.reduceBeqDiff, Nat.reduceBneDiff, eqv_str, eqv_int, ofString_beq, ofString_bne, String.reduceBEq, String.reduceBNe, shaped_strS, List.any_cons, List.any_nil, flatD, List.all_cons, List.all_nil, fFld, fMeth, fMake, fInit, endI, fSetFld, toWM, wR, fLook, putFW, List.lookup_cons, List.lookup_nil, Option.isNone, dk, putSub, gSub2, gIn2, keyD, fExt, Option.map_some, Option.map_none, Int.reduceBEq, Int.reduceBNe, and_self, decide_false, List.take_succ_cons, List.take_zero, List.drop_succ_cons, List.drop_zero, Int.natAbs_one, gate_and, fChainE, boolR_b, uAppend_ok, uInsert_ok, rangeD_len, ↓bind_bd, bd_ok, W_bd, W_ok, W_noX, drawE, fFor, fRange1, fRange2, fSl, gSl, List.length_append, List.length_map, List.length_reverse, List.length_take, List.length_drop, startE]
  refine W.forR (fun n sg S => ∃ c x0 x2 x3 x4, StOk c ∧ sg = [x0, some (.ref 0), x2, x3, x4] ∧ S = [c]) ?_ ?_ ?_
  · exact ⟨_, _, _, _, _, ⟨ns, 0, 0, 0, rfl⟩, rfl, rfl⟩
  · rintro n sg S hn ⟨c, x0, x2, x3, x4, hc, rfl, rfl⟩
    generalize (0 + (n : Int)) = nn
    simp (disch := omega) only [fDef, fRet, fRetN, fSeq, fIfS, fTru, fBoo, fAndT, fOrT, fNotT, fAndV, fOrV, fNotV, fIf, fVar, fC, fCall, fCons, fNil, fBin, fUn, on2, on1, pk, pkW, toD, toW, wD, wsD, gate_true, noX_ok, viewsOf, onA, fCB, startG, finD, fIsi, noX_cond, fNext, fDrop, fSet, fSetM, fTup, fLst, fAsgT, bTup, bAll, bName, List.getElem?_cons_zero, List.getElem?_cons_succ, List.map_cons, List.map_nil, List.length_cons, List.length_nil, List.replicate, Nat.reduceAdd, Nat.reduceSub, Nat.zero_add, Nat.sub_self, List.append_nil, List.cons_append, List.nil_append, List.take_length, decide_true, gate_dec, okD, truD, List.set_cons_zero, List.set_cons_succ, cond_true, cond_false, gLen, gAdd, Dl.gSub, gNeg, gEq_int, gNe_int, gLt, gGt, gLe, gGe, cond_and_d, cond_and_d', cond_or_d, cond_or_t, cond_and_t, cond_id, isInt, isBool, isTup, isStr, isLst, gIx, fNoP, fPart, gList, gTuple, fSeqI, take_app, fComp, fYes, wipeG, atI_0, atI_1, atI_2, atI_3, Bool.and_true, Bool.true_and, Bool.and_false, Bool.false_and, Bool.or_true, Bool.true_or, Bool.or_false, Bool.false_or, Bool.not_true, Bool.not_false, lim, Nat.reduceLeDiff, Nat.reduceLT, cast_beq, Option.map_some, shaped_int, fSetSub, ixN_40, ixN_41, ixN_42, ixN_43, fUpd, get_last, set_last, if_true, if_false, not_lt_self, cutL_toI, cutL_fromI, Bool.true_xor, Bool.false_xor, gAll_map, rngOk_lit, smallI_lit, divOk_lit, Int.cast_ofNat_Int, Int.natCast_zero, Int.natCast_one, Int.reduceToNat, Int.reduceNeg, Int.reduceLE, Int.reduceLT, Int.reduceAdd, Int.reduceSub, Int.reduceMul, Int.reducePow, Nat.reduceMul, Nat.reducePow, Nat.reduceBEq, cast_beqL, cast_bneL, Nat.reduceBeqDiff, Nat.reduceBneDiff, eqv_str, eqv_int, ofString_beq, ofString_bne, String.reduceBEq, String.reduceBNe, shaped_strS, List.any_cons, List.any_nil, flatD, List.all_cons, List.all_nil, fFld, fMeth, fMake, fInit, endI, fSetFld, toWM, wR, fLook, putFW, List.lookup_cons, List.lookup_nil, Option.isNone, dk, putSub, gSub2, gIn2, keyD, fExt, Option.map_some, Option.map_none, Int.reduceBEq, Int.reduceBNe, and_self, decide_false, List.take_succ_cons, List.take_zero, List.drop_succ_cons, List.drop_zero, Int.natAbs_one, gate_and, fChainE, boolR_b, uAppend_ok, uInsert_ok, rangeD_len, ↓bind_bd, bd_ok, W_bd, W_ok, W_noX, drawE, fFor, fRange1, fRange2, fSl, gSl, List.length_append, List.length_map, List.length_reverse, List.length_take, List.length_drop]
    refine W_draw hc (by decide) (by decide) fun r c1 hc1 b0 b1 => ?_
    simp (disch := omega) only [fDef, fRet, fRetN, fSeq, fIfS, fTru, fBoo, fAndT, fOrT, fNotT, fAndV, fOrV, fNotV, fIf, fVar, fC, fCall, fCons, fNil, fBin, fUn, on2, on1, pk, pkW, toD, toW, wD, wsD, gate_true, noX_ok, viewsOf, onA, fCB, startG, finD, fIsi, noX_cond, fNext, fDrop, fSet, fSetM, fTup, fLst, fAsgT, bTup, bAll, bName, List.getElem?_cons_zero, List.getElem?_cons_succ, List.map_cons, List.map_nil, List.length_cons, List.length_nil, List.replicate, Nat.reduceAdd, Nat.reduceSub, Nat.zero_add, Nat.sub_self, List.append_nil, List.cons_append, List.nil_append, List.take_length, decide_true, gate_dec, okD, truD, List.set_cons_zero, List.set_cons_succ, cond_true, cond_false, gLen, gAdd, Dl.gSub, gNeg, gEq_int, gNe_int, gLt, gGt, gLe, gGe, cond_and_d, cond_and_d', cond_or_d, cond_or_t, cond_and_t, cond_id, isInt, isBool, isTup, isStr, isLst, gIx, fNoP, fPart, gList, gTuple, fSeqI, take_app, fComp, fYes, wipeG, atI_0, atI_1, atI_2, atI_3, Bool.and_true, Bool.true_and, Bool.and_false, Bool.false_and, Bool.or_true, Bool.true_or, Bool.or_false, Bool.false_or, Bool.not_true, Bool.not_false, lim, Nat.reduceLeDiff, Nat.reduceLT, cast_beq, Option.map_some, shaped_int, fSetSub, ixN_40, ixN_41, ixN_42, ixN_43, fUpd, get_last, set_last, if_true, if_false, not_lt_self, cutL_toI, cutL_fromI, Bool.true_xor, Bool.false_xor, gAll_map, rngOk_lit, smallI_lit, divOk_lit, Int.cast_ofNat_Int, Int.natCast_zero, Int.natCast_one, Int.reduceToNat, Int.reduceNeg, Int.reduceLE, Int.reduceLT, Int.reduceAdd, Int.reduceSub, Int.reduceMul, Int.reducePow, Nat.reduceMul, Nat.reducePow, Nat.reduceBEq, cast_beqL, cast_bneL, Nat.reduceBeqDiff, Nat.reduceBneDiff, eqv_str, eqv_int, ofString_beq, ofString_bne, String.reduceBEq, String.reduceBNe, shaped_strS, List.any_cons, List.any_nil, flatD, List.all_cons, List.all_nil, fFld, fMeth, fMake, fInit, endI, fSetFld, toWM, wR, fLook, putFW, List.lookup_cons, List.lookup_nil, Option.isNone, dk, putSub, gSub2, gIn2, keyD, fExt, Option.map_some, Option.map_none, Int.reduceBEq, Int.reduceBNe, and_self, decide_false, List.take_succ_cons, List.take_zero, List.drop_succ_cons, List.drop_zero, Int.natAbs_one, gate_and, fChainE, boolR_b, uAppend_ok, uInsert_ok, rangeD_len, ↓bind_bd, bd_ok, W_bd, W_ok, W_noX, drawE, fFor, fRange1, fRange2, fSl, gSl, List.length_append, List.length_map, List.length_reverse, List.length_take, List.length_drop]
    refine W.beq (fun hr => ?_) (fun hr => ?_)
    · simp (disch := omega) only [fDef, fRet, fRetN, fSeq, fIfS, fTru, fBoo, fAndT, fOrT, fNotT, fAndV, fOrV, fNotV, fIf, fVar, fC, fCall, fCons, fNil, fBin, fUn, on2, on1, pk, pkW, toD, toW, wD, wsD, gate_true, noX_ok, viewsOf, onA, fCB, startG, finD, fIsi, noX_cond, fNext, fDrop, fSet, fSetM, fTup, fLst, fAsgT, bTup, bAll, bName, List.getElem?_cons_zero, List.getElem?_cons_succ, List.map_cons, List.map_nil, List.length_cons, List.length_nil, List.replicate, Nat.reduceAdd, Nat.reduceSub, Nat.zero_add, Nat.sub_self, List.append_nil, List.cons_append, List.nil_append, List.take_length, decide_true, gate_dec, okD, truD, List.set_cons_zero, List.set_cons_succ, cond_true, cond_false, gLen, gAdd, Dl.gSub, gNeg, gEq_int, gNe_int, gLt, gGt, gLe, gGe, cond_and_d, cond_and_d', cond_or_d, cond_or_t, cond_and_t, cond_id, isInt, isBool, isTup, isStr, isLst, gIx, fNoP, fPart, gList, gTuple, fSeqI, take_app, fComp, fYes, wipeG, atI_0, atI_1, atI_2, atI_3, Bool.and_true, Bool.true_and, Bool.and_false, Bool.false_and, Bool.or_true, Bool.true_or, Bool.or_false, Bool.false_or, Bool.not_true, Bool.not_false, lim, Nat.reduceLeDiff, Nat.reduceLT, cast_beq, Option.map_some, shaped_int, fSetSub, ixN_40, ixN_41, ixN_42, ixN_43, fUpd, get_last, set_last, if_true, if_false, not_lt_self, cutL_toI, cutL_fromI, Bool.true_xor, Bool.false_xor, gAll_map, rngOk_lit, smallI_lit, divOk_lit, Int.cast_ofNat_Int, Int.natCast_zero, Int.natCast_one, Int.reduceToNat, Int.reduceNeg, Int.reduceLE, Int.reduceLT, Int.reduceAdd, Int.reduceSub, Int.reduceMul, Int.reducePow, Nat.reduceMul, Nat.reducePow, Nat.reduceBEq, cast_beqL, cast_bneL, Nat.reduceBeqDiff, Nat.reduceBneDiff, eqv_str, eqv_int, ofString_beq, ofString_bne, String.reduceBEq, String.reduceBNe, shaped_strS, List.any_cons, List.any_nil, flatD, List.all_cons, List.all_nil, fFld, fMeth, fMake, fInit, endI, fSetFld, toWM, wR, fLook, putFW, List.lookup_cons, List.lookup_nil, Option.isNone, dk, putSub, gSub2, gIn2, keyD, fExt, Option.map_some, Option.map_none, Int.reduceBEq, Int.reduceBNe, and_self, decide_false, List.take_succ_cons, List.take_zero, List.drop_succ_cons, List.drop_zero, Int.natAbs_one, gate_and, fChainE, boolR_b, uAppend_ok, uInsert_ok, rangeD_len, ↓bind_bd, bd_ok, W_bd, W_ok, W_noX, drawE, fFor, fRange1, fRange2, fSl, gSl, List.length_append, List.length_map, List.length_reverse, List.length_take, List.length_drop]
      refine (slice_W hc1).mono ?_
      rintro _ _ ⟨c2, k, d, e, a, b, c', w0, w1, w2, w3, w4, hc2, rfl, h, rfl⟩
      simp (disch := omega) only [fDef, fRet, fRetN, fSeq, fIfS, fTru, fBoo, fAndT, fOrT, fNotT, fAndV, fOrV, fNotV, fIf, fVar, fC, fCall, fCons, fNil, fBin, fUn, on2, on1, pk, pkW, toD, toW, wD, wsD, gate_true, noX_ok, viewsOf, onA, fCB, startG, finD, fIsi, noX_cond, fNext, fDrop, fSet, fSetM, fTup, fLst, fAsgT, bTup, bAll, bName, List.getElem?_cons_zero, List.getElem?_cons_succ, List.map_cons, List.map_nil, List.length_cons, List.length_nil, List.replicate, Nat.reduceAdd, Nat.reduceSub, Nat.zero_add, Nat.sub_self, List.append_nil, List.cons_append, List.nil_append, List.take_length, decide_true, gate_dec, okD, truD, List.set_cons_zero, List.set_cons_succ, cond_true, cond_false, gLen, gAdd, Dl.gSub, gNeg, gEq_int, gNe_int, gLt, gGt, gLe, gGe, cond_and_d, cond_and_d', cond_or_d, cond_or_t, cond_and_t, cond_id, isInt, isBool, isTup, isStr, isLst, gIx, fNoP, fPart, gList, gTuple, fSeqI, take_app, fComp, fYes, wipeG, atI_0, atI_1, atI_2, atI_3, Bool.and_true, Bool.true_and, Bool.and_false, Bool.false_and, Bool.or_true, Bool.true_or, Bool.or_false, Bool.false_or, Bool.not_true, Bool.not_false, lim, Nat.reduceLeDiff, Nat.reduceLT, cast_beq, Option.map_some, shaped_int, fSetSub, ixN_40, ixN_41, ixN_42, ixN_43, fUpd, get_last, set_last, if_true, if_false, not_lt_self, cutL_toI, cutL_fromI, Bool.true_xor, Bool.false_xor, gAll_map, rngOk_lit, smallI_lit, divOk_lit, Int.cast_ofNat_Int, Int.natCast_zero, Int.natCast_one, Int.reduceToNat, Int.reduceNeg, Int.reduceLE, Int.reduceLT, Int.reduceAdd, Int.reduceSub, Int.reduceMul, Int.reducePow, Nat.reduceMul, Nat.reducePow, Nat.reduceBEq, cast_beqL, cast_bneL, Nat.reduceBeqDiff, Nat.reduceBneDiff, eqv_str, eqv_int, ofString_beq, ofString_bne, String.reduceBEq, String.reduceBNe, shaped_strS, List.any_cons, List.any_nil, flatD, List.all_cons, List.all_nil, fFld, fMeth, fMake, fInit, endI, fSetFld, toWM, wR, fLook, putFW, List.lookup_cons, List.lookup_nil, Option.isNone, dk, putSub, gSub2, gIn2, keyD, fExt, Option.map_some, Option.map_none, Int.reduceBEq, Int.reduceBNe, and_self, decide_false, List.take_succ_cons, List.take_zero, List.drop_succ_cons, List.drop_zero, Int.natAbs_one, gate_and, fChainE, boolR_b, uAppend_ok, uInsert_ok, rangeD_len, ↓bind_bd, bd_ok, W_bd, W_ok, W_noX, drawE, fFor, fRange1, fRange2, fSl, gSl, List.length_append, List.length_map, List.length_reverse, List.length_take, List.length_drop]
      refine (fits_W h hc2).mono ?_
      rintro _ _ ⟨c3, hc3, rfl, rfl⟩
      have z := nz h
      have g1 := wants_ev (k := k) h c3 z
      have g2 := law_wants_ev (k := k) h c3 z
      have g3 := same_ev 4 3 _ [c3] (wants_pl (a := a) (b := b) (c := c') (d := d) (e := e) (k := k)) (by omega)
      simp (disch := omega) only [fDef, fRet, fRetN, fSeq, fIfS, fTru, fBoo, fAndT, fOrT, fNotT, fAndV, fOrV, fNotV, fIf, fVar, fC, fCall, fCons, fNil, fBin, fUn, on2, on1, pk, pkW, toD, toW, wD, wsD, gate_true, noX_ok, viewsOf, onA, fCB, startG, finD, fIsi, noX_cond, fNext, fDrop, fSet, fSetM, fTup, fLst, fAsgT, bTup, bAll, bName, List.getElem?_cons_zero, List.getElem?_cons_succ, List.map_cons, List.map_nil, List.length_cons, List.length_nil, List.replicate, Nat.reduceAdd, Nat.reduceSub, Nat.zero_add, Nat.sub_self, List.append_nil, List.cons_append, List.nil_append, List.take_length, decide_true, gate_dec, okD, truD, List.set_cons_zero, List.set_cons_succ, cond_true, cond_false, gLen, gAdd, Dl.gSub, gNeg, gEq_int, gNe_int, gLt, gGt, gLe, gGe, cond_and_d, cond_and_d', cond_or_d, cond_or_t, cond_and_t, cond_id, isInt, isBool, isTup, isStr, isLst, gIx, fNoP, fPart, gList, gTuple, fSeqI, take_app, fComp, fYes, wipeG, atI_0, atI_1, atI_2, atI_3, Bool.and_true, Bool.true_and, Bool.and_false, Bool.false_and, Bool.or_true, Bool.true_or, Bool.or_false, Bool.false_or, Bool.not_true, Bool.not_false, lim, Nat.reduceLeDiff, Nat.reduceLT, cast_beq, Option.map_some, shaped_int, fSetSub, ixN_40, ixN_41, ixN_42, ixN_43, fUpd, get_last, set_last, if_true, if_false, not_lt_self, cutL_toI, cutL_fromI, Bool.true_xor, Bool.false_xor, gAll_map, rngOk_lit, smallI_lit, divOk_lit, Int.cast_ofNat_Int, Int.natCast_zero, Int.natCast_one, Int.reduceToNat, Int.reduceNeg, Int.reduceLE, Int.reduceLT, Int.reduceAdd, Int.reduceSub, Int.reduceMul, Int.reducePow, Nat.reduceMul, Nat.reducePow, Nat.reduceBEq, cast_beqL, cast_bneL, Nat.reduceBeqDiff, Nat.reduceBneDiff, eqv_str, eqv_int, ofString_beq, ofString_bne, String.reduceBEq, String.reduceBNe, shaped_strS, List.any_cons, List.any_nil, flatD, List.all_cons, List.all_nil, fFld, fMeth, fMake, fInit, endI, fSetFld, toWM, wR, fLook, putFW, List.lookup_cons, List.lookup_nil, Option.isNone, dk, putSub, gSub2, gIn2, keyD, fExt, Option.map_some, Option.map_none, Int.reduceBEq, Int.reduceBNe, and_self, decide_false, List.take_succ_cons, List.take_zero, List.drop_succ_cons, List.drop_zero, Int.natAbs_one, gate_and, fChainE, boolR_b, uAppend_ok, uInsert_ok, rangeD_len, ↓bind_bd, bd_ok, W_bd, W_ok, W_noX, drawE, fFor, fRange1, fRange2, fSl, gSl, List.length_append, List.length_map, List.length_reverse, List.length_take, List.length_drop, g1, g2, g3]
      exact ⟨c3, _, _, _, _, hc3, rfl, rfl⟩
    · refine W.mono (p := fun fl S' => W (match fl with
        | .nx g => e2 g S'
        | x => .ok x S') fun fl S' => ∃ c' z0 z2 z3 z4, StOk c' ∧ fl = .nx [z0, some (.ref 0), z2, z3, z4] ∧ S' = [c']) ?_ ?_
      · simp (disch := omega) only [fDef, fRet, fRetN, fSeq, fIfS, fTru, fBoo, fAndT, fOrT, fNotT, fAndV, fOrV, fNotV, fIf, fVar, fC, fCall, fCons, fNil, fBin, fUn, on2, on1, pk, pkW, toD, toW, wD, wsD, gate_true, noX_ok, viewsOf, onA, fCB, startG, finD, fIsi, noX_cond, fNext, fDrop, fSet, fSetM, fTup, fLst, fAsgT, bTup, bAll, bName, List.getElem?_cons_zero, List.getElem?_cons_succ, List.map_cons, List.map_nil, List.length_cons, List.length_nil, List.replicate, Nat.reduceAdd, Nat.reduceSub, Nat.zero_add, Nat.sub_self, List.append_nil, List.cons_append, List.nil_append, List.take_length, decide_true, gate_dec, okD, truD, List.set_cons_zero, List.set_cons_succ, cond_true, cond_false, gLen, gAdd, Dl.gSub, gNeg, gEq_int, gNe_int, gLt, gGt, gLe, gGe, cond_and_d, cond_and_d', cond_or_d, cond_or_t, cond_and_t, cond_id, isInt, isBool, isTup, isStr, isLst, gIx, fNoP, fPart, gList, gTuple, fSeqI, take_app, fComp, fYes, wipeG, atI_0, atI_1, atI_2, atI_3, Bool.and_true, Bool.true_and, Bool.and_false, Bool.false_and, Bool.or_true, Bool.true_or, Bool.or_false, Bool.false_or, Bool.not_true, Bool.not_false, lim, Nat.reduceLeDiff, Nat.reduceLT, cast_beq, Option.map_some, shaped_int, fSetSub, ixN_40, ixN_41, ixN_42, ixN_43, fUpd, get_last, set_last, if_true, if_false, not_lt_self, cutL_toI, cutL_fromI, Bool.true_xor, Bool.false_xor, gAll_map, rngOk_lit, smallI_lit, divOk_lit, Int.cast_ofNat_Int, Int.natCast_zero, Int.natCast_one, Int.reduceToNat, Int.reduceNeg, Int.reduceLE, Int.reduceLT, Int.reduceAdd, Int.reduceSub, Int.reduceMul, Int.reducePow, Nat.reduceMul, Nat.reducePow, Nat.reduceBEq, cast_beqL, cast_bneL, Nat.reduceBeqDiff, Nat.reduceBneDiff, eqv_str, eqv_int, ofString_beq, ofString_bne, String.reduceBEq, String.reduceBNe, shaped_strS, List.any_cons, List.any_nil, flatD, List.all_cons, List.all_nil, fFld, fMeth, fMake, fInit, endI, fSetFld, toWM, wR, fLook, putFW, List.lookup_cons, List.lookup_nil, Option.isNone, dk, putSub, gSub2, gIn2, keyD, fExt, Option.map_some, Option.map_none, Int.reduceBEq, Int.reduceBNe, and_self, decide_false, List.take_succ_cons, List.take_zero, List.drop_succ_cons, List.drop_zero, Int.natAbs_one, gate_and, fChainE, boolR_b, uAppend_ok, uInsert_ok, rangeD_len, ↓bind_bd, bd_ok, W_bd, W_ok, W_noX, drawE, fFor, fRange1, fRange2, fSl, gSl, List.length_append, List.length_map, List.length_reverse, List.length_take, List.length_drop]
        refine (other_W hc1).mono ?_
        rintro _ _ ⟨x, c2, rfl, ho, hc2, rfl⟩
        obtain ⟨y0, y2, y3, y4, e⟩ := rest_ev ho c2 x0 (some (.d (.int nn))) x4
        rw [rest_e] at e
        show W (e1 [x0, some (.ref 0), some (.d (.int nn)), some (.d x), x4] [c2]) _
        exact W_unseq (W.of e ⟨c2, _, _, _, _, hc2, rfl, rfl⟩)
      · intro fl S' q
        cases fl with
        | nx g =>
          refine W.mono q ?_
          rintro _ _ ⟨c', z0, z2, z3, z4, hc', rfl, rfl⟩
          exact ⟨c', z0, z2, z3, z4, hc', rfl, rfl⟩
        | _ => obtain ⟨c', z0, z2, z3, z4, hc', q1, q2⟩ := q; cases q1
  · rintro sg S ⟨c, x0, x2, x3, x4, hc, rfl, rfl⟩
    simp (disch := omega) only [fDef, fRet, fRetN, fSeq, fIfS, fTru, fBoo, fAndT, fOrT, fNotT, fAndV, fOrV, fNotV, fIf, fVar, fC, fCall, fCons, fNil, fBin, fUn, on2, on1, pk, pkW, toD, toW, wD, wsD, gate_true, noX_ok, viewsOf, onA, fCB, startG, finD, fIsi, noX_cond, fNext, fDrop, fSet, fSetM, fTup, fLst, fAsgT, bTup, bAll, bName, List.getElem?_cons_zero, List.getElem?_cons_succ, List.map_cons, List.map_nil, List.length_cons, List.length_nil, List.replicate, Nat.reduceAdd, Nat.reduceSub, Nat.zero_add, Nat.sub_self, List.append_nil, List.cons_append, List.nil_append, List.take_length, decide_true, gate_dec, okD, truD, List.set_cons_zero, List.set_cons_succ, cond_true, cond_false, gLen, gAdd, Dl.gSub, gNeg, gEq_int, gNe_int, gLt, gGt, gLe, gGe, cond_and_d, cond_and_d', cond_or_d, cond_or_t, cond_and_t, cond_id, isInt, isBool, isTup, isStr, isLst, gIx, fNoP, fPart, gList, gTuple, fSeqI, take_app, fComp, fYes, wipeG, atI_0, atI_1, atI_2, atI_3, Bool.and_true, Bool.true_and, Bool.and_false, Bool.false_and, Bool.or_true, Bool.true_or, Bool.or_false, Bool.false_or, Bool.not_true, Bool.not_false, lim, Nat.reduceLeDiff, Nat.reduceLT, cast_beq, Option.map_some, shaped_int, fSetSub, ixN_40, ixN_41, ixN_42, ixN_43, fUpd, get_last, set_last, if_true, if_false, not_lt_self, cutL_toI, cutL_fromI, Bool.true_xor, Bool.false_xor, gAll_map, rngOk_lit, smallI_lit, divOk_lit, Int.cast_ofNat_Int, Int.natCast_zero, Int.natCast_one, Int.reduceToNat, Int.reduceNeg, Int.reduceLE, Int.reduceLT, Int.reduceAdd, Int.reduceSub, Int.reduceMul, Int.reducePow, Nat.reduceMul, Nat.reducePow, Nat.reduceBEq, cast_beqL, cast_bneL, Nat.reduceBeqDiff, Nat.reduceBneDiff, eqv_str, eqv_int, ofString_beq, ofString_bne, String.reduceBEq, String.reduceBNe, shaped_strS, List.any_cons, List.any_nil, flatD, List.all_cons, List.all_nil, fFld, fMeth, fMake, fInit, endI, fSetFld, toWM, wR, fLook, putFW, List.lookup_cons, List.lookup_nil, Option.isNone, dk, putSub, gSub2, gIn2, keyD, fExt, Option.map_some, Option.map_none, Int.reduceBEq, Int.reduceBNe, and_self, decide_false, List.take_succ_cons, List.take_zero, List.drop_succ_cons, List.drop_zero, Int.natAbs_one, gate_and, fChainE, boolR_b, uAppend_ok, uInsert_ok, rangeD_len, ↓bind_bd, bd_ok, W_bd, W_ok, W_noX, drawE, fFor, fRange1, fRange2, fSl, gSl, List.length_append, List.length_map, List.length_reverse, List.length_take, List.length_drop]
theorem law_true (ns : List Int) (_ : ns.length ≤ 63) : ∃ S', d_law [.d (.list (ns.map PyData.int))] [] = .ok (.d (.bool true)) S' := by
  obtain ⟨r, S', e, rfl⟩ := (law_W ns).eq
  exact ⟨S', e⟩
end K25
namespace K25
open PySem L2 Dl
def top (i : Nat) : Stmt := PySem.Challenge.pw_wirejudge_k25_tables_of_cells.main.body.getD i (.Pass ⟨0, 0, 0, 0⟩)
abbrev s_form : Stmt := top 1
theorem sc_form : FnScope ["constant", "pairs", "sums", "name", "coefficient"] ["constant", "pairs"] (defScope s_form) := ⟨rfl, rfl, rfl, by decide +kernel, rfl, by decide +kernel, by decide +kernel⟩
abbrev s_is_integer : Stmt := top 2
theorem sc_is_integer : FnScope ["datum"] ["datum"] (defScope s_is_integer) := ⟨rfl, rfl, rfl, by decide +kernel, rfl, by decide +kernel, by decide +kernel⟩
abbrev s_is_count : Stmt := top 3
theorem sc_is_count : FnScope ["datum"] ["datum"] (defScope s_is_count) := ⟨rfl, rfl, rfl, by decide +kernel, rfl, by decide +kernel, by decide +kernel⟩
abbrev s_is_tuple : Stmt := top 4
theorem sc_is_tuple : FnScope ["datum", "many"] ["datum", "many"] (defScope s_is_tuple) := ⟨rfl, rfl, rfl, by decide +kernel, rfl, by decide +kernel, by decide +kernel⟩
abbrev s_is_wire : Stmt := top 6
theorem sc_is_wire : FnScope ["datum", "wires"] ["datum", "wires"] (defScope s_is_wire) := ⟨rfl, rfl, rfl, by decide +kernel, rfl, by decide +kernel, by decide +kernel⟩
abbrev s_ascending : Stmt := top 7
theorem sc_ascending : FnScope ["wires"] ["wires"] (defScope s_ascending) := ⟨rfl, rfl, rfl, by decide +kernel, rfl, by decide +kernel, by decide +kernel⟩
abbrev s_clause_of : Stmt := top 9
theorem sc_clause_of : FnScope ["literals", "yes", "wire", "sign"] ["literals"] (defScope s_clause_of) := ⟨rfl, rfl, rfl, by decide +kernel, rfl, by decide +kernel, by decide +kernel⟩
abbrev s_wire_name : Stmt := top 10
theorem sc_wire_name : FnScope ["wire"] ["wire"] (defScope s_wire_name) := ⟨rfl, rfl, rfl, by decide +kernel, rfl, by decide +kernel, by decide +kernel⟩
abbrev s_table_of : Stmt := top 13
theorem sc_table_of : FnScope ["kind", "signs", "total", "half"] ["kind", "signs"] (defScope s_table_of) := ⟨rfl, rfl, rfl, by decide +kernel, rfl, by decide +kernel, by decide +kernel⟩
abbrev s_rows_of : Stmt := top 14
theorem sc_rows_of : FnScope ["many", "row", "place"] ["many"] (defScope s_rows_of) := ⟨rfl, rfl, rfl, by decide +kernel, rfl, by decide +kernel, by decide +kernel⟩
abbrev s_cell_wants : Stmt := top 15
theorem sc_cell_wants : FnScope ["cell", "kind", "ins", "outs", "found", "row", "signs", "denied", "wire", "sign"] ["cell"] (defScope s_cell_wants) := ⟨rfl, rfl, rfl, by decide +kernel, rfl, by decide +kernel, by decide +kernel⟩
abbrev s_cell_equations : Stmt := top 16
theorem sc_cell_equations : FnScope ["cell", "kind", "ins", "outs", "numbers", "wires", "wire"] ["cell"] (defScope s_cell_equations) := ⟨rfl, rfl, rfl, by decide +kernel, rfl, by decide +kernel, by decide +kernel⟩
abbrev s_is_equation : Stmt := top 19
theorem sc_is_equation : FnScope ["datum", "wires", "wire", "number"] ["datum", "wires"] (defScope s_is_equation) := ⟨rfl, rfl, rfl, by decide +kernel, rfl, by decide +kernel, by decide +kernel⟩
abbrev s_equation_form : Stmt := top 20
theorem sc_equation_form : FnScope ["equation", "wire", "number"] ["equation"] (defScope s_equation_form) := ⟨rfl, rfl, rfl, by decide +kernel, rfl, by decide +kernel, by decide +kernel⟩
abbrev s_holds_at : Stmt := top 21
theorem sc_holds_at : FnScope ["clause", "signs", "wire"] ["clause", "signs"] (defScope s_holds_at) := ⟨rfl, rfl, rfl, by decide +kernel, rfl, by decide +kernel, by decide +kernel⟩
abbrev s_is_kept : Stmt := top 22
theorem sc_is_kept : FnScope ["clauses", "equation", "wires", "numbers", "constant", "row", "signs", "total", "place", "wire", "number", "clause"] ["clauses", "equation"] (defScope s_is_kept) := ⟨rfl, rfl, rfl, by decide +kernel, rfl, by decide +kernel, by decide +kernel⟩
abbrev s__law_start : Stmt := top 24
theorem sc__law_start : FnScope ["script"] ["script"] (defScope s__law_start) := ⟨rfl, rfl, rfl, by decide +kernel, rfl, by decide +kernel, by decide +kernel⟩
abbrev s__law_draw : Stmt := top 25
theorem sc__law_draw : FnScope ["state", "most", "found", "cell", "mixed"] ["state", "most"] (defScope s__law_draw) := ⟨rfl, rfl, rfl, by decide +kernel, rfl, by decide +kernel, by decide +kernel⟩
abbrev s__law_one_of : Stmt := top 26
theorem sc__law_one_of : FnScope ["state", "items"] ["state", "items"] (defScope s__law_one_of) := ⟨rfl, rfl, rfl, by decide +kernel, rfl, by decide +kernel, by decide +kernel⟩
abbrev s__law_shuffled : Stmt := top 27
theorem sc__law_shuffled : FnScope ["state", "items", "found", "item"] ["state", "items"] (defScope s__law_shuffled) := ⟨rfl, rfl, rfl, by decide +kernel, rfl, by decide +kernel, by decide +kernel⟩
abbrev s__law_is_int : Stmt := top 28
theorem sc__law_is_int : FnScope ["x"] ["x"] (defScope s__law_is_int) := ⟨rfl, rfl, rfl, by decide +kernel, rfl, by decide +kernel, by decide +kernel⟩
abbrev s__law_same : Stmt := top 29
theorem sc__law_same : FnScope ["x", "y", "k"] ["x", "y"] (defScope s__law_same) := ⟨rfl, rfl, rfl, by decide +kernel, rfl, by decide +kernel, by decide +kernel⟩
abbrev s__law_table : Stmt := top 30
theorem sc__law_table : FnScope ["kind", "row", "total"] ["kind", "row"] (defScope s__law_table) := ⟨rfl, rfl, rfl, by decide +kernel, rfl, by decide +kernel, by decide +kernel⟩
abbrev s__law_clause : Stmt := top 31
theorem sc__law_clause : FnScope ["pairs", "yes", "wire", "sign"] ["pairs"] (defScope s__law_clause) := ⟨rfl, rfl, rfl, by decide +kernel, rfl, by decide +kernel, by decide +kernel⟩
abbrev s__law_wants : Stmt := top 32
theorem sc__law_wants : FnScope ["cell", "kind", "ins", "outs", "found", "number", "row", "signs", "fits", "at", "lost", "told", "wire"] ["cell"] (defScope s__law_wants) := ⟨rfl, rfl, rfl, by decide +kernel, rfl, by decide +kernel, by decide +kernel⟩
abbrev s__law_slice : Stmt := top 33
theorem sc__law_slice : FnScope ["state", "some", "kind", "numbers", "table", "at", "due", "wire"] ["state"] (defScope s__law_slice) := ⟨rfl, rfl, rfl, by decide +kernel, rfl, by decide +kernel, by decide +kernel⟩
abbrev s__law_other_cell : Stmt := top 34
theorem sc__law_other_cell : FnScope ["state", "kind", "ins", "at"] ["state"] (defScope s__law_other_cell) := ⟨rfl, rfl, rfl, by decide +kernel, rfl, by decide +kernel, by decide +kernel⟩
abbrev s__law_form_of : Stmt := top 35
theorem sc__law_form_of : FnScope ["equation", "pairs", "at", "x"] ["equation"] (defScope s__law_form_of) := ⟨rfl, rfl, rfl, by decide +kernel, rfl, by decide +kernel, by decide +kernel⟩
abbrev s__law_slice_fits : Stmt := top 36
theorem sc__law_slice_fits : FnScope ["state", "cell", "due", "wants", "at", "some", "numbers", "constant", "other"] ["state", "cell", "due"] (defScope s__law_slice_fits) := ⟨rfl, rfl, rfl, by decide +kernel, rfl, by decide +kernel, by decide +kernel⟩
abbrev s_law : Stmt := top 37
theorem sc_law : FnScope ["script", "state", "turn", "cell", "due"] ["script"] (defScope s_law) := ⟨rfl, rfl, rfl, by decide +kernel, rfl, by decide +kernel, by decide +kernel⟩
structure Tx (w : World) (K : PySem.W.Frag) (mg : Str → Option Value) where
  a_form : Addr
  f_form : FuncData
  F_form : Fun K "form" "form" s_form a_form f_form
  m_form : mg "form" = some (.ref a_form)
  b_form : Binds K f_form ["constant", "pairs"] []
  a_is_integer : Addr
  f_is_integer : FuncData
  F_is_integer : Fun K "is_integer" "is_integer" s_is_integer a_is_integer f_is_integer
  m_is_integer : mg "is_integer" = some (.ref a_is_integer)
  b_is_integer : Binds K f_is_integer ["datum"] []
  a_is_count : Addr
  f_is_count : FuncData
  F_is_count : Fun K "is_count" "is_count" s_is_count a_is_count f_is_count
  m_is_count : mg "is_count" = some (.ref a_is_count)
  b_is_count : Binds K f_is_count ["datum"] []
  a_is_tuple : Addr
  f_is_tuple : FuncData
  F_is_tuple : Fun K "is_tuple" "is_tuple" s_is_tuple a_is_tuple f_is_tuple
  m_is_tuple : mg "is_tuple" = some (.ref a_is_tuple)
  b_is_tuple : Binds K f_is_tuple ["datum", "many"] []
  a_is_wire : Addr
  f_is_wire : FuncData
  F_is_wire : Fun K "is_wire" "is_wire" s_is_wire a_is_wire f_is_wire
  m_is_wire : mg "is_wire" = some (.ref a_is_wire)
  b_is_wire : Binds K f_is_wire ["datum", "wires"] []
  a_ascending : Addr
  f_ascending : FuncData
  F_ascending : Fun K "ascending" "ascending" s_ascending a_ascending f_ascending
  m_ascending : mg "ascending" = some (.ref a_ascending)
  b_ascending : Binds K f_ascending ["wires"] []
  a_clause_of : Addr
  f_clause_of : FuncData
  F_clause_of : Fun K "clause_of" "clause_of" s_clause_of a_clause_of f_clause_of
  m_clause_of : mg "clause_of" = some (.ref a_clause_of)
  b_clause_of : Binds K f_clause_of ["literals"] []
  a_wire_name : Addr
  f_wire_name : FuncData
  F_wire_name : Fun K "wire_name" "wire_name" s_wire_name a_wire_name f_wire_name
  m_wire_name : mg "wire_name" = some (.ref a_wire_name)
  b_wire_name : Binds K f_wire_name ["wire"] []
  a_table_of : Addr
  f_table_of : FuncData
  F_table_of : Fun K "table_of" "table_of" s_table_of a_table_of f_table_of
  m_table_of : mg "table_of" = some (.ref a_table_of)
  b_table_of : Binds K f_table_of ["kind", "signs"] []
  a_rows_of : Addr
  f_rows_of : FuncData
  F_rows_of : Fun K "rows_of" "rows_of" s_rows_of a_rows_of f_rows_of
  m_rows_of : mg "rows_of" = some (.ref a_rows_of)
  b_rows_of : Binds K f_rows_of ["many"] []
  a_cell_wants : Addr
  f_cell_wants : FuncData
  F_cell_wants : Fun K "cell_wants" "cell_wants" s_cell_wants a_cell_wants f_cell_wants
  m_cell_wants : mg "cell_wants" = some (.ref a_cell_wants)
  b_cell_wants : Binds K f_cell_wants ["cell"] []
  a_cell_equations : Addr
  f_cell_equations : FuncData
  F_cell_equations : Fun K "cell_equations" "cell_equations" s_cell_equations a_cell_equations f_cell_equations
  m_cell_equations : mg "cell_equations" = some (.ref a_cell_equations)
  b_cell_equations : Binds K f_cell_equations ["cell"] []
  a_is_equation : Addr
  f_is_equation : FuncData
  F_is_equation : Fun K "is_equation" "is_equation" s_is_equation a_is_equation f_is_equation
  m_is_equation : mg "is_equation" = some (.ref a_is_equation)
  b_is_equation : Binds K f_is_equation ["datum", "wires"] []
  a_equation_form : Addr
  f_equation_form : FuncData
  F_equation_form : Fun K "equation_form" "equation_form" s_equation_form a_equation_form f_equation_form
  m_equation_form : mg "equation_form" = some (.ref a_equation_form)
  b_equation_form : Binds K f_equation_form ["equation"] []
  a_holds_at : Addr
  f_holds_at : FuncData
  F_holds_at : Fun K "holds_at" "holds_at" s_holds_at a_holds_at f_holds_at
  m_holds_at : mg "holds_at" = some (.ref a_holds_at)
  b_holds_at : Binds K f_holds_at ["clause", "signs"] []
  a_is_kept : Addr
  f_is_kept : FuncData
  F_is_kept : Fun K "is_kept" "is_kept" s_is_kept a_is_kept f_is_kept
  m_is_kept : mg "is_kept" = some (.ref a_is_kept)
  b_is_kept : Binds K f_is_kept ["clauses", "equation"] []
  a__law_start : Addr
  f__law_start : FuncData
  F__law_start : Fun K "_law_start" "_law_start" s__law_start a__law_start f__law_start
  m__law_start : mg "_law_start" = some (.ref a__law_start)
  b__law_start : Binds K f__law_start ["script"] []
  a__law_draw : Addr
  f__law_draw : FuncData
  F__law_draw : Fun K "_law_draw" "_law_draw" s__law_draw a__law_draw f__law_draw
  m__law_draw : mg "_law_draw" = some (.ref a__law_draw)
  b__law_draw : Binds K f__law_draw ["state", "most"] []
  a__law_one_of : Addr
  f__law_one_of : FuncData
  F__law_one_of : Fun K "_law_one_of" "_law_one_of" s__law_one_of a__law_one_of f__law_one_of
  m__law_one_of : mg "_law_one_of" = some (.ref a__law_one_of)
  b__law_one_of : Binds K f__law_one_of ["state", "items"] []
  a__law_shuffled : Addr
  f__law_shuffled : FuncData
  F__law_shuffled : Fun K "_law_shuffled" "_law_shuffled" s__law_shuffled a__law_shuffled f__law_shuffled
  m__law_shuffled : mg "_law_shuffled" = some (.ref a__law_shuffled)
  b__law_shuffled : Binds K f__law_shuffled ["state", "items"] []
  a__law_is_int : Addr
  f__law_is_int : FuncData
  F__law_is_int : Fun K "_law_is_int" "_law_is_int" s__law_is_int a__law_is_int f__law_is_int
  m__law_is_int : mg "_law_is_int" = some (.ref a__law_is_int)
  b__law_is_int : Binds K f__law_is_int ["x"] []
  a__law_same : Addr
  f__law_same : FuncData
  F__law_same : Fun K "_law_same" "_law_same" s__law_same a__law_same f__law_same
  m__law_same : mg "_law_same" = some (.ref a__law_same)
  b__law_same : Binds K f__law_same ["x", "y"] []
  a__law_table : Addr
  f__law_table : FuncData
  F__law_table : Fun K "_law_table" "_law_table" s__law_table a__law_table f__law_table
  m__law_table : mg "_law_table" = some (.ref a__law_table)
  b__law_table : Binds K f__law_table ["kind", "row"] []
  a__law_clause : Addr
  f__law_clause : FuncData
  F__law_clause : Fun K "_law_clause" "_law_clause" s__law_clause a__law_clause f__law_clause
  m__law_clause : mg "_law_clause" = some (.ref a__law_clause)
  b__law_clause : Binds K f__law_clause ["pairs"] []
  a__law_wants : Addr
  f__law_wants : FuncData
  F__law_wants : Fun K "_law_wants" "_law_wants" s__law_wants a__law_wants f__law_wants
  m__law_wants : mg "_law_wants" = some (.ref a__law_wants)
  b__law_wants : Binds K f__law_wants ["cell"] []
  a__law_slice : Addr
  f__law_slice : FuncData
  F__law_slice : Fun K "_law_slice" "_law_slice" s__law_slice a__law_slice f__law_slice
  m__law_slice : mg "_law_slice" = some (.ref a__law_slice)
  b__law_slice : Binds K f__law_slice ["state"] []
  a__law_other_cell : Addr
  f__law_other_cell : FuncData
  F__law_other_cell : Fun K "_law_other_cell" "_law_other_cell" s__law_other_cell a__law_other_cell f__law_other_cell
  m__law_other_cell : mg "_law_other_cell" = some (.ref a__law_other_cell)
  b__law_other_cell : Binds K f__law_other_cell ["state"] []
  a__law_form_of : Addr
  f__law_form_of : FuncData
  F__law_form_of : Fun K "_law_form_of" "_law_form_of" s__law_form_of a__law_form_of f__law_form_of
  m__law_form_of : mg "_law_form_of" = some (.ref a__law_form_of)
  b__law_form_of : Binds K f__law_form_of ["equation"] []
  a__law_slice_fits : Addr
  f__law_slice_fits : FuncData
  F__law_slice_fits : Fun K "_law_slice_fits" "_law_slice_fits" s__law_slice_fits a__law_slice_fits f__law_slice_fits
  m__law_slice_fits : mg "_law_slice_fits" = some (.ref a__law_slice_fits)
  b__law_slice_fits : Binds K f__law_slice_fits ["state", "cell", "due"] []
  a_law : Addr
  f_law : FuncData
  F_law : Fun K "law" "law" s_law a_law f_law
  m_law : mg "law" = some (.ref a_law)
  b_law : Binds K f_law ["script"] []
  m_abs : mg "abs" = none
  m_all : mg "all" = none
  m_any : mg "any" = none
  m_bool : mg "bool" = none
  m_dict : mg "dict" = none
  m_enumerate : mg "enumerate" = none
  m_int : mg "int" = none
  m_isinstance : mg "isinstance" = none
  m_len : mg "len" = none
  m_list : mg "list" = none
  m_max : mg "max" = none
  m_range : mg "range" = none
  m_set : mg "set" = none
  m_sorted : mg "sorted" = none
  m_str : mg "str" = none
  m_sum : mg "sum" = none
  m_tuple : mg "tuple" = none
  m_zip : mg "zip" = none
  t_MOST_WIRES : Tok
  m_MOST_WIRES : mg "MOST_WIRES" = some (.int 6 t_MOST_WIRES)
  a_FACTORS : Addr
  m_FACTORS : mg "FACTORS" = some (.ref a_FACTORS)
  q_FACTORS : GDict K w a_FACTORS tab_FACTORS
section
variable {P : Program} {w : World} {K : PySem.W.Frag} {mg : Str → Option Value} {base : Heap}
theorem ok_form (T : Tx w K mg) : FnOk P w K mg base CX0 1 T.a_form T.f_form ["constant", "pairs"] (spD K 2 d_form) :=
  fn_d T.F_form sc_form fun cdv A outer s H E hr => dss_cons (ds_setM (i := 2) sc_form.nd rfl (.inr rfl) (de_dnew)) (dss_cons (ds_for PassesOwn.never rfl (di_seq (de_var 1 (pv 1))) (dg_tup (is := [3, 4]) (vs := [3, 4]) rfl sc_form.nd (.cons rfl (.inl rfl) (by first | exact .inl rfl | exact .inr rfl) (.cons rfl (.inl rfl) (by first | exact .inl rfl | exact .inr rfl) (.nil))) (by decide)) (dss_one (ds_setSub hr.u1 (de_var 2 (pv 2)) (de_var 3 (pv 3)) (de_bin og_add (de_get2 hr.u1 (de_var 2 (pv 2)) (de_var 3 (pv 3)) (de_int) ⟨rfl, rfl, rfl, rfl⟩) (de_var 4 (pv 4)))))) (dss_one (ds_ret (de_tup (da_cons (de_var 0 (pv 0)) (da_cons (de_callTy cg_tuple rfl T.m_tuple bt_tuple (da_cons (de_comp (own := [("name", 3)]) rfl sc_form.nd (di_seq (de_callBW (cw_sorted rfl) rfl T.m_sorted bt_sorted (da_cons (de_var 2 (pv 2)) (da_nil)))) (show blkC ["constant", "pairs", "sums", "name", "coefficient"] (defScope s_form) _ _ = true by decide +kernel) (fun _ _ _ _ _ => dg_name (i := 3) (vs := [3]) sc_form.nd rfl (.inl rfl) (by decide)) (fun _ _ _ _ _ => dts_one (dt_cmp (og_ne hr.u64) (de_ix (ig_sub hr.u1) (de_var 2 (pv 2)) (de_var 3 (pv 3))) (de_int))) (fun _ _ _ _ _ => de_tup (da_cons (de_var 3 (pv 3)) (da_cons (de_ix (ig_sub hr.u1) (de_var 2 (pv 2)) (de_var 3 (pv 3))) (da_nil))))) (da_nil))) (da_nil)))))))
theorem ok_is_integer (T : Tx w K mg) : FnOk P w K mg base CX0 1 T.a_is_integer T.f_is_integer ["datum"] (spD K 1 d_is_integer) :=
  fn_d T.F_is_integer sc_is_integer fun cdv A outer s H E hr => dss_one (ds_ret (de_and (de_isi rfl T.m_isinstance bt_isinstance kit_int rfl T.m_int bt_int (de_var 0 (pv 0))) (de_one (de_not (de_isi rfl T.m_isinstance bt_isinstance kit_bool rfl T.m_bool bt_bool (de_var 0 (pv 0)))))))
theorem ok_is_count (T : Tx w K mg) : FnOk P w K mg base CX0 2 T.a_is_count T.f_is_count ["datum"] (spD K 1 d_is_count) :=
  fn_d T.F_is_count sc_is_count fun cdv A outer s H E hr => dss_one (ds_ret (de_and (de_call (ok_is_integer T) (hr.mono (by decide)) rfl T.m_is_integer T.F_is_integer.kp T.b_is_integer (da_cons (de_var 0 (pv 0)) (da_nil))) (de_one (de_cmp og_ge (de_var 0 (pv 0)) (de_int)))))
theorem ok_is_tuple (T : Tx w K mg) : FnOk P w K mg base CX0 1 T.a_is_tuple T.f_is_tuple ["datum", "many"] (spD K 2 d_is_tuple) :=
  fn_d T.F_is_tuple sc_is_tuple fun cdv A outer s H E hr => dss_one (ds_ret (de_and (de_isi rfl T.m_isinstance bt_isinstance kit_tup rfl T.m_tuple bt_tuple (de_var 0 (pv 0))) (de_one (de_cmp (og_eq hr.u64) (de_callB cg_len rfl T.m_len bt_len (da_cons (de_var 0 (pv 0)) (da_nil))) (de_var 1 (pv 1))))))
theorem ok_is_wire (T : Tx w K mg) : FnOk P w K mg base CX0 3 T.a_is_wire T.f_is_wire ["datum", "wires"] (spD K 2 d_is_wire) :=
  fn_d T.F_is_wire sc_is_wire fun cdv A outer s H E hr => dss_one (ds_ret (de_and (de_call (ok_is_count T) (hr.mono (by decide)) rfl T.m_is_count T.F_is_count.kp T.b_is_count (da_cons (de_var 0 (pv 0)) (da_nil))) (de_one (de_cmp og_lt (de_var 0 (pv 0)) (de_var 1 (pv 1))))))
theorem ok_ascending (T : Tx w K mg) : FnOk P w K mg base CX0 1 T.a_ascending T.f_ascending ["wires"] (spD K 1 d_ascending) :=
  fn_d T.F_ascending sc_ascending fun cdv A outer s H E hr => dss_one (ds_ret (de_callTy cg_tuple rfl T.m_tuple bt_tuple (da_cons (de_sortSet2 rfl rfl T.m_sorted bt_sorted rfl T.m_set bt_set (da_cons (de_var 0 (pv 0)) (da_nil))) (da_nil))))
theorem ok_clause_of (T : Tx w K mg) : FnOk P w K mg base CX0 2 T.a_clause_of T.f_clause_of ["literals"] (spD K 1 d_clause_of) :=
  fn_d T.F_clause_of sc_clause_of fun cdv A outer s H E hr => dss_cons (ds_setC (i := 1) (own := [("wire", 2), ("sign", 3)]) rfl sc_clause_of.nd rfl rfl (sw_true rfl rfl rfl (by decide +kernel)) (di_seq (de_var 0 (pv 0))) (show blkC ["literals", "yes", "wire", "sign"] (defScope s_clause_of) _ _ = true by decide +kernel) (fun _ _ _ _ _ => dg_tup (is := [2, 3]) (vs := [2, 3]) rfl sc_clause_of.nd (.cons rfl (.inl rfl) (by first | exact .inl rfl | exact .inr rfl) (.cons rfl (.inl rfl) (by first | exact .inl rfl | exact .inr rfl) (.nil))) (by decide)) (fun _ _ _ _ _ => dts_one (dt_tru (de_var 3 (pv 3)))) (fun _ _ _ _ _ => de_var 2 (pv 2))) (dss_one (ds_ret (de_tup (da_cons (de_call (ok_ascending T) (hr.mono (by decide)) rfl T.m_ascending T.F_ascending.kp T.b_ascending (da_cons (de_var 1 (pv 1)) (da_nil))) (da_cons (de_call (ok_ascending T) (hr.mono (by decide)) rfl T.m_ascending T.F_ascending.kp T.b_ascending (da_cons (de_comp (own := [("wire", 2), ("sign", 3)]) rfl sc_clause_of.nd (di_seq (de_var 0 (pv 0))) (show blkC ["literals", "yes", "wire", "sign"] (defScope s_clause_of) _ _ = true by decide +kernel) (fun _ _ _ _ _ => dg_tup (is := [2, 3]) (vs := [2, 3]) rfl sc_clause_of.nd (.cons rfl (.inl rfl) (by first | exact .inl rfl | exact .inr rfl) (.cons rfl (.inl rfl) (by first | exact .inl rfl | exact .inr rfl) (.nil))) (by decide)) (fun _ _ _ _ _ => dts_one (dt_not (dt_tru (de_var 3 (pv 3))))) (fun _ _ _ _ _ => de_var 2 (pv 2))) (da_nil))) (da_nil))))))
theorem ok_wire_name (T : Tx w K mg) : FnOk P w K mg base CX0 1 T.a_wire_name T.f_wire_name ["wire"] (spD K 1 d_wire_name) :=
  fn_d T.F_wire_name sc_wire_name fun cdv A outer s H E hr => dss_one (ds_ret (de_bin og_add (de_str) (de_callTy cg_str rfl T.m_str bt_str (da_cons (de_var 0 (pv 0)) (da_nil)))))
theorem ok_table_of (T : Tx w K mg) : FnOk P w K mg base CX0 1 T.a_table_of T.f_table_of ["kind", "signs"] (spD K 2 d_table_of) :=
  fn_d T.F_table_of sc_table_of fun cdv A outer s H E hr => dss_cons (ds_if (dt_cmp (og_eq hr.u64) (de_var 0 (pv 0)) (de_str)) (dss_one (ds_ret (de_tup (da_cons (de_bin og_sub (de_int) (de_ix (ig_sub hr.u1) (de_var 1 (pv 1)) (de_int))) (da_nil))))) (dss_nil)) (dss_cons (ds_if (dt_cmp (og_eq hr.u64) (de_var 0 (pv 0)) (de_str)) (dss_one (ds_ret (de_tup (da_cons (de_bin og_mul (de_ix (ig_sub hr.u1) (de_var 1 (pv 1)) (de_int)) (de_ix (ig_sub hr.u1) (de_var 1 (pv 1)) (de_int))) (da_nil))))) (dss_nil)) (dss_cons (ds_if (dt_cmp (og_eq hr.u64) (de_var 0 (pv 0)) (de_str)) (dss_one (ds_ret (de_tup (da_cons (de_callB (cg_max rfl hr.u64) rfl T.m_max bt_max (da_cons (de_var 1 (pv 1)) (da_nil))) (da_nil))))) (dss_nil)) (dss_cons (ds_if (dt_cmp (og_in2 hr.u1 hr.u65) (de_var 0 (pv 0)) (de_tup (da_cons (de_str) (da_cons (de_str) (da_nil))))) (dss_one (ds_ret (de_tup (da_cons (de_callTy cg_int rfl T.m_int bt_int (da_cons (de_cmp (og_eq hr.u64) (de_cmp (og_eq hr.u64) (de_ix (ig_sub hr.u1) (de_var 1 (pv 1)) (de_int)) (de_ix (ig_sub hr.u1) (de_var 1 (pv 1)) (de_int))) (de_cmp (og_eq hr.u64) (de_var 0 (pv 0)) (de_str))) (da_nil))) (da_nil))))) (dss_nil)) (dss_cons (ds_set (i := 2) sc_table_of.nd rfl (.inl rfl) (de_if (dt_cmp (og_eq hr.u64) (de_var 0 (pv 0)) (de_str)) (de_bin og_add (de_bin og_add (de_ix (ig_sub hr.u1) (de_var 1 (pv 1)) (de_int)) (de_ix (ig_sub hr.u1) (de_var 1 (pv 1)) (de_int))) (de_ix (ig_sub hr.u1) (de_var 1 (pv 1)) (de_int))) (de_bin og_sub (de_bin og_sub (de_ix (ig_sub hr.u1) (de_var 1 (pv 1)) (de_int)) (de_ix (ig_sub hr.u1) (de_var 1 (pv 1)) (de_int))) (de_ix (ig_sub hr.u1) (de_var 1 (pv 1)) (de_int))))) (dss_cons (ds_set (i := 3) sc_table_of.nd rfl (.inl rfl) (de_bin og_div (de_var 2 (pv 2)) (de_int))) (dss_one (ds_ret (de_tup (da_cons (de_bin og_sub (de_var 2 (pv 2)) (de_bin og_mul (de_int) (de_var 3 (pv 3)))) (da_cons (de_callB cg_abs rfl T.m_abs bt_abs (da_cons (de_var 3 (pv 3)) (da_nil))) (da_nil)))))))))))
theorem ok_rows_of (T : Tx w K mg) : FnOk P w K mg base CX0 1 T.a_rows_of T.f_rows_of ["many"] (spD K 1 d_rows_of) :=
  fn_d T.F_rows_of sc_rows_of fun cdv A outer s H E hr => dss_one (ds_ret (de_comp (own := [("row", 1)]) rfl sc_rows_of.nd (di_range1 rfl T.m_range (da_cons (de_bin og_shl (de_int) (de_var 0 (pv 0))) (da_nil))) (show blkC ["many", "row", "place"] (defScope s_rows_of) _ _ = true by decide +kernel) (fun _ _ _ _ _ => dg_name (i := 1) (vs := [1]) sc_rows_of.nd rfl (.inr rfl) (by decide)) (fun _ _ _ _ _ => dts_nil) (fun _ _ _ _ _ => de_callTy cg_tuple rfl T.m_tuple bt_tuple (da_cons (de_comp (own := [("place", 2)]) rfl sc_rows_of.nd (di_range1 rfl T.m_range (da_cons (de_var 0 (pv 0)) (da_nil))) (show blkC ["many", "row", "place"] (relS _ (defScope s_rows_of)) _ _ = true by decide +kernel) (fun _ _ _ _ _ => dg_name (i := 2) (vs := [2]) sc_rows_of.nd rfl (.inl rfl) (by decide)) (fun _ _ _ _ _ => dts_nil) (fun _ _ _ _ _ => de_callTy cg_int rfl T.m_int bt_int (da_cons (de_cmp (og_ne hr.u64) (de_bin og_and (de_var 1 (pv 1)) (de_bin og_shl (de_int) (de_var 2 (pv 2)))) (de_int)) (da_nil)))) (da_nil)))))
theorem ok_cell_wants (T : Tx w K mg) : FnOk P w K mg base CX0 3 T.a_cell_wants T.f_cell_wants ["cell"] (spD K 1 d_cell_wants) :=
  fn_d T.F_cell_wants sc_cell_wants fun cdv A outer s H E hr => dss_cons (ds_asgT (de_var 0 (pv 0)) (dg_tup (is := [1, 2, 3]) (vs := [1, 2, 3]) rfl sc_cell_wants.nd (.cons rfl (.inl rfl) (by first | exact .inl rfl | exact .inr rfl) (.cons rfl (.inl rfl) (by first | exact .inl rfl | exact .inr rfl) (.cons rfl (.inl rfl) (by first | exact .inl rfl | exact .inr rfl) (.nil)))) (by decide))) (dss_cons (ds_setM (i := 4) sc_cell_wants.nd rfl (.inl rfl) (de_lst (da_nil))) (dss_cons (ds_for PassesOwn.never rfl (di_seq (de_call (ok_rows_of T) (hr.mono (by decide)) rfl T.m_rows_of T.F_rows_of.kp T.b_rows_of (da_cons (de_callB cg_len rfl T.m_len bt_len (da_cons (de_var 2 (pv 2)) (da_nil))) (da_nil)))) (dg_name (i := 5) (vs := [5]) sc_cell_wants.nd rfl (.inl rfl) (by decide)) (dss_cons (ds_set (i := 6) sc_cell_wants.nd rfl (.inr rfl) (de_dictZip rfl rfl T.m_dict rfl T.m_zip (da_cons (de_var 2 (pv 2)) (da_cons (de_var 5 (pv 5)) (da_nil))))) (dss_one (ds_if (DW.dt (dw_and (dt_cmp (og_eq hr.u64) (de_comp (own := [("wire", 8)]) rfl sc_cell_wants.nd (di_seq (de_var 2 (pv 2))) (show blkC ["cell", "kind", "ins", "outs", "found", "row", "signs", "denied", "wire", "sign"] (defScope s_cell_wants) _ _ = true by decide +kernel) (fun _ _ _ _ _ => dg_name (i := 8) (vs := [8]) sc_cell_wants.nd rfl (.inl rfl) (by decide)) (fun _ _ _ _ _ => dts_nil) (fun _ _ _ _ _ => de_ix (ig_sub hr.u1) (de_var 6 (pv 6)) (de_var 8 (pv 8)))) (de_callTy cg_list rfl T.m_list bt_list (da_cons (de_var 5 (pv 5)) (da_nil)))) (dw_and1 (dt_cmp (og_eq hr.u64) (de_get2 hr.u1 (de_var 6 (pv 6)) (de_int) (de_int) ⟨rfl, rfl, rfl, rfl⟩) (de_int))))) (dss_cons (ds_setCL (i := 7) (l := 6) (own := [("wire", 8), ("sign", 9)]) rfl sc_cell_wants.nd rfl rfl (sw_true rfl rfl rfl (by decide +kernel)) (di_items (de_var 6 (pv 6))) (show blkC ["cell", "kind", "ins", "outs", "found", "row", "signs", "denied", "wire", "sign"] (defScope s_cell_wants) _ _ = true by decide +kernel) (fun _ _ _ _ _ => dg_tup (is := [8, 9]) (vs := [8, 9]) rfl sc_cell_wants.nd (.cons rfl (.inl rfl) (by first | exact .inl rfl | exact .inr rfl) (.cons rfl (.inl rfl) (by first | exact .inl rfl | exact .inr rfl) (.nil))) (by decide)) (fun _ _ _ _ _ => dts_one (dt_cmp (og_ne hr.u64) (de_var 8 (pv 8)) (de_int))) (fun _ _ _ _ _ => de_tup (da_cons (de_var 8 (pv 8)) (da_cons (de_cmp (og_eq hr.u64) (de_var 9 (pv 9)) (de_int)) (da_nil))))) (dss_one (ds_for PassesOwn.never rfl (di_zip rfl T.m_zip (da_cons (de_var 3 (pv 3)) (da_cons (de_call (ok_table_of T) (hr.mono (by decide)) rfl T.m_table_of T.F_table_of.kp T.b_table_of (da_cons (de_var 1 (pv 1)) (da_cons (de_var 5 (pv 5)) (da_nil)))) (da_nil)))) (dg_tup (is := [8, 9]) (vs := [8, 9]) rfl sc_cell_wants.nd (.cons rfl (.inl rfl) (by first | exact .inl rfl | exact .inr rfl) (.cons rfl (.inl rfl) (by first | exact .inl rfl | exact .inr rfl) (.nil))) (by decide)) (dss_one (ds_append (de_var 4 (pv 4)) (de_call (ok_clause_of T) (hr.mono (by decide)) rfl T.m_clause_of T.F_clause_of.kp T.b_clause_of (da_cons (de_bin og_add (de_var 7 (pv 7)) (de_lst (da_cons (de_tup (da_cons (de_var 8 (pv 8)) (da_cons (de_cmp (og_eq hr.u64) (de_var 9 (pv 9)) (de_int)) (da_nil)))) (da_nil)))) (da_nil)))))))) (dss_nil))))) (dss_one (ds_ret (de_var 4 (pv 4))))))
theorem ok_cell_equations (T : Tx w K mg) : FnOk P w K mg base CX0 2 T.a_cell_equations T.f_cell_equations ["cell"] (spD K 1 d_cell_equations) :=
  fn_d T.F_cell_equations sc_cell_equations fun cdv A outer s H E hr => dss_cons (ds_asgT (de_var 0 (pv 0)) (dg_tup (is := [1, 2, 3]) (vs := [1, 2, 3]) rfl sc_cell_equations.nd (.cons rfl (.inl rfl) (by first | exact .inl rfl | exact .inr rfl) (.cons rfl (.inl rfl) (by first | exact .inl rfl | exact .inr rfl) (.cons rfl (.inl rfl) (by first | exact .inl rfl | exact .inr rfl) (.nil)))) (by decide))) (dss_cons (ds_if (dt_gnotin rfl T.m_FACTORS T.q_FACTORS (de_var 1 (pv 1))) (dss_one (ds_ret (de_lst (da_nil)))) (dss_nil)) (dss_cons (ds_set (i := 4) sc_cell_equations.nd rfl (.inr rfl) (de_dictZip rfl rfl T.m_dict rfl T.m_zip (da_cons (de_bin og_add (de_var 3 (pv 3)) (de_var 2 (pv 2))) (da_cons (de_gsub rfl T.m_FACTORS T.q_FACTORS (de_var 1 (pv 1))) (da_nil))))) (dss_cons (ds_set (i := 5) sc_cell_equations.nd rfl (.inl rfl) (de_call (ok_ascending T) (hr.mono (by decide)) rfl T.m_ascending T.F_ascending.kp T.b_ascending (da_cons (de_bin og_add (de_var 3 (pv 3)) (de_var 2 (pv 2))) (da_nil)))) (dss_one (ds_ret (de_lst (da_cons (de_tup (da_cons (de_var 5 (pv 5)) (da_cons (de_callTy cg_tuple rfl T.m_tuple bt_tuple (da_cons (de_comp (own := [("wire", 6)]) rfl sc_cell_equations.nd (di_seq (de_var 5 (pv 5))) (show blkC ["cell", "kind", "ins", "outs", "numbers", "wires", "wire"] (defScope s_cell_equations) _ _ = true by decide +kernel) (fun _ _ _ _ _ => dg_name (i := 6) (vs := [6]) sc_cell_equations.nd rfl (.inl rfl) (by decide)) (fun _ _ _ _ _ => dts_nil) (fun _ _ _ _ _ => de_ix (ig_sub hr.u1) (de_var 4 (pv 4)) (de_var 6 (pv 6)))) (da_nil))) (da_cons (de_int) (da_nil))))) (da_nil))))))))
theorem ok_is_equation (T : Tx w K mg) : FnOk P w K mg base CX0 4 T.a_is_equation T.f_is_equation ["datum", "wires"] (spD K 2 d_is_equation) :=
  fn_d T.F_is_equation sc_is_equation fun cdv A outer s H E hr => dss_cons (ds_if (DW.dt (dw_or (dt_not (dt_tru (de_call (ok_is_tuple T) (hr.mono (by decide)) rfl T.m_is_tuple T.F_is_tuple.kp T.b_is_tuple (da_cons (de_var 0 (pv 0)) (da_cons (de_int) (da_nil)))))) (dw_or (dt_not (dt_tru (de_isi rfl T.m_isinstance bt_isinstance kit_tup rfl T.m_tuple bt_tuple (de_ix (ig_sub hr.u1) (de_var 0 (pv 0)) (de_int))))) (dw_or1 (dt_not (dt_tru (de_call (ok_is_integer T) (hr.mono (by decide)) rfl T.m_is_integer T.F_is_integer.kp T.b_is_integer (da_cons (de_ix (ig_sub hr.u1) (de_var 0 (pv 0)) (de_int)) (da_nil))))))))) (dss_one (ds_ret (de_bool))) (dss_nil)) (dss_cons (ds_if (DW.dt (dw_or (dt_not (dt_tru (de_callB (cg_all rfl) rfl T.m_all bt_all (da_cons (de_comp (own := [("wire", 2)]) rfl sc_is_equation.nd (di_seq (de_ix (ig_sub hr.u1) (de_var 0 (pv 0)) (de_int))) (show blkC ["datum", "wires", "wire", "number"] (defScope s_is_equation) _ _ = true by decide +kernel) (fun _ _ _ _ _ => dg_name (i := 2) (vs := [2]) sc_is_equation.nd rfl (.inl rfl) (by decide)) (fun _ _ _ _ _ => dts_nil) (fun _ _ _ _ _ => de_call (ok_is_wire T) (hr.mono (by decide)) rfl T.m_is_wire T.F_is_wire.kp T.b_is_wire (da_cons (de_var 2 (pv 2)) (da_cons (de_var 1 (pv 1)) (da_nil))))) (da_nil))))) (dw_or1 (dt_cmp (og_ne hr.u64) (de_ix (ig_sub hr.u1) (de_var 0 (pv 0)) (de_int)) (de_call (ok_ascending T) (hr.mono (by decide)) rfl T.m_ascending T.F_ascending.kp T.b_ascending (da_cons (de_ix (ig_sub hr.u1) (de_var 0 (pv 0)) (de_int)) (da_nil))))))) (dss_one (ds_ret (de_bool))) (dss_nil)) (dss_cons (ds_if (DW.dt (dw_or (dt_cmp og_gt (de_callB cg_len rfl T.m_len bt_len (da_cons (de_ix (ig_sub hr.u1) (de_var 0 (pv 0)) (de_int)) (da_nil))) (de_glob (v := .int 6) rfl T.m_MOST_WIRES ⟨_, rfl⟩ (fun _ _ => .int _))) (dw_or1 (dt_not (dt_tru (de_call (ok_is_tuple T) (hr.mono (by decide)) rfl T.m_is_tuple T.F_is_tuple.kp T.b_is_tuple (da_cons (de_ix (ig_sub hr.u1) (de_var 0 (pv 0)) (de_int)) (da_cons (de_callB cg_len rfl T.m_len bt_len (da_cons (de_ix (ig_sub hr.u1) (de_var 0 (pv 0)) (de_int)) (da_nil))) (da_nil))))))))) (dss_one (ds_ret (de_bool))) (dss_nil)) (dss_one (ds_ret (de_callB (cg_all rfl) rfl T.m_all bt_all (da_cons (de_comp (own := [("number", 3)]) rfl sc_is_equation.nd (di_seq (de_ix (ig_sub hr.u1) (de_var 0 (pv 0)) (de_int))) (show blkC ["datum", "wires", "wire", "number"] (defScope s_is_equation) _ _ = true by decide +kernel) (fun _ _ _ _ _ => dg_name (i := 3) (vs := [3]) sc_is_equation.nd rfl (.inl rfl) (by decide)) (fun _ _ _ _ _ => dts_nil) (fun _ _ _ _ _ => de_call (ok_is_integer T) (hr.mono (by decide)) rfl T.m_is_integer T.F_is_integer.kp T.b_is_integer (da_cons (de_var 3 (pv 3)) (da_nil)))) (da_nil)))))))
theorem ok_equation_form (T : Tx w K mg) : FnOk P w K mg base CX0 2 T.a_equation_form T.f_equation_form ["equation"] (spD K 1 d_equation_form) :=
  fn_d T.F_equation_form sc_equation_form fun cdv A outer s H E hr => dss_one (ds_ret (de_call (ok_form T) (hr.mono (by decide)) rfl T.m_form T.F_form.kp T.b_form (da_cons (de_ix (ig_sub hr.u1) (de_var 0 (pv 0)) (de_int)) (da_cons (de_comp (own := [("wire", 1), ("number", 2)]) rfl sc_equation_form.nd (di_zip rfl T.m_zip (da_cons (de_ix (ig_sub hr.u1) (de_var 0 (pv 0)) (de_int)) (da_cons (de_ix (ig_sub hr.u1) (de_var 0 (pv 0)) (de_int)) (da_nil)))) (show blkC ["equation", "wire", "number"] (defScope s_equation_form) _ _ = true by decide +kernel) (fun _ _ _ _ _ => dg_tup (is := [1, 2]) (vs := [1, 2]) rfl sc_equation_form.nd (.cons rfl (.inl rfl) (by first | exact .inl rfl | exact .inr rfl) (.cons rfl (.inl rfl) (by first | exact .inl rfl | exact .inr rfl) (.nil))) (by decide)) (fun _ _ _ _ _ => dts_nil) (fun _ _ _ _ _ => de_tup (da_cons (de_call (ok_wire_name T) (hr.mono (by decide)) rfl T.m_wire_name T.F_wire_name.kp T.b_wire_name (da_cons (de_var 1 (pv 1)) (da_nil))) (da_cons (de_var 2 (pv 2)) (da_nil))))) (da_nil)))))
theorem ok_holds_at (T : Tx w K mg) : FnOk P w K mg base CX0 1 T.a_holds_at T.f_holds_at ["clause", "signs"] (spD K 2 d_holds_at) :=
  fn_d T.F_holds_at sc_holds_at fun cdv A outer s H E hr => dss_one (ds_ret (de_or (de_callB (cg_any rfl) rfl T.m_any bt_any (da_cons (de_comp (own := [("wire", 2)]) rfl sc_holds_at.nd (di_seq (de_ix (ig_sub hr.u1) (de_var 0 (pv 0)) (de_int))) (show blkC ["clause", "signs", "wire"] (defScope s_holds_at) _ _ = true by decide +kernel) (fun _ _ _ _ _ => dg_name (i := 2) (vs := [2]) sc_holds_at.nd rfl (.inl rfl) (by decide)) (fun _ _ _ _ _ => dts_nil) (fun _ _ _ _ _ => de_ix (ig_sub hr.u1) (de_var 1 (pv 1)) (de_var 2 (pv 2)))) (da_nil))) (de_one (de_callB (cg_any rfl) rfl T.m_any bt_any (da_cons (de_comp (own := [("wire", 2)]) rfl sc_holds_at.nd (di_seq (de_ix (ig_sub hr.u1) (de_var 0 (pv 0)) (de_int))) (show blkC ["clause", "signs", "wire"] (defScope s_holds_at) _ _ = true by decide +kernel) (fun _ _ _ _ _ => dg_name (i := 2) (vs := [2]) sc_holds_at.nd rfl (.inl rfl) (by decide)) (fun _ _ _ _ _ => dts_nil) (fun _ _ _ _ _ => de_not (de_ix (ig_sub hr.u1) (de_var 1 (pv 1)) (de_var 2 (pv 2))))) (da_nil))))))
theorem ok_is_kept (T : Tx w K mg) : FnOk P w K mg base CX0 2 T.a_is_kept T.f_is_kept ["clauses", "equation"] (spD K 2 d_is_kept) :=
  fn_d T.F_is_kept sc_is_kept fun cdv A outer s H E hr => dss_cons (ds_asgT (de_var 1 (pv 1)) (dg_tup (is := [2, 3, 4]) (vs := [2, 3, 4]) rfl sc_is_kept.nd (.cons rfl (.inl rfl) (by first | exact .inl rfl | exact .inr rfl) (.cons rfl (.inl rfl) (by first | exact .inl rfl | exact .inr rfl) (.cons rfl (.inl rfl) (by first | exact .inl rfl | exact .inr rfl) (.nil)))) (by decide))) (dss_cons (ds_for PassesOwn.never rfl (di_range1 rfl T.m_range (da_cons (de_bin og_shl (de_int) (de_callB cg_len rfl T.m_len bt_len (da_cons (de_var 2 (pv 2)) (da_nil)))) (da_nil))) (dg_name (i := 5) (vs := [5]) sc_is_kept.nd rfl (.inr rfl) (by decide)) (dss_cons (ds_set (i := 6) sc_is_kept.nd rfl (.inr rfl) (de_dc (own := [("place", 8), ("wire", 9)]) rfl sc_is_kept.nd (di_enum rfl T.m_enumerate (de_var 2 (pv 2))) (show blkC ["clauses", "equation", "wires", "numbers", "constant", "row", "signs", "total", "place", "wire", "number", "clause"] (defScope s_is_kept) _ _ = true by decide +kernel) (fun _ _ _ _ _ => dg_tup (is := [8, 9]) (vs := [8, 9]) rfl sc_is_kept.nd (.cons rfl (.inl rfl) (by first | exact .inl rfl | exact .inr rfl) (.cons rfl (.inl rfl) (by first | exact .inl rfl | exact .inr rfl) (.nil))) (by decide)) (fun _ _ _ _ _ => dts_nil) (fun _ _ _ _ _ => de_var 9 (pv 9)) (fun _ _ _ _ _ => de_cmp (og_ne hr.u64) (de_bin og_and (de_var 5 (pv 5)) (de_bin og_shl (de_int) (de_var 8 (pv 8)))) (de_int)))) (dss_cons (ds_set (i := 7) sc_is_kept.nd rfl (.inl rfl) (de_bin og_add (de_var 4 (pv 4)) (de_callB (cg_sum rfl) rfl T.m_sum bt_sum (da_cons (de_comp (own := [("wire", 9), ("number", 10)]) rfl sc_is_kept.nd (di_zip rfl T.m_zip (da_cons (de_var 2 (pv 2)) (da_cons (de_var 3 (pv 3)) (da_nil)))) (show blkC ["clauses", "equation", "wires", "numbers", "constant", "row", "signs", "total", "place", "wire", "number", "clause"] (defScope s_is_kept) _ _ = true by decide +kernel) (fun _ _ _ _ _ => dg_tup (is := [9, 10]) (vs := [9, 10]) rfl sc_is_kept.nd (.cons rfl (.inl rfl) (by first | exact .inl rfl | exact .inr rfl) (.cons rfl (.inl rfl) (by first | exact .inl rfl | exact .inr rfl) (.nil))) (by decide)) (fun _ _ _ _ _ => dts_one (dt_tru (de_ix (ig_sub hr.u1) (de_var 6 (pv 6)) (de_var 9 (pv 9))))) (fun _ _ _ _ _ => de_var 10 (pv 10))) (da_nil))))) (dss_one (ds_if (DW.dt (dw_and (dt_cmp (og_ne hr.u64) (de_var 7 (pv 7)) (de_int)) (dw_and (dt_tru (de_get2 hr.u1 (de_var 6 (pv 6)) (de_int) (de_bool) ⟨rfl, rfl, rfl, rfl⟩)) (dw_and1 (dt_tru (de_callB (cg_all rfl) rfl T.m_all bt_all (da_cons (de_comp (own := [("clause", 11)]) rfl sc_is_kept.nd (di_seq (de_var 0 (pv 0))) (show blkC ["clauses", "equation", "wires", "numbers", "constant", "row", "signs", "total", "place", "wire", "number", "clause"] (defScope s_is_kept) _ _ = true by decide +kernel) (fun _ _ _ _ _ => dg_name (i := 11) (vs := [11]) sc_is_kept.nd rfl (.inl rfl) (by decide)) (fun _ _ _ _ _ => dts_nil) (fun _ _ _ _ _ => de_call (ok_holds_at T) (hr.mono (by decide)) rfl T.m_holds_at T.F_holds_at.kp T.b_holds_at (da_cons (de_var 11 (pv 11)) (da_cons (de_var 6 (pv 6)) (da_nil))))) (da_nil)))))))) (dss_one (ds_ret (de_bool))) (dss_nil)))))) (dss_one (ds_ret (de_bool))))
theorem ok__law_start (T : Tx w K mg) : FnOk P w K mg base CX0 1 T.a__law_start T.f__law_start ["script"] (spD K 1 d__law_start) :=
  fn_d T.F__law_start sc__law_start fun cdv A outer s H E hr => dss_one (ds_ret (de_lst (da_cons (de_callTy cg_list rfl T.m_list bt_list (da_cons (de_var 0 (pv 0)) (da_nil))) (da_cons (de_int) (da_cons (de_int) (da_cons (de_int) (da_nil)))))))
theorem ok__law_draw (T : Tx w K mg) : FnOk P w K mg base CX0 1 T.a__law_draw T.f__law_draw ["state", "most"] (spD K 2 d__law_draw) :=
  fn_d T.F__law_draw sc__law_draw fun cdv A outer s H E hr => dss_cons (ds_setSub hr.u1 (de_var 0 (pv 0)) (de_int) (de_bin og_add (de_ix (ig_sub hr.u1) (de_var 0 (pv 0)) (de_int)) (de_int))) (dss_cons (ds_if (dt_cmp og_gt (de_ix (ig_sub hr.u1) (de_var 0 (pv 0)) (de_int)) (de_int)) (dss_cons (ds_set (i := 2) sc__law_draw.nd rfl (.inl rfl) (de_bin og_mod (de_callTy cg_int rfl T.m_int bt_int (da_cons (de_ix (ig_sub hr.u1) (de_var 0 (pv 0)) (de_int)) (da_nil))) (de_var 1 (pv 1)))) (dss_cons (ds_setSub hr.u1 (de_var 0 (pv 0)) (de_int) (de_bin og_div (de_ix (ig_sub hr.u1) (de_var 0 (pv 0)) (de_int)) (de_var 1 (pv 1)))) (dss_one (ds_ret (de_var 2 (pv 2)))))) (dss_nil)) (dss_cons (ds_set (i := 3) sc__law_draw.nd rfl (.inl rfl) (de_int)) (dss_cons (ds_if (dt_cmp og_gt (de_callB cg_len rfl T.m_len bt_len (da_cons (de_ix (ig_sub hr.u1) (de_var 0 (pv 0)) (de_int)) (da_nil))) (de_int)) (dss_one (ds_set (i := 3) sc__law_draw.nd rfl (.inl rfl) (de_callB cg_abs rfl T.m_abs bt_abs (da_cons (de_ix (ig_sub hr.u1) (de_ix (ig_sub hr.u1) (de_var 0 (pv 0)) (de_int)) (de_bin og_mod (de_callTy cg_int rfl T.m_int bt_int (da_cons (de_ix (ig_sub hr.u1) (de_var 0 (pv 0)) (de_int)) (da_nil))) (de_callB cg_len rfl T.m_len bt_len (da_cons (de_ix (ig_sub hr.u1) (de_var 0 (pv 0)) (de_int)) (da_nil))))) (da_nil))))) (dss_nil)) (dss_cons (ds_setSub hr.u1 (de_var 0 (pv 0)) (de_int) (de_bin og_add (de_ix (ig_sub hr.u1) (de_var 0 (pv 0)) (de_int)) (de_int))) (dss_cons (ds_if (dt_cmp og_ge (de_var 3 (pv 3)) (de_bin og_pow (de_int) (de_int))) (dss_cons (ds_setSub hr.u1 (de_var 0 (pv 0)) (de_int) (de_bin og_div (de_var 3 (pv 3)) (de_var 1 (pv 1)))) (dss_one (ds_ret (de_bin og_mod (de_callTy cg_int rfl T.m_int bt_int (da_cons (de_var 3 (pv 3)) (da_nil))) (de_var 1 (pv 1)))))) (dss_nil)) (dss_cons (ds_set (i := 4) sc__law_draw.nd rfl (.inl rfl) (de_bin og_mod (de_callTy cg_int rfl T.m_int bt_int (da_cons (de_bin og_add (de_bin og_mul (de_bin og_add (de_var 3 (pv 3)) (de_int)) (de_int)) (de_bin og_mul (de_ix (ig_sub hr.u1) (de_var 0 (pv 0)) (de_int)) (de_int))) (da_nil))) (de_int))) (dss_cons (ds_set (i := 4) sc__law_draw.nd rfl (.inl rfl) (de_bin og_mod (de_callTy cg_int rfl T.m_int bt_int (da_cons (de_bin og_add (de_bin og_add (de_bin og_mul (de_var 4 (pv 4)) (de_int)) (de_bin og_div (de_var 3 (pv 3)) (de_int))) (de_ix (ig_sub hr.u1) (de_var 0 (pv 0)) (de_int))) (da_nil))) (de_int))) (dss_one (ds_ret (de_bin og_mod (de_bin og_div (de_var 4 (pv 4)) (de_int)) (de_var 1 (pv 1))))))))))))
theorem ok__law_one_of (T : Tx w K mg) : FnOk P w K mg base CX0 2 T.a__law_one_of T.f__law_one_of ["state", "items"] (spD K 2 d__law_one_of) :=
  fn_d T.F__law_one_of sc__law_one_of fun cdv A outer s H E hr => dss_one (ds_ret (de_ix (ig_sub hr.u1) (de_var 1 (pv 1)) (de_call (ok__law_draw T) (hr.mono (by decide)) rfl T.m__law_draw T.F__law_draw.kp T.b__law_draw (da_cons (de_var 0 (pv 0)) (da_cons (de_callB cg_len rfl T.m_len bt_len (da_cons (de_var 1 (pv 1)) (da_nil))) (da_nil))))))
theorem ok__law_shuffled (T : Tx w K mg) : FnOk P w K mg base CX0 2 T.a__law_shuffled T.f__law_shuffled ["state", "items"] (spD K 2 d__law_shuffled) :=
  fn_d T.F__law_shuffled sc__law_shuffled fun cdv A outer s H E hr => dss_cons (ds_setM (i := 2) sc__law_shuffled.nd rfl (.inl rfl) (de_lst (da_nil))) (dss_cons (ds_for PassesOwn.never rfl (di_seq (de_var 1 (pv 1))) (dg_name (i := 3) (vs := [3]) sc__law_shuffled.nd rfl (.inl rfl) (by decide)) (dss_one (ds_insert (de_var 2 (pv 2)) (de_call (ok__law_draw T) (hr.mono (by decide)) rfl T.m__law_draw T.F__law_draw.kp T.b__law_draw (da_cons (de_var 0 (pv 0)) (da_cons (de_bin og_add (de_callB cg_len rfl T.m_len bt_len (da_cons (de_var 2 (pv 2)) (da_nil))) (de_int)) (da_nil)))) (de_var 3 (pv 3))))) (dss_one (ds_ret (de_var 2 (pv 2)))))
theorem ok__law_is_int (T : Tx w K mg) : FnOk P w K mg base CX0 1 T.a__law_is_int T.f__law_is_int ["x"] (spD K 1 d__law_is_int) :=
  fn_d T.F__law_is_int sc__law_is_int fun cdv A outer s H E hr => dss_one (ds_ret (de_and (de_isi rfl T.m_isinstance bt_isinstance kit_int rfl T.m_int bt_int (de_var 0 (pv 0))) (de_one (de_not (de_isi rfl T.m_isinstance bt_isinstance kit_bool rfl T.m_bool bt_bool (de_var 0 (pv 0)))))))
theorem ok__law_same (T : Tx w K mg) : ∀ N : Nat, FnOk P w K mg base CX0 (1 + N) T.a__law_same T.f__law_same ["x", "y"] (spD K 2 (d__law_same N))
  | 0 => FnOk.mono (fn_stuck (ps := ["x", "y"])) (Nat.zero_le _)
  | N + 1 => by
    have ih := ok__law_same T N
    exact fn_d T.F__law_same sc__law_same fun cdv A outer s H E hr => dss_cons (ds_if (dt_tru (de_isi rfl T.m_isinstance bt_isinstance kit_tup rfl T.m_tuple bt_tuple (de_var 1 (pv 1)))) (dss_cons (ds_if (DW.dt (dw_or (dt_not (dt_tru (de_isi rfl T.m_isinstance bt_isinstance kit_tup rfl T.m_tuple bt_tuple (de_var 0 (pv 0))))) (dw_or1 (dt_cmp (og_ne hr.u64) (de_callB cg_len rfl T.m_len bt_len (da_cons (de_var 0 (pv 0)) (da_nil))) (de_callB cg_len rfl T.m_len bt_len (da_cons (de_var 1 (pv 1)) (da_nil))))))) (dss_one (ds_ret (de_bool))) (dss_nil)) (dss_one (ds_ret (de_callB (cg_all rfl) rfl T.m_all bt_all (da_cons (de_comp (own := [("k", 2)]) rfl sc__law_same.nd (di_range1 rfl T.m_range (da_cons (de_callB cg_len rfl T.m_len bt_len (da_cons (de_var 1 (pv 1)) (da_nil))) (da_nil))) (show blkC ["x", "y", "k"] (defScope s__law_same) _ _ = true by decide +kernel) (fun _ _ _ _ _ => dg_name (i := 2) (vs := [2]) sc__law_same.nd rfl (.inl rfl) (by decide)) (fun _ _ _ _ _ => dts_nil) (fun _ _ _ _ _ => de_call ih hr rfl T.m__law_same T.F__law_same.kp T.b__law_same (da_cons (de_ix (ig_sub hr.u1) (de_var 0 (pv 0)) (de_var 2 (pv 2))) (da_cons (de_ix (ig_sub hr.u1) (de_var 1 (pv 1)) (de_var 2 (pv 2))) (da_nil))))) (da_nil)))))) (dss_nil)) (dss_cons (ds_if (dt_tru (de_isi rfl T.m_isinstance bt_isinstance kit_str rfl T.m_str bt_str (de_var 1 (pv 1)))) (dss_one (ds_ret (de_and (de_isi rfl T.m_isinstance bt_isinstance kit_str rfl T.m_str bt_str (de_var 0 (pv 0))) (de_one (de_cmp (og_eq hr.u64) (de_var 0 (pv 0)) (de_var 1 (pv 1))))))) (dss_nil)) (dss_one (ds_ret (de_and (de_call (ok__law_is_int T) (hr.mono (Nat.le_trans (by decide : 1 ≤ 1) (Nat.le_add_right 1 N))) rfl T.m__law_is_int T.F__law_is_int.kp T.b__law_is_int (da_cons (de_var 0 (pv 0)) (da_nil))) (de_one (de_cmp (og_eq hr.u64) (de_var 0 (pv 0)) (de_var 1 (pv 1))))))))
theorem ok__law_table (T : Tx w K mg) : FnOk P w K mg base CX0 1 T.a__law_table T.f__law_table ["kind", "row"] (spD K 2 d__law_table) :=
  fn_d T.F__law_table sc__law_table fun cdv A outer s H E hr => dss_cons (ds_set (i := 2) sc__law_table.nd rfl (.inl rfl) (de_callB (cg_sum rfl) rfl T.m_sum bt_sum (da_cons (de_var 1 (pv 1)) (da_nil)))) (dss_cons (ds_if (dt_cmp (og_eq hr.u64) (de_var 0 (pv 0)) (de_str)) (dss_one (ds_ret (de_tup (da_cons (de_bin og_sub (de_int) (de_var 2 (pv 2))) (da_nil))))) (dss_nil)) (dss_cons (ds_if (dt_cmp (og_eq hr.u64) (de_var 0 (pv 0)) (de_str)) (dss_one (ds_ret (de_tup (da_cons (de_callTy cg_int rfl T.m_int bt_int (da_cons (de_cmp (og_eq hr.u64) (de_var 2 (pv 2)) (de_int)) (da_nil))) (da_nil))))) (dss_nil)) (dss_cons (ds_if (dt_cmp (og_eq hr.u64) (de_var 0 (pv 0)) (de_str)) (dss_one (ds_ret (de_tup (da_cons (de_callTy cg_int rfl T.m_int bt_int (da_cons (de_cmp og_gt (de_var 2 (pv 2)) (de_int)) (da_nil))) (da_nil))))) (dss_nil)) (dss_cons (ds_if (dt_cmp (og_in2 hr.u1 hr.u65) (de_var 0 (pv 0)) (de_lst (da_cons (de_str) (da_cons (de_str) (da_nil))))) (dss_one (ds_ret (de_tup (da_cons (de_callTy cg_int rfl T.m_int bt_int (da_cons (de_cmp (og_eq hr.u64) (de_cmp (og_eq hr.u64) (de_var 2 (pv 2)) (de_int)) (de_cmp (og_eq hr.u64) (de_var 0 (pv 0)) (de_str))) (da_nil))) (da_nil))))) (dss_nil)) (dss_cons (ds_if (dt_cmp (og_eq hr.u64) (de_var 0 (pv 0)) (de_str)) (dss_one (ds_ret (de_tup (da_cons (de_bin og_and (de_var 2 (pv 2)) (de_int)) (da_cons (de_bin og_shr (de_var 2 (pv 2)) (de_int)) (da_nil)))))) (dss_nil)) (dss_cons (ds_set (i := 2) sc__law_table.nd rfl (.inl rfl) (de_bin og_sub (de_bin og_sub (de_ix (ig_sub hr.u1) (de_var 1 (pv 1)) (de_int)) (de_ix (ig_sub hr.u1) (de_var 1 (pv 1)) (de_int))) (de_ix (ig_sub hr.u1) (de_var 1 (pv 1)) (de_int)))) (dss_one (ds_ret (de_tup (da_cons (de_bin og_and (de_var 2 (pv 2)) (de_int)) (da_cons (de_callTy cg_int rfl T.m_int bt_int (da_cons (de_cmp og_lt (de_var 2 (pv 2)) (de_int)) (da_nil))) (da_nil))))))))))))
theorem ok__law_clause (T : Tx w K mg) : FnOk P w K mg base CX0 1 T.a__law_clause T.f__law_clause ["pairs"] (spD K 1 d__law_clause) :=
  fn_d T.F__law_clause sc__law_clause fun cdv A outer s H E hr => dss_cons (ds_set (i := 1) sc__law_clause.nd rfl (.inl rfl) (de_sortSet2 rfl rfl T.m_sorted bt_sorted rfl T.m_set bt_set (da_cons (de_comp (own := [("wire", 2), ("sign", 3)]) rfl sc__law_clause.nd (di_seq (de_var 0 (pv 0))) (show blkC ["pairs", "yes", "wire", "sign"] (defScope s__law_clause) _ _ = true by decide +kernel) (fun _ _ _ _ _ => dg_tup (is := [2, 3]) (vs := [2, 3]) rfl sc__law_clause.nd (.cons rfl (.inl rfl) (by first | exact .inl rfl | exact .inr rfl) (.cons rfl (.inl rfl) (by first | exact .inl rfl | exact .inr rfl) (.nil))) (by decide)) (fun _ _ _ _ _ => dts_one (dt_tru (de_var 3 (pv 3)))) (fun _ _ _ _ _ => de_var 2 (pv 2))) (da_nil)))) (dss_one (ds_ret (de_tup (da_cons (de_callTy cg_tuple rfl T.m_tuple bt_tuple (da_cons (de_var 1 (pv 1)) (da_nil))) (da_cons (de_callTy cg_tuple rfl T.m_tuple bt_tuple (da_cons (de_sortSet2 rfl rfl T.m_sorted bt_sorted rfl T.m_set bt_set (da_cons (de_comp (own := [("wire", 2), ("sign", 3)]) rfl sc__law_clause.nd (di_seq (de_var 0 (pv 0))) (show blkC ["pairs", "yes", "wire", "sign"] (defScope s__law_clause) _ _ = true by decide +kernel) (fun _ _ _ _ _ => dg_tup (is := [2, 3]) (vs := [2, 3]) rfl sc__law_clause.nd (.cons rfl (.inl rfl) (by first | exact .inl rfl | exact .inr rfl) (.cons rfl (.inl rfl) (by first | exact .inl rfl | exact .inr rfl) (.nil))) (by decide)) (fun _ _ _ _ _ => dts_one (dt_not (dt_tru (de_var 3 (pv 3))))) (fun _ _ _ _ _ => de_var 2 (pv 2))) (da_nil))) (da_nil))) (da_nil))))))
theorem ok__law_wants (T : Tx w K mg) : FnOk P w K mg base CX0 2 T.a__law_wants T.f__law_wants ["cell"] (spD K 1 d__law_wants) :=
  fn_d T.F__law_wants sc__law_wants fun cdv A outer s H E hr => dss_cons (ds_asgT (de_var 0 (pv 0)) (dg_tup (is := [1, 2, 3]) (vs := [1, 2, 3]) rfl sc__law_wants.nd (.cons rfl (.inl rfl) (by first | exact .inl rfl | exact .inr rfl) (.cons rfl (.inl rfl) (by first | exact .inl rfl | exact .inr rfl) (.cons rfl (.inl rfl) (by first | exact .inl rfl | exact .inr rfl) (.nil)))) (by decide))) (dss_cons (ds_setM (i := 4) sc__law_wants.nd rfl (.inl rfl) (de_lst (da_nil))) (dss_cons (ds_for PassesOwn.never rfl (di_range1 rfl T.m_range (da_cons (de_bin og_shl (de_int) (de_callB cg_len rfl T.m_len bt_len (da_cons (de_var 2 (pv 2)) (da_nil)))) (da_nil))) (dg_name (i := 5) (vs := [5]) sc__law_wants.nd rfl (.inr rfl) (by decide)) (dss_cons (ds_setC (i := 6) (own := [("at", 9)]) rfl sc__law_wants.nd rfl rfl (sw_true rfl rfl rfl (by decide +kernel)) (di_range1 rfl T.m_range (da_cons (de_callB cg_len rfl T.m_len bt_len (da_cons (de_var 2 (pv 2)) (da_nil))) (da_nil))) (show blkC ["cell", "kind", "ins", "outs", "found", "number", "row", "signs", "fits", "at", "lost", "told", "wire"] (defScope s__law_wants) _ _ = true by decide +kernel) (fun _ _ _ _ _ => dg_name (i := 9) (vs := [9]) sc__law_wants.nd rfl (.inl rfl) (by decide)) (fun _ _ _ _ _ => dts_nil) (fun _ _ _ _ _ => de_bin og_and (de_bin og_shr (de_var 5 (pv 5)) (de_var 9 (pv 9))) (de_int))) (dss_cons (ds_setM (i := 7) sc__law_wants.nd rfl (.inr rfl) (de_disp (dps_cons (de_int) (de_int) (dps_nil)))) (dss_cons (ds_set (i := 8) sc__law_wants.nd rfl (.inl rfl) (de_bool)) (dss_cons (ds_for PassesOwn.never rfl (di_range1 rfl T.m_range (da_cons (de_callB cg_len rfl T.m_len bt_len (da_cons (de_var 2 (pv 2)) (da_nil))) (da_nil))) (dg_name (i := 9) (vs := [9]) sc__law_wants.nd rfl (.inl rfl) (by decide)) (dss_cons (ds_if (dt_cmp (og_ne hr.u64) (de_get2 hr.u1 (de_var 7 (pv 7)) (de_ix (ig_sub hr.u1) (de_var 2 (pv 2)) (de_var 9 (pv 9))) (de_ix (ig_sub hr.u1) (de_var 6 (pv 6)) (de_var 9 (pv 9))) ⟨rfl, rfl, rfl, rfl⟩) (de_ix (ig_sub hr.u1) (de_var 6 (pv 6)) (de_var 9 (pv 9)))) (dss_one (ds_set (i := 8) sc__law_wants.nd rfl (.inl rfl) (de_bool))) (dss_nil)) (dss_one (ds_setSub hr.u1 (de_var 7 (pv 7)) (de_ix (ig_sub hr.u1) (de_var 2 (pv 2)) (de_var 9 (pv 9))) (de_ix (ig_sub hr.u1) (de_var 6 (pv 6)) (de_var 9 (pv 9))))))) (dss_cons (ds_setCL (i := 10) (l := 7) (own := [("wire", 12)]) rfl sc__law_wants.nd rfl rfl (sw_true rfl rfl rfl (by decide +kernel)) (di_keys (de_var 7 (pv 7))) (show blkC ["cell", "kind", "ins", "outs", "found", "number", "row", "signs", "fits", "at", "lost", "told", "wire"] (defScope s__law_wants) _ _ = true by decide +kernel) (fun _ _ _ _ _ => dg_name (i := 12) (vs := [12]) sc__law_wants.nd rfl (.inl rfl) (by decide)) (fun _ _ _ _ _ => dts_one (dt_cmp (og_ne hr.u64) (de_var 12 (pv 12)) (de_int))) (fun _ _ _ _ _ => de_tup (da_cons (de_var 12 (pv 12)) (da_cons (de_cmp (og_eq hr.u64) (de_ix (ig_sub hr.u1) (de_var 7 (pv 7)) (de_var 12 (pv 12))) (de_int)) (da_nil))))) (dss_one (ds_if (dt_tru (de_var 8 (pv 8))) (dss_cons (ds_set (i := 11) sc__law_wants.nd rfl (.inl rfl) (de_call (ok__law_table T) (hr.mono (by decide)) rfl T.m__law_table T.F__law_table.kp T.b__law_table (da_cons (de_var 1 (pv 1)) (da_cons (de_var 6 (pv 6)) (da_nil))))) (dss_one (ds_for PassesOwn.never rfl (di_range1 rfl T.m_range (da_cons (de_callB cg_len rfl T.m_len bt_len (da_cons (de_var 3 (pv 3)) (da_nil))) (da_nil))) (dg_name (i := 9) (vs := [9]) sc__law_wants.nd rfl (.inl rfl) (by decide)) (dss_one (ds_append (de_var 4 (pv 4)) (de_call (ok__law_clause T) (hr.mono (by decide)) rfl T.m__law_clause T.F__law_clause.kp T.b__law_clause (da_cons (de_bin og_add (de_var 10 (pv 10)) (de_lst (da_cons (de_tup (da_cons (de_ix (ig_sub hr.u1) (de_var 3 (pv 3)) (de_var 9 (pv 9))) (da_cons (de_cmp (og_eq hr.u64) (de_ix (ig_sub hr.u1) (de_var 11 (pv 11)) (de_var 9 (pv 9))) (de_int)) (da_nil)))) (da_nil)))) (da_nil)))))))) (dss_nil))))))))) (dss_one (ds_ret (de_var 4 (pv 4))))))
theorem ok__law_slice (T : Tx w K mg) : FnOk P w K mg base CX0 3 T.a__law_slice T.f__law_slice ["state"] (spD K 1 d__law_slice) :=
  fn_d T.F__law_slice sc__law_slice fun cdv A outer s H E hr => dss_cons (ds_set (i := 1) sc__law_slice.nd rfl (.inl rfl) (de_sl (de_call (ok__law_shuffled T) (hr.mono (by decide)) rfl T.m__law_shuffled T.F__law_shuffled.kp T.b__law_shuffled (da_cons (de_var 0 (pv 0)) (da_cons (de_listRg2 rfl rfl T.m_list rfl T.m_range (de_int) (de_int)) (da_nil)))) (do_none) (do_some (de_int)))) (dss_cons (ds_set (i := 2) sc__law_slice.nd rfl (.inl rfl) (de_ix (ig_sub hr.u1) (de_lst (da_cons (de_str) (da_cons (de_str) (da_nil)))) (de_call (ok__law_draw T) (hr.mono (by decide)) rfl T.m__law_draw T.F__law_draw.kp T.b__law_draw (da_cons (de_var 0 (pv 0)) (da_cons (de_int) (da_nil)))))) (dss_cons (ds_set (i := 3) sc__law_slice.nd rfl (.inl rfl) (de_ix (ig_sub hr.u1) (de_disp (dps_cons (de_str) (de_lst (da_cons (de_int) (da_cons (de_int) (da_cons (de_un ug_neg (de_int)) (da_cons (de_un ug_neg (de_int)) (da_cons (de_un ug_neg (de_int)) (da_nil))))))) (dps_cons (de_str) (de_lst (da_cons (de_int) (da_cons (de_un ug_neg (de_int)) (da_cons (de_un ug_neg (de_int)) (da_cons (de_int) (da_cons (de_int) (da_nil))))))) (dps_nil)))) (de_var 2 (pv 2)))) (dss_cons (ds_setM (i := 4) sc__law_slice.nd rfl (.inr rfl) (de_dnew)) (dss_cons (ds_for PassesOwn.never rfl (di_range1 rfl T.m_range (da_cons (de_int) (da_nil))) (dg_name (i := 5) (vs := [5]) sc__law_slice.nd rfl (.inl rfl) (by decide)) (dss_one (ds_setSub hr.u1 (de_var 4 (pv 4)) (de_ix (ig_sub hr.u1) (de_var 1 (pv 1)) (de_var 5 (pv 5))) (de_ix (ig_sub hr.u1) (de_var 3 (pv 3)) (de_var 5 (pv 5)))))) (dss_cons (ds_set (i := 6) sc__law_slice.nd rfl (.inl rfl) (de_tup (da_cons (de_callTy cg_tuple rfl T.m_tuple bt_tuple (da_cons (de_callBW (cw_sorted rfl) rfl T.m_sorted bt_sorted (da_cons (de_var 1 (pv 1)) (da_nil))) (da_nil))) (da_cons (de_callTy cg_tuple rfl T.m_tuple bt_tuple (da_cons (de_comp (own := [("wire", 7)]) rfl sc__law_slice.nd (di_seq (de_callBW (cw_sorted rfl) rfl T.m_sorted bt_sorted (da_cons (de_var 1 (pv 1)) (da_nil)))) (show blkC ["state", "some", "kind", "numbers", "table", "at", "due", "wire"] (defScope s__law_slice) _ _ = true by decide +kernel) (fun _ _ _ _ _ => dg_name (i := 7) (vs := [7]) sc__law_slice.nd rfl (.inl rfl) (by decide)) (fun _ _ _ _ _ => dts_nil) (fun _ _ _ _ _ => de_ix (ig_sub hr.u1) (de_var 4 (pv 4)) (de_var 7 (pv 7)))) (da_nil))) (da_cons (de_int) (da_nil)))))) (dss_one (ds_ret (de_tup (da_cons (de_tup (da_cons (de_var 2 (pv 2)) (da_cons (de_callTy cg_tuple rfl T.m_tuple bt_tuple (da_cons (de_sl (de_var 1 (pv 1)) (do_some (de_int)) (do_none)) (da_nil))) (da_cons (de_callTy cg_tuple rfl T.m_tuple bt_tuple (da_cons (de_sl (de_var 1 (pv 1)) (do_none) (do_some (de_int))) (da_nil))) (da_nil))))) (da_cons (de_var 6 (pv 6)) (da_nil)))))))))))
theorem ok__law_other_cell (T : Tx w K mg) : FnOk P w K mg base CX0 3 T.a__law_other_cell T.f__law_other_cell ["state"] (spD K 1 d__law_other_cell) :=
  fn_d T.F__law_other_cell sc__law_other_cell fun cdv A outer s H E hr => dss_cons (ds_set (i := 1) sc__law_other_cell.nd rfl (.inl rfl) (de_call (ok__law_one_of T) (hr.mono (by decide)) rfl T.m__law_one_of T.F__law_one_of.kp T.b__law_one_of (da_cons (de_var 0 (pv 0)) (da_cons (de_lst (da_cons (de_str) (da_cons (de_str) (da_cons (de_str) (da_cons (de_str) (da_cons (de_str) (da_nil))))))) (da_nil))))) (dss_cons (ds_set (i := 2) sc__law_other_cell.nd rfl (.inl rfl) (de_callTy cg_tuple rfl T.m_tuple bt_tuple (da_cons (de_comp (own := [("at", 3)]) rfl sc__law_other_cell.nd (di_range1 rfl T.m_range (da_cons (de_ix (ig_sub hr.u1) (de_lst (da_cons (de_int) (da_cons (de_int) (da_nil)))) (de_callTy cg_int rfl T.m_int bt_int (da_cons (de_cmp (og_eq hr.u64) (de_var 1 (pv 1)) (de_str)) (da_nil)))) (da_nil))) (show blkC ["state", "kind", "ins", "at"] (defScope s__law_other_cell) _ _ = true by decide +kernel) (fun _ _ _ _ _ => dg_name (i := 3) (vs := [3]) sc__law_other_cell.nd rfl (.inl rfl) (by decide)) (fun _ _ _ _ _ => dts_nil) (fun _ _ _ _ _ => de_call (ok__law_draw T) (hr.mono (by decide)) rfl T.m__law_draw T.F__law_draw.kp T.b__law_draw (da_cons (de_var 0 (pv 0)) (da_cons (de_int) (da_nil))))) (da_nil)))) (dss_one (ds_ret (de_tup (da_cons (de_var 1 (pv 1)) (da_cons (de_var 2 (pv 2)) (da_cons (de_tup (da_cons (de_bin og_add (de_int) (de_call (ok__law_draw T) (hr.mono (by decide)) rfl T.m__law_draw T.F__law_draw.kp T.b__law_draw (da_cons (de_var 0 (pv 0)) (da_cons (de_int) (da_nil))))) (da_nil))) (da_nil))))))))
theorem ok__law_form_of (T : Tx w K mg) : FnOk P w K mg base CX0 1 T.a__law_form_of T.f__law_form_of ["equation"] (spD K 1 d__law_form_of) :=
  fn_d T.F__law_form_of sc__law_form_of fun cdv A outer s H E hr => dss_cons (ds_setM (i := 1) sc__law_form_of.nd rfl (.inr rfl) (de_dnew)) (dss_cons (ds_for PassesOwn.never rfl (di_range1 rfl T.m_range (da_cons (de_callB cg_len rfl T.m_len bt_len (da_cons (de_ix (ig_sub hr.u1) (de_var 0 (pv 0)) (de_int)) (da_nil))) (da_nil))) (dg_name (i := 2) (vs := [2]) sc__law_form_of.nd rfl (.inl rfl) (by decide)) (dss_one (ds_setSub hr.u1 (de_var 1 (pv 1)) (de_bin og_add (de_str) (de_callTy cg_str rfl T.m_str bt_str (da_cons (de_ix (ig_sub hr.u1) (de_ix (ig_sub hr.u1) (de_var 0 (pv 0)) (de_int)) (de_var 2 (pv 2))) (da_nil)))) (de_ix (ig_sub hr.u1) (de_ix (ig_sub hr.u1) (de_var 0 (pv 0)) (de_int)) (de_var 2 (pv 2)))))) (dss_one (ds_ret (de_tup (da_cons (de_ix (ig_sub hr.u1) (de_var 0 (pv 0)) (de_int)) (da_cons (de_callTy cg_tuple rfl T.m_tuple bt_tuple (da_cons (de_comp (own := [("x", 3)]) rfl sc__law_form_of.nd (di_seq (de_callBW (cw_sorted rfl) rfl T.m_sorted bt_sorted (da_cons (de_var 1 (pv 1)) (da_nil)))) (show blkC ["equation", "pairs", "at", "x"] (defScope s__law_form_of) _ _ = true by decide +kernel) (fun _ _ _ _ _ => dg_name (i := 3) (vs := [3]) sc__law_form_of.nd rfl (.inl rfl) (by decide)) (fun _ _ _ _ _ => dts_one (dt_cmp (og_ne hr.u64) (de_ix (ig_sub hr.u1) (de_var 1 (pv 1)) (de_var 3 (pv 3))) (de_int))) (fun _ _ _ _ _ => de_tup (da_cons (de_var 3 (pv 3)) (da_cons (de_ix (ig_sub hr.u1) (de_var 1 (pv 1)) (de_var 3 (pv 3))) (da_nil))))) (da_nil))) (da_nil)))))))
theorem ok__law_slice_fits (T : Tx w K mg) : FnOk P w K mg base CX0 6 T.a__law_slice_fits T.f__law_slice_fits ["state", "cell", "due"] (spD K 3 d__law_slice_fits) :=
  fn_d T.F__law_slice_fits sc__law_slice_fits fun cdv A outer s H E hr => dss_cons (ds_set (i := 3) sc__law_slice_fits.nd rfl (.inl rfl) (de_call (ok_cell_wants T) (hr.mono (by decide)) rfl T.m_cell_wants T.F_cell_wants.kp T.b_cell_wants (da_cons (de_var 1 (pv 1)) (da_nil)))) (dss_cons (ds_if (DW.dt (dw_or (dt_not (dt_tru (de_call (ok__law_same T 4) (hr.mono (by decide)) rfl T.m__law_same T.F__law_same.kp T.b__law_same (da_cons (de_callTy cg_tuple rfl T.m_tuple bt_tuple (da_cons (de_call (ok_cell_equations T) (hr.mono (by decide)) rfl T.m_cell_equations T.F_cell_equations.kp T.b_cell_equations (da_cons (de_var 1 (pv 1)) (da_nil))) (da_nil))) (da_cons (de_tup (da_cons (de_var 2 (pv 2)) (da_nil))) (da_nil)))))) (dw_or1 (dt_cmp og_isnot (de_call (ok_is_equation T) (hr.mono (by decide)) rfl T.m_is_equation T.F_is_equation.kp T.b_is_equation (da_cons (de_var 2 (pv 2)) (da_cons (de_int) (da_nil)))) (de_bool))))) (dss_one (ds_ret (de_bool))) (dss_nil)) (dss_cons (ds_if (DW.dt (dw_or (dt_not (dt_tru (de_call (ok__law_same T 4) (hr.mono (by decide)) rfl T.m__law_same T.F__law_same.kp T.b__law_same (da_cons (de_call (ok_equation_form T) (hr.mono (by decide)) rfl T.m_equation_form T.F_equation_form.kp T.b_equation_form (da_cons (de_var 2 (pv 2)) (da_nil))) (da_cons (de_call (ok__law_form_of T) (hr.mono (by decide)) rfl T.m__law_form_of T.F__law_form_of.kp T.b__law_form_of (da_cons (de_var 2 (pv 2)) (da_nil))) (da_nil)))))) (dw_or1 (dt_cmp og_isnot (de_call (ok_is_kept T) (hr.mono (by decide)) rfl T.m_is_kept T.F_is_kept.kp T.b_is_kept (da_cons (de_var 3 (pv 3)) (da_cons (de_var 2 (pv 2)) (da_nil)))) (de_bool))))) (dss_one (ds_ret (de_bool))) (dss_nil)) (dss_cons (ds_set (i := 4) sc__law_slice_fits.nd rfl (.inl rfl) (de_call (ok__law_draw T) (hr.mono (by decide)) rfl T.m__law_draw T.F__law_draw.kp T.b__law_draw (da_cons (de_var 0 (pv 0)) (da_cons (de_callB cg_len rfl T.m_len bt_len (da_cons (de_var 3 (pv 3)) (da_nil))) (da_nil))))) (dss_cons (ds_if (dt_cmp og_isnot (de_call (ok_is_kept T) (hr.mono (by decide)) rfl T.m_is_kept T.F_is_kept.kp T.b_is_kept (da_cons (de_bin og_add (de_sl (de_var 3 (pv 3)) (do_none) (do_some (de_var 4 (pv 4)))) (de_sl (de_var 3 (pv 3)) (do_some (de_bin og_add (de_var 4 (pv 4)) (de_int))) (do_none))) (da_cons (de_var 2 (pv 2)) (da_nil)))) (de_bool)) (dss_one (ds_ret (de_bool))) (dss_nil)) (dss_cons (ds_asgT (de_var 2 (pv 2)) (dg_tup (is := [5, 6, 7]) (vs := [5, 6, 7]) rfl sc__law_slice_fits.nd (.cons rfl (.inl rfl) (by first | exact .inl rfl | exact .inr rfl) (.cons rfl (.inl rfl) (by first | exact .inl rfl | exact .inr rfl) (.cons rfl (.inl rfl) (by first | exact .inl rfl | exact .inr rfl) (.nil)))) (by decide))) (dss_cons (ds_set (i := 4) sc__law_slice_fits.nd rfl (.inl rfl) (de_call (ok__law_draw T) (hr.mono (by decide)) rfl T.m__law_draw T.F__law_draw.kp T.b__law_draw (da_cons (de_var 0 (pv 0)) (da_cons (de_int) (da_nil))))) (dss_cons (ds_set (i := 8) sc__law_slice_fits.nd rfl (.inl rfl) (de_tup (da_cons (de_var 5 (pv 5)) (da_cons (de_bin og_add (de_bin og_add (de_sl (de_var 6 (pv 6)) (do_none) (do_some (de_var 4 (pv 4)))) (de_tup (da_cons (de_bin og_add (de_bin og_add (de_ix (ig_sub hr.u1) (de_var 6 (pv 6)) (de_var 4 (pv 4))) (de_int)) (de_call (ok__law_draw T) (hr.mono (by decide)) rfl T.m__law_draw T.F__law_draw.kp T.b__law_draw (da_cons (de_var 0 (pv 0)) (da_cons (de_int) (da_nil))))) (da_nil)))) (de_sl (de_var 6 (pv 6)) (do_some (de_bin og_add (de_var 4 (pv 4)) (de_int))) (do_none))) (da_cons (de_var 7 (pv 7)) (da_nil)))))) (dss_one (ds_ret (de_and (de_cmp og_is (de_call (ok_is_kept T) (hr.mono (by decide)) rfl T.m_is_kept T.F_is_kept.kp T.b_is_kept (da_cons (de_var 3 (pv 3)) (da_cons (de_var 8 (pv 8)) (da_nil)))) (de_bool)) (de_one (de_cmp og_is (de_call (ok_is_kept T) (hr.mono (by decide)) rfl T.m_is_kept T.F_is_kept.kp T.b_is_kept (da_cons (de_var 3 (pv 3)) (da_cons (de_tup (da_cons (de_var 5 (pv 5)) (da_cons (de_var 6 (pv 6)) (da_cons (de_int) (da_nil))))) (da_nil)))) (de_bool)))))))))))))
theorem ok_law (T : Tx w K mg) : FnOk P w K mg base CX0 7 T.a_law T.f_law ["script"] (spD K 1 d_law) :=
  fn_d T.F_law sc_law fun cdv A outer s H E hr => dss_cons (ds_setM (i := 1) sc_law.nd rfl (.inl rfl) (de_call (ok__law_start T) (hr.mono (by decide)) rfl T.m__law_start T.F__law_start.kp T.b__law_start (da_cons (de_var 0 (pv 0)) (da_nil)))) (dss_cons (ds_for PassesOwn.never rfl (di_range1 rfl T.m_range (da_cons (de_int) (da_nil))) (dg_name (i := 2) (vs := [2]) sc_law.nd rfl (.inl rfl) (by decide)) (dss_cons (ds_if (dt_cmp (og_eq hr.u64) (de_call (ok__law_draw T) (hr.mono (by decide)) rfl T.m__law_draw T.F__law_draw.kp T.b__law_draw (da_cons (de_var 1 (pv 1)) (da_cons (de_int) (da_nil)))) (de_int)) (dss_cons (ds_asgT (de_call (ok__law_slice T) (hr.mono (by decide)) rfl T.m__law_slice T.F__law_slice.kp T.b__law_slice (da_cons (de_var 1 (pv 1)) (da_nil))) (dg_tup (is := [3, 4]) (vs := [3, 4]) rfl sc_law.nd (.cons rfl (.inl rfl) (by first | exact .inl rfl | exact .inr rfl) (.cons rfl (.inl rfl) (by first | exact .inl rfl | exact .inr rfl) (.nil))) (by decide))) (dss_one (ds_if (dt_not (dt_tru (de_call (ok__law_slice_fits T) (hr.mono (by decide)) rfl T.m__law_slice_fits T.F__law_slice_fits.kp T.b__law_slice_fits (da_cons (de_var 1 (pv 1)) (da_cons (de_var 3 (pv 3)) (da_cons (de_var 4 (pv 4)) (da_nil))))))) (dss_one (ds_ret (de_bool))) (dss_nil)))) (dss_cons (ds_set (i := 3) sc_law.nd rfl (.inl rfl) (de_call (ok__law_other_cell T) (hr.mono (by decide)) rfl T.m__law_other_cell T.F__law_other_cell.kp T.b__law_other_cell (da_cons (de_var 1 (pv 1)) (da_nil)))) (dss_one (ds_if (dt_not (dt_tru (de_call (ok__law_same T 4) (hr.mono (by decide)) rfl T.m__law_same T.F__law_same.kp T.b__law_same (da_cons (de_callTy cg_tuple rfl T.m_tuple bt_tuple (da_cons (de_call (ok_cell_equations T) (hr.mono (by decide)) rfl T.m_cell_equations T.F_cell_equations.kp T.b_cell_equations (da_cons (de_var 3 (pv 3)) (da_nil))) (da_nil))) (da_cons (de_tup (da_nil)) (da_nil)))))) (dss_one (ds_ret (de_bool))) (dss_nil))))) (dss_one (ds_if (dt_not (dt_tru (de_call (ok__law_same T 4) (hr.mono (by decide)) rfl T.m__law_same T.F__law_same.kp T.b__law_same (da_cons (de_callTy cg_tuple rfl T.m_tuple bt_tuple (da_cons (de_call (ok_cell_wants T) (hr.mono (by decide)) rfl T.m_cell_wants T.F_cell_wants.kp T.b_cell_wants (da_cons (de_var 3 (pv 3)) (da_nil))) (da_nil))) (da_cons (de_callTy cg_tuple rfl T.m_tuple bt_tuple (da_cons (de_call (ok__law_wants T) (hr.mono (by decide)) rfl T.m__law_wants T.F__law_wants.kp T.b__law_wants (da_cons (de_var 3 (pv 3)) (da_nil))) (da_nil))) (da_nil)))))) (dss_one (ds_ret (de_bool))) (dss_nil))))) (dss_one (ds_ret (de_bool))))
end
theorem mkTx {w : World} {K : PySem.W.Frag} {h : Heap} {mg : Str → Option Value} (X : K.In h) (G : h.Ns mainGlobals mg)
    {od0 an0 : Option Addr} {sl0 : Array (Option Value)} {oc0 kV0 dc0 pm0 cd0 ct0 : Value} {f0 : Addr} {od1 an1 : Option Addr} {sl1 : Array (Option Value)} {oc1 kV1 dc1 pm1 cd1 ct1 : Value} {f1 : Addr} {od2 an2 : Option Addr} {sl2 : Array (Option Value)} {oc2 kV2 dc2 pm2 cd2 ct2 : Value} {f2 : Addr} {od3 an3 : Option Addr} {sl3 : Array (Option Value)} {oc3 kV3 dc3 pm3 cd3 ct3 : Value} {f3 : Addr} {od4 an4 : Option Addr} {sl4 : Array (Option Value)} {oc4 kV4 dc4 pm4 cd4 ct4 : Value} {f4 : Addr} {od5 an5 : Option Addr} {sl5 : Array (Option Value)} {oc5 kV5 dc5 pm5 cd5 ct5 : Value} {f5 : Addr} {od6 an6 : Option Addr} {sl6 : Array (Option Value)} {oc6 kV6 dc6 pm6 cd6 ct6 : Value} {f6 : Addr} {od7 an7 : Option Addr} {sl7 : Array (Option Value)} {oc7 kV7 dc7 pm7 cd7 ct7 : Value} {f7 : Addr} {od8 an8 : Option Addr} {sl8 : Array (Option Value)} {oc8 kV8 dc8 pm8 cd8 ct8 : Value} {f8 : Addr} {od9 an9 : Option Addr} {sl9 : Array (Option Value)} {oc9 kV9 dc9 pm9 cd9 ct9 : Value} {f9 : Addr} {od10 an10 : Option Addr} {sl10 : Array (Option Value)} {oc10 kV10 dc10 pm10 cd10 ct10 : Value} {f10 : Addr} {od11 an11 : Option Addr} {sl11 : Array (Option Value)} {oc11 kV11 dc11 pm11 cd11 ct11 : Value} {f11 : Addr} {od12 an12 : Option Addr} {sl12 : Array (Option Value)} {oc12 kV12 dc12 pm12 cd12 ct12 : Value} {f12 : Addr} {od13 an13 : Option Addr} {sl13 : Array (Option Value)} {oc13 kV13 dc13 pm13 cd13 ct13 : Value} {f13 : Addr} {od14 an14 : Option Addr} {sl14 : Array (Option Value)} {oc14 kV14 dc14 pm14 cd14 ct14 : Value} {f14 : Addr} {od15 an15 : Option Addr} {sl15 : Array (Option Value)} {oc15 kV15 dc15 pm15 cd15 ct15 : Value} {f15 : Addr} {od16 an16 : Option Addr} {sl16 : Array (Option Value)} {oc16 kV16 dc16 pm16 cd16 ct16 : Value} {f16 : Addr} {od17 an17 : Option Addr} {sl17 : Array (Option Value)} {oc17 kV17 dc17 pm17 cd17 ct17 : Value} {f17 : Addr} {od18 an18 : Option Addr} {sl18 : Array (Option Value)} {oc18 kV18 dc18 pm18 cd18 ct18 : Value} {f18 : Addr} {od19 an19 : Option Addr} {sl19 : Array (Option Value)} {oc19 kV19 dc19 pm19 cd19 ct19 : Value} {f19 : Addr} {od20 an20 : Option Addr} {sl20 : Array (Option Value)} {oc20 kV20 dc20 pm20 cd20 ct20 : Value} {f20 : Addr} {od21 an21 : Option Addr} {sl21 : Array (Option Value)} {oc21 kV21 dc21 pm21 cd21 ct21 : Value} {f21 : Addr} {od22 an22 : Option Addr} {sl22 : Array (Option Value)} {oc22 kV22 dc22 pm22 cd22 ct22 : Value} {f22 : Addr} {od23 an23 : Option Addr} {sl23 : Array (Option Value)} {oc23 kV23 dc23 pm23 cd23 ct23 : Value} {f23 : Addr} {od24 an24 : Option Addr} {sl24 : Array (Option Value)} {oc24 kV24 dc24 pm24 cd24 ct24 : Value} {f24 : Addr} {od25 an25 : Option Addr} {sl25 : Array (Option Value)} {oc25 kV25 dc25 pm25 cd25 ct25 : Value} {f25 : Addr} {od26 an26 : Option Addr} {sl26 : Array (Option Value)} {oc26 kV26 dc26 pm26 cd26 ct26 : Value} {f26 : Addr} {od27 an27 : Option Addr} {sl27 : Array (Option Value)} {oc27 kV27 dc27 pm27 cd27 ct27 : Value} {f27 : Addr} {od28 an28 : Option Addr} {sl28 : Array (Option Value)} {oc28 kV28 dc28 pm28 cd28 ct28 : Value} {f28 : Addr} {od29 an29 : Option Addr} {sl29 : Array (Option Value)} {oc29 kV29 dc29 pm29 cd29 ct29 : Value} {f29 : Addr} {y0 : Tok} {da0 : Addr} {de0 : Array DictEntry} {dn0 : Nat} {t1 : Addr} {tn1 : Nat} {td1 : Option Addr} {ts1 : Array (Option Value)} {u2 : Tok} {u3 : Tok} {u4 : Tok} {u5 : Tok} {u6 : Tok} {t7 : Addr} {tn7 : Nat} {td7 : Option Addr} {ts7 : Array (Option Value)} {u8 : Tok} {u9 : Tok} {u10 : Tok} {u11 : Tok} {u12 : Tok}
    (a0 : PySem.W.nsIn K mainGlobals "form" = some (some (.ref f0))) (l0 : K.lookup f0 = some ⟨oc0, od0, .func (PySem.W.fnOf "form" "form" (defArgs s_form) (defBody s_form) (defScope s_form) .none kV0 dc0 pm0 an0 cd0 ct0), sl0⟩) (c0 : PySem.W.codeIn K cd0 "form" = true) (k0 : PySem.W.keepIn K (.ref f0) = true)
    (a1 : PySem.W.nsIn K mainGlobals "is_integer" = some (some (.ref f1))) (l1 : K.lookup f1 = some ⟨oc1, od1, .func (PySem.W.fnOf "is_integer" "is_integer" (defArgs s_is_integer) (defBody s_is_integer) (defScope s_is_integer) .none kV1 dc1 pm1 an1 cd1 ct1), sl1⟩) (c1 : PySem.W.codeIn K cd1 "is_integer" = true) (k1 : PySem.W.keepIn K (.ref f1) = true)
    (a2 : PySem.W.nsIn K mainGlobals "is_count" = some (some (.ref f2))) (l2 : K.lookup f2 = some ⟨oc2, od2, .func (PySem.W.fnOf "is_count" "is_count" (defArgs s_is_count) (defBody s_is_count) (defScope s_is_count) .none kV2 dc2 pm2 an2 cd2 ct2), sl2⟩) (c2 : PySem.W.codeIn K cd2 "is_count" = true) (k2 : PySem.W.keepIn K (.ref f2) = true)
    (a3 : PySem.W.nsIn K mainGlobals "is_tuple" = some (some (.ref f3))) (l3 : K.lookup f3 = some ⟨oc3, od3, .func (PySem.W.fnOf "is_tuple" "is_tuple" (defArgs s_is_tuple) (defBody s_is_tuple) (defScope s_is_tuple) .none kV3 dc3 pm3 an3 cd3 ct3), sl3⟩) (c3 : PySem.W.codeIn K cd3 "is_tuple" = true) (k3 : PySem.W.keepIn K (.ref f3) = true)
    (a4 : PySem.W.nsIn K mainGlobals "is_wire" = some (some (.ref f4))) (l4 : K.lookup f4 = some ⟨oc4, od4, .func (PySem.W.fnOf "is_wire" "is_wire" (defArgs s_is_wire) (defBody s_is_wire) (defScope s_is_wire) .none kV4 dc4 pm4 an4 cd4 ct4), sl4⟩) (c4 : PySem.W.codeIn K cd4 "is_wire" = true) (k4 : PySem.W.keepIn K (.ref f4) = true)
    (a5 : PySem.W.nsIn K mainGlobals "ascending" = some (some (.ref f5))) (l5 : K.lookup f5 = some ⟨oc5, od5, .func (PySem.W.fnOf "ascending" "ascending" (defArgs s_ascending) (defBody s_ascending) (defScope s_ascending) .none kV5 dc5 pm5 an5 cd5 ct5), sl5⟩) (c5 : PySem.W.codeIn K cd5 "ascending" = true) (k5 : PySem.W.keepIn K (.ref f5) = true)
    (a6 : PySem.W.nsIn K mainGlobals "clause_of" = some (some (.ref f6))) (l6 : K.lookup f6 = some ⟨oc6, od6, .func (PySem.W.fnOf "clause_of" "clause_of" (defArgs s_clause_of) (defBody s_clause_of) (defScope s_clause_of) .none kV6 dc6 pm6 an6 cd6 ct6), sl6⟩) (c6 : PySem.W.codeIn K cd6 "clause_of" = true) (k6 : PySem.W.keepIn K (.ref f6) = true)
    (a7 : PySem.W.nsIn K mainGlobals "wire_name" = some (some (.ref f7))) (l7 : K.lookup f7 = some ⟨oc7, od7, .func (PySem.W.fnOf "wire_name" "wire_name" (defArgs s_wire_name) (defBody s_wire_name) (defScope s_wire_name) .none kV7 dc7 pm7 an7 cd7 ct7), sl7⟩) (c7 : PySem.W.codeIn K cd7 "wire_name" = true) (k7 : PySem.W.keepIn K (.ref f7) = true)
    (a8 : PySem.W.nsIn K mainGlobals "table_of" = some (some (.ref f8))) (l8 : K.lookup f8 = some ⟨oc8, od8, .func (PySem.W.fnOf "table_of" "table_of" (defArgs s_table_of) (defBody s_table_of) (defScope s_table_of) .none kV8 dc8 pm8 an8 cd8 ct8), sl8⟩) (c8 : PySem.W.codeIn K cd8 "table_of" = true) (k8 : PySem.W.keepIn K (.ref f8) = true)
    (a9 : PySem.W.nsIn K mainGlobals "rows_of" = some (some (.ref f9))) (l9 : K.lookup f9 = some ⟨oc9, od9, .func (PySem.W.fnOf "rows_of" "rows_of" (defArgs s_rows_of) (defBody s_rows_of) (defScope s_rows_of) .none kV9 dc9 pm9 an9 cd9 ct9), sl9⟩) (c9 : PySem.W.codeIn K cd9 "rows_of" = true) (k9 : PySem.W.keepIn K (.ref f9) = true)
    (a10 : PySem.W.nsIn K mainGlobals "cell_wants" = some (some (.ref f10))) (l10 : K.lookup f10 = some ⟨oc10, od10, .func (PySem.W.fnOf "cell_wants" "cell_wants" (defArgs s_cell_wants) (defBody s_cell_wants) (defScope s_cell_wants) .none kV10 dc10 pm10 an10 cd10 ct10), sl10⟩) (c10 : PySem.W.codeIn K cd10 "cell_wants" = true) (k10 : PySem.W.keepIn K (.ref f10) = true)
    (a11 : PySem.W.nsIn K mainGlobals "cell_equations" = some (some (.ref f11))) (l11 : K.lookup f11 = some ⟨oc11, od11, .func (PySem.W.fnOf "cell_equations" "cell_equations" (defArgs s_cell_equations) (defBody s_cell_equations) (defScope s_cell_equations) .none kV11 dc11 pm11 an11 cd11 ct11), sl11⟩) (c11 : PySem.W.codeIn K cd11 "cell_equations" = true) (k11 : PySem.W.keepIn K (.ref f11) = true)
    (a12 : PySem.W.nsIn K mainGlobals "is_equation" = some (some (.ref f12))) (l12 : K.lookup f12 = some ⟨oc12, od12, .func (PySem.W.fnOf "is_equation" "is_equation" (defArgs s_is_equation) (defBody s_is_equation) (defScope s_is_equation) .none kV12 dc12 pm12 an12 cd12 ct12), sl12⟩) (c12 : PySem.W.codeIn K cd12 "is_equation" = true) (k12 : PySem.W.keepIn K (.ref f12) = true)
    (a13 : PySem.W.nsIn K mainGlobals "equation_form" = some (some (.ref f13))) (l13 : K.lookup f13 = some ⟨oc13, od13, .func (PySem.W.fnOf "equation_form" "equation_form" (defArgs s_equation_form) (defBody s_equation_form) (defScope s_equation_form) .none kV13 dc13 pm13 an13 cd13 ct13), sl13⟩) (c13 : PySem.W.codeIn K cd13 "equation_form" = true) (k13 : PySem.W.keepIn K (.ref f13) = true)
    (a14 : PySem.W.nsIn K mainGlobals "holds_at" = some (some (.ref f14))) (l14 : K.lookup f14 = some ⟨oc14, od14, .func (PySem.W.fnOf "holds_at" "holds_at" (defArgs s_holds_at) (defBody s_holds_at) (defScope s_holds_at) .none kV14 dc14 pm14 an14 cd14 ct14), sl14⟩) (c14 : PySem.W.codeIn K cd14 "holds_at" = true) (k14 : PySem.W.keepIn K (.ref f14) = true)
    (a15 : PySem.W.nsIn K mainGlobals "is_kept" = some (some (.ref f15))) (l15 : K.lookup f15 = some ⟨oc15, od15, .func (PySem.W.fnOf "is_kept" "is_kept" (defArgs s_is_kept) (defBody s_is_kept) (defScope s_is_kept) .none kV15 dc15 pm15 an15 cd15 ct15), sl15⟩) (c15 : PySem.W.codeIn K cd15 "is_kept" = true) (k15 : PySem.W.keepIn K (.ref f15) = true)
    (a16 : PySem.W.nsIn K mainGlobals "_law_start" = some (some (.ref f16))) (l16 : K.lookup f16 = some ⟨oc16, od16, .func (PySem.W.fnOf "_law_start" "_law_start" (defArgs s__law_start) (defBody s__law_start) (defScope s__law_start) .none kV16 dc16 pm16 an16 cd16 ct16), sl16⟩) (c16 : PySem.W.codeIn K cd16 "_law_start" = true) (k16 : PySem.W.keepIn K (.ref f16) = true)
    (a17 : PySem.W.nsIn K mainGlobals "_law_draw" = some (some (.ref f17))) (l17 : K.lookup f17 = some ⟨oc17, od17, .func (PySem.W.fnOf "_law_draw" "_law_draw" (defArgs s__law_draw) (defBody s__law_draw) (defScope s__law_draw) .none kV17 dc17 pm17 an17 cd17 ct17), sl17⟩) (c17 : PySem.W.codeIn K cd17 "_law_draw" = true) (k17 : PySem.W.keepIn K (.ref f17) = true)
    (a18 : PySem.W.nsIn K mainGlobals "_law_one_of" = some (some (.ref f18))) (l18 : K.lookup f18 = some ⟨oc18, od18, .func (PySem.W.fnOf "_law_one_of" "_law_one_of" (defArgs s__law_one_of) (defBody s__law_one_of) (defScope s__law_one_of) .none kV18 dc18 pm18 an18 cd18 ct18), sl18⟩) (c18 : PySem.W.codeIn K cd18 "_law_one_of" = true) (k18 : PySem.W.keepIn K (.ref f18) = true)
    (a19 : PySem.W.nsIn K mainGlobals "_law_shuffled" = some (some (.ref f19))) (l19 : K.lookup f19 = some ⟨oc19, od19, .func (PySem.W.fnOf "_law_shuffled" "_law_shuffled" (defArgs s__law_shuffled) (defBody s__law_shuffled) (defScope s__law_shuffled) .none kV19 dc19 pm19 an19 cd19 ct19), sl19⟩) (c19 : PySem.W.codeIn K cd19 "_law_shuffled" = true) (k19 : PySem.W.keepIn K (.ref f19) = true)
    (a20 : PySem.W.nsIn K mainGlobals "_law_is_int" = some (some (.ref f20))) (l20 : K.lookup f20 = some ⟨oc20, od20, .func (PySem.W.fnOf "_law_is_int" "_law_is_int" (defArgs s__law_is_int) (defBody s__law_is_int) (defScope s__law_is_int) .none kV20 dc20 pm20 an20 cd20 ct20), sl20⟩) (c20 : PySem.W.codeIn K cd20 "_law_is_int" = true) (k20 : PySem.W.keepIn K (.ref f20) = true)
    (a21 : PySem.W.nsIn K mainGlobals "_law_same" = some (some (.ref f21))) (l21 : K.lookup f21 = some ⟨oc21, od21, .func (PySem.W.fnOf "_law_same" "_law_same" (defArgs s__law_same) (defBody s__law_same) (defScope s__law_same) .none kV21 dc21 pm21 an21 cd21 ct21), sl21⟩) (c21 : PySem.W.codeIn K cd21 "_law_same" = true) (k21 : PySem.W.keepIn K (.ref f21) = true)
    (a22 : PySem.W.nsIn K mainGlobals "_law_table" = some (some (.ref f22))) (l22 : K.lookup f22 = some ⟨oc22, od22, .func (PySem.W.fnOf "_law_table" "_law_table" (defArgs s__law_table) (defBody s__law_table) (defScope s__law_table) .none kV22 dc22 pm22 an22 cd22 ct22), sl22⟩) (c22 : PySem.W.codeIn K cd22 "_law_table" = true) (k22 : PySem.W.keepIn K (.ref f22) = true)
    (a23 : PySem.W.nsIn K mainGlobals "_law_clause" = some (some (.ref f23))) (l23 : K.lookup f23 = some ⟨oc23, od23, .func (PySem.W.fnOf "_law_clause" "_law_clause" (defArgs s__law_clause) (defBody s__law_clause) (defScope s__law_clause) .none kV23 dc23 pm23 an23 cd23 ct23), sl23⟩) (c23 : PySem.W.codeIn K cd23 "_law_clause" = true) (k23 : PySem.W.keepIn K (.ref f23) = true)
    (a24 : PySem.W.nsIn K mainGlobals "_law_wants" = some (some (.ref f24))) (l24 : K.lookup f24 = some ⟨oc24, od24, .func (PySem.W.fnOf "_law_wants" "_law_wants" (defArgs s__law_wants) (defBody s__law_wants) (defScope s__law_wants) .none kV24 dc24 pm24 an24 cd24 ct24), sl24⟩) (c24 : PySem.W.codeIn K cd24 "_law_wants" = true) (k24 : PySem.W.keepIn K (.ref f24) = true)
    (a25 : PySem.W.nsIn K mainGlobals "_law_slice" = some (some (.ref f25))) (l25 : K.lookup f25 = some ⟨oc25, od25, .func (PySem.W.fnOf "_law_slice" "_law_slice" (defArgs s__law_slice) (defBody s__law_slice) (defScope s__law_slice) .none kV25 dc25 pm25 an25 cd25 ct25), sl25⟩) (c25 : PySem.W.codeIn K cd25 "_law_slice" = true) (k25 : PySem.W.keepIn K (.ref f25) = true)
    (a26 : PySem.W.nsIn K mainGlobals "_law_other_cell" = some (some (.ref f26))) (l26 : K.lookup f26 = some ⟨oc26, od26, .func (PySem.W.fnOf "_law_other_cell" "_law_other_cell" (defArgs s__law_other_cell) (defBody s__law_other_cell) (defScope s__law_other_cell) .none kV26 dc26 pm26 an26 cd26 ct26), sl26⟩) (c26 : PySem.W.codeIn K cd26 "_law_other_cell" = true) (k26 : PySem.W.keepIn K (.ref f26) = true)
    (a27 : PySem.W.nsIn K mainGlobals "_law_form_of" = some (some (.ref f27))) (l27 : K.lookup f27 = some ⟨oc27, od27, .func (PySem.W.fnOf "_law_form_of" "_law_form_of" (defArgs s__law_form_of) (defBody s__law_form_of) (defScope s__law_form_of) .none kV27 dc27 pm27 an27 cd27 ct27), sl27⟩) (c27 : PySem.W.codeIn K cd27 "_law_form_of" = true) (k27 : PySem.W.keepIn K (.ref f27) = true)
    (a28 : PySem.W.nsIn K mainGlobals "_law_slice_fits" = some (some (.ref f28))) (l28 : K.lookup f28 = some ⟨oc28, od28, .func (PySem.W.fnOf "_law_slice_fits" "_law_slice_fits" (defArgs s__law_slice_fits) (defBody s__law_slice_fits) (defScope s__law_slice_fits) .none kV28 dc28 pm28 an28 cd28 ct28), sl28⟩) (c28 : PySem.W.codeIn K cd28 "_law_slice_fits" = true) (k28 : PySem.W.keepIn K (.ref f28) = true)
    (a29 : PySem.W.nsIn K mainGlobals "law" = some (some (.ref f29))) (l29 : K.lookup f29 = some ⟨oc29, od29, .func (PySem.W.fnOf "law" "law" (defArgs s_law) (defBody s_law) (defScope s_law) .none kV29 dc29 pm29 an29 cd29 ct29), sl29⟩) (c29 : PySem.W.codeIn K cd29 "law" = true) (k29 : PySem.W.keepIn K (.ref f29) = true)
    (z0 : PySem.W.nsIn K mainGlobals "abs" = some none)
    (z1 : PySem.W.nsIn K mainGlobals "all" = some none)
    (z2 : PySem.W.nsIn K mainGlobals "any" = some none)
    (z3 : PySem.W.nsIn K mainGlobals "bool" = some none)
    (z4 : PySem.W.nsIn K mainGlobals "dict" = some none)
    (z5 : PySem.W.nsIn K mainGlobals "enumerate" = some none)
    (z6 : PySem.W.nsIn K mainGlobals "int" = some none)
    (z7 : PySem.W.nsIn K mainGlobals "isinstance" = some none)
    (z8 : PySem.W.nsIn K mainGlobals "len" = some none)
    (z9 : PySem.W.nsIn K mainGlobals "list" = some none)
    (z10 : PySem.W.nsIn K mainGlobals "max" = some none)
    (z11 : PySem.W.nsIn K mainGlobals "range" = some none)
    (z12 : PySem.W.nsIn K mainGlobals "set" = some none)
    (z13 : PySem.W.nsIn K mainGlobals "sorted" = some none)
    (z14 : PySem.W.nsIn K mainGlobals "str" = some none)
    (z15 : PySem.W.nsIn K mainGlobals "sum" = some none)
    (z16 : PySem.W.nsIn K mainGlobals "tuple" = some none)
    (z17 : PySem.W.nsIn K mainGlobals "zip" = some none)
    (kc0 : PySem.W.nsIn K mainGlobals "MOST_WIRES" = some (some (.int 6 y0)))
    (dd0 : PySem.W.nsIn K mainGlobals "FACTORS" = some (some (.ref da0)))
    (dl0 : K.lookup da0 = some ⟨.type "dict", none, .dict de0 dn0, #[]⟩)
    (kk_0 : PySem.W.KeysLit w.params de0.toList)
    (low0 : (da0 == sysModules) = false)
    (dv0_0 : PySem.W.nsIn K da0 "full" = some (some (.ref t1)))
    (tl1 : K.lookup t1 = some ⟨.type "tuple", td1, .seq #[.int 1 u2, .int 2 u3, .int (-1) u4, .int (-1) u5, .int (-1) u6] tn1, ts1⟩)
    (dv0_1 : PySem.W.nsIn K da0 "borrow" = some (some (.ref t7)))
    (tl7 : K.lookup t7 = some ⟨.type "tuple", td7, .seq #[.int 1 u8, .int (-2) u9, .int (-1) u10, .int 1 u11, .int 1 u12] tn7, ts7⟩)
    (dx0_0 : PySem.W.nsIn K da0 "not" = some none)
    (dx0_1 : PySem.W.nsIn K da0 "and" = some none)
    (dx0_2 : PySem.W.nsIn K da0 "or" = some none)
    (dx0_3 : PySem.W.nsIn K da0 "unlike" = some none)
    (dx0_4 : PySem.W.nsIn K da0 "like" = some none) : Nonempty (Tx w K mg) := 
  ⟨{ a_form := f0, f_form := _, F_form := fun_mk (st := s_form) l0 c0 k0, m_form := PySem.W.mg_of X G a0, b_form := (fun_mk (st := s_form) l0 c0 k0).binds (ps := ["constant", "pairs"]) fun _ _ _ _ _ _ us hl => match us, hl with | [_, _], _ => rfl,
     a_is_integer := f1, f_is_integer := _, F_is_integer := fun_mk (st := s_is_integer) l1 c1 k1, m_is_integer := PySem.W.mg_of X G a1, b_is_integer := (fun_mk (st := s_is_integer) l1 c1 k1).binds (ps := ["datum"]) fun _ _ _ _ _ _ us hl => match us, hl with | [_], _ => rfl,
     a_is_count := f2, f_is_count := _, F_is_count := fun_mk (st := s_is_count) l2 c2 k2, m_is_count := PySem.W.mg_of X G a2, b_is_count := (fun_mk (st := s_is_count) l2 c2 k2).binds (ps := ["datum"]) fun _ _ _ _ _ _ us hl => match us, hl with | [_], _ => rfl,
     a_is_tuple := f3, f_is_tuple := _, F_is_tuple := fun_mk (st := s_is_tuple) l3 c3 k3, m_is_tuple := PySem.W.mg_of X G a3, b_is_tuple := (fun_mk (st := s_is_tuple) l3 c3 k3).binds (ps := ["datum", "many"]) fun _ _ _ _ _ _ us hl => match us, hl with | [_, _], _ => rfl,
     a_is_wire := f4, f_is_wire := _, F_is_wire := fun_mk (st := s_is_wire) l4 c4 k4, m_is_wire := PySem.W.mg_of X G a4, b_is_wire := (fun_mk (st := s_is_wire) l4 c4 k4).binds (ps := ["datum", "wires"]) fun _ _ _ _ _ _ us hl => match us, hl with | [_, _], _ => rfl,
     a_ascending := f5, f_ascending := _, F_ascending := fun_mk (st := s_ascending) l5 c5 k5, m_ascending := PySem.W.mg_of X G a5, b_ascending := (fun_mk (st := s_ascending) l5 c5 k5).binds (ps := ["wires"]) fun _ _ _ _ _ _ us hl => match us, hl with | [_], _ => rfl,
     a_clause_of := f6, f_clause_of := _, F_clause_of := fun_mk (st := s_clause_of) l6 c6 k6, m_clause_of := PySem.W.mg_of X G a6, b_clause_of := (fun_mk (st := s_clause_of) l6 c6 k6).binds (ps := ["literals"]) fun _ _ _ _ _ _ us hl => match us, hl with | [_], _ => rfl,
     a_wire_name := f7, f_wire_name := _, F_wire_name := fun_mk (st := s_wire_name) l7 c7 k7, m_wire_name := PySem.W.mg_of X G a7, b_wire_name := (fun_mk (st := s_wire_name) l7 c7 k7).binds (ps := ["wire"]) fun _ _ _ _ _ _ us hl => match us, hl with | [_], _ => rfl,
     a_table_of := f8, f_table_of := _, F_table_of := fun_mk (st := s_table_of) l8 c8 k8, m_table_of := PySem.W.mg_of X G a8, b_table_of := (fun_mk (st := s_table_of) l8 c8 k8).binds (ps := ["kind", "signs"]) fun _ _ _ _ _ _ us hl => match us, hl with | [_, _], _ => rfl,
     a_rows_of := f9, f_rows_of := _, F_rows_of := fun_mk (st := s_rows_of) l9 c9 k9, m_rows_of := PySem.W.mg_of X G a9, b_rows_of := (fun_mk (st := s_rows_of) l9 c9 k9).binds (ps := ["many"]) fun _ _ _ _ _ _ us hl => match us, hl with | [_], _ => rfl,
     a_cell_wants := f10, f_cell_wants := _, F_cell_wants := fun_mk (st := s_cell_wants) l10 c10 k10, m_cell_wants := PySem.W.mg_of X G a10, b_cell_wants := (fun_mk (st := s_cell_wants) l10 c10 k10).binds (ps := ["cell"]) fun _ _ _ _ _ _ us hl => match us, hl with | [_], _ => rfl,
     a_cell_equations := f11, f_cell_equations := _, F_cell_equations := fun_mk (st := s_cell_equations) l11 c11 k11, m_cell_equations := PySem.W.mg_of X G a11, b_cell_equations := (fun_mk (st := s_cell_equations) l11 c11 k11).binds (ps := ["cell"]) fun _ _ _ _ _ _ us hl => match us, hl with | [_], _ => rfl,
     a_is_equation := f12, f_is_equation := _, F_is_equation := fun_mk (st := s_is_equation) l12 c12 k12, m_is_equation := PySem.W.mg_of X G a12, b_is_equation := (fun_mk (st := s_is_equation) l12 c12 k12).binds (ps := ["datum", "wires"]) fun _ _ _ _ _ _ us hl => match us, hl with | [_, _], _ => rfl,
     a_equation_form := f13, f_equation_form := _, F_equation_form := fun_mk (st := s_equation_form) l13 c13 k13, m_equation_form := PySem.W.mg_of X G a13, b_equation_form := (fun_mk (st := s_equation_form) l13 c13 k13).binds (ps := ["equation"]) fun _ _ _ _ _ _ us hl => match us, hl with | [_], _ => rfl,
     a_holds_at := f14, f_holds_at := _, F_holds_at := fun_mk (st := s_holds_at) l14 c14 k14, m_holds_at := PySem.W.mg_of X G a14, b_holds_at := (fun_mk (st := s_holds_at) l14 c14 k14).binds (ps := ["clause", "signs"]) fun _ _ _ _ _ _ us hl => match us, hl with | [_, _], _ => rfl,
     a_is_kept := f15, f_is_kept := _, F_is_kept := fun_mk (st := s_is_kept) l15 c15 k15, m_is_kept := PySem.W.mg_of X G a15, b_is_kept := (fun_mk (st := s_is_kept) l15 c15 k15).binds (ps := ["clauses", "equation"]) fun _ _ _ _ _ _ us hl => match us, hl with | [_, _], _ => rfl,
     a__law_start := f16, f__law_start := _, F__law_start := fun_mk (st := s__law_start) l16 c16 k16, m__law_start := PySem.W.mg_of X G a16, b__law_start := (fun_mk (st := s__law_start) l16 c16 k16).binds (ps := ["script"]) fun _ _ _ _ _ _ us hl => match us, hl with | [_], _ => rfl,
     a__law_draw := f17, f__law_draw := _, F__law_draw := fun_mk (st := s__law_draw) l17 c17 k17, m__law_draw := PySem.W.mg_of X G a17, b__law_draw := (fun_mk (st := s__law_draw) l17 c17 k17).binds (ps := ["state", "most"]) fun _ _ _ _ _ _ us hl => match us, hl with | [_, _], _ => rfl,
     a__law_one_of := f18, f__law_one_of := _, F__law_one_of := fun_mk (st := s__law_one_of) l18 c18 k18, m__law_one_of := PySem.W.mg_of X G a18, b__law_one_of := (fun_mk (st := s__law_one_of) l18 c18 k18).binds (ps := ["state", "items"]) fun _ _ _ _ _ _ us hl => match us, hl with | [_, _], _ => rfl,
     a__law_shuffled := f19, f__law_shuffled := _, F__law_shuffled := fun_mk (st := s__law_shuffled) l19 c19 k19, m__law_shuffled := PySem.W.mg_of X G a19, b__law_shuffled := (fun_mk (st := s__law_shuffled) l19 c19 k19).binds (ps := ["state", "items"]) fun _ _ _ _ _ _ us hl => match us, hl with | [_, _], _ => rfl,
     a__law_is_int := f20, f__law_is_int := _, F__law_is_int := fun_mk (st := s__law_is_int) l20 c20 k20, m__law_is_int := PySem.W.mg_of X G a20, b__law_is_int := (fun_mk (st := s__law_is_int) l20 c20 k20).binds (ps := ["x"]) fun _ _ _ _ _ _ us hl => match us, hl with | [_], _ => rfl,
     a__law_same := f21, f__law_same := _, F__law_same := fun_mk (st := s__law_same) l21 c21 k21, m__law_same := PySem.W.mg_of X G a21, b__law_same := (fun_mk (st := s__law_same) l21 c21 k21).binds (ps := ["x", "y"]) fun _ _ _ _ _ _ us hl => match us, hl with | [_, _], _ => rfl,
     a__law_table := f22, f__law_table := _, F__law_table := fun_mk (st := s__law_table) l22 c22 k22, m__law_table := PySem.W.mg_of X G a22, b__law_table := (fun_mk (st := s__law_table) l22 c22 k22).binds (ps := ["kind", "row"]) fun _ _ _ _ _ _ us hl => match us, hl with | [_, _], _ => rfl,
     a__law_clause := f23, f__law_clause := _, F__law_clause := fun_mk (st := s__law_clause) l23 c23 k23, m__law_clause := PySem.W.mg_of X G a23, b__law_clause := (fun_mk (st := s__law_clause) l23 c23 k23).binds (ps := ["pairs"]) fun _ _ _ _ _ _ us hl => match us, hl with | [_], _ => rfl,
     a__law_wants := f24, f__law_wants := _, F__law_wants := fun_mk (st := s__law_wants) l24 c24 k24, m__law_wants := PySem.W.mg_of X G a24, b__law_wants := (fun_mk (st := s__law_wants) l24 c24 k24).binds (ps := ["cell"]) fun _ _ _ _ _ _ us hl => match us, hl with | [_], _ => rfl,
     a__law_slice := f25, f__law_slice := _, F__law_slice := fun_mk (st := s__law_slice) l25 c25 k25, m__law_slice := PySem.W.mg_of X G a25, b__law_slice := (fun_mk (st := s__law_slice) l25 c25 k25).binds (ps := ["state"]) fun _ _ _ _ _ _ us hl => match us, hl with | [_], _ => rfl,
     a__law_other_cell := f26, f__law_other_cell := _, F__law_other_cell := fun_mk (st := s__law_other_cell) l26 c26 k26, m__law_other_cell := PySem.W.mg_of X G a26, b__law_other_cell := (fun_mk (st := s__law_other_cell) l26 c26 k26).binds (ps := ["state"]) fun _ _ _ _ _ _ us hl => match us, hl with | [_], _ => rfl,
     a__law_form_of := f27, f__law_form_of := _, F__law_form_of := fun_mk (st := s__law_form_of) l27 c27 k27, m__law_form_of := PySem.W.mg_of X G a27, b__law_form_of := (fun_mk (st := s__law_form_of) l27 c27 k27).binds (ps := ["equation"]) fun _ _ _ _ _ _ us hl => match us, hl with | [_], _ => rfl,
     a__law_slice_fits := f28, f__law_slice_fits := _, F__law_slice_fits := fun_mk (st := s__law_slice_fits) l28 c28 k28, m__law_slice_fits := PySem.W.mg_of X G a28, b__law_slice_fits := (fun_mk (st := s__law_slice_fits) l28 c28 k28).binds (ps := ["state", "cell", "due"]) fun _ _ _ _ _ _ us hl => match us, hl with | [_, _, _], _ => rfl,
     a_law := f29, f_law := _, F_law := fun_mk (st := s_law) l29 c29 k29, m_law := PySem.W.mg_of X G a29, b_law := (fun_mk (st := s_law) l29 c29 k29).binds (ps := ["script"]) fun _ _ _ _ _ _ us hl => match us, hl with | [_], _ => rfl,
     m_abs := PySem.W.mg_none_of X G z0,
     m_all := PySem.W.mg_none_of X G z1,
     m_any := PySem.W.mg_none_of X G z2,
     m_bool := PySem.W.mg_none_of X G z3,
     m_dict := PySem.W.mg_none_of X G z4,
     m_enumerate := PySem.W.mg_none_of X G z5,
     m_int := PySem.W.mg_none_of X G z6,
     m_isinstance := PySem.W.mg_none_of X G z7,
     m_len := PySem.W.mg_none_of X G z8,
     m_list := PySem.W.mg_none_of X G z9,
     m_max := PySem.W.mg_none_of X G z10,
     m_range := PySem.W.mg_none_of X G z11,
     m_set := PySem.W.mg_none_of X G z12,
     m_sorted := PySem.W.mg_none_of X G z13,
     m_str := PySem.W.mg_none_of X G z14,
     m_sum := PySem.W.mg_none_of X G z15,
     m_tuple := PySem.W.mg_none_of X G z16,
     m_zip := PySem.W.mg_none_of X G z17,
     t_MOST_WIRES := y0, m_MOST_WIRES := PySem.W.mg_of X G kc0,
     a_FACTORS := da0, m_FACTORS := PySem.W.mg_of X G dd0, q_FACTORS := gdict_mk (kvs := [("full", (.tuple [.int 1, .int 2, .int (-1), .int (-1), .int (-1)])), ("borrow", (.tuple [.int 1, .int (-2), .int (-1), .int 1, .int 1]))]) (abs := ["not", "and", "or", "unlike", "like"]) ⟨_, _, ⟨dl0, kk_0, low0⟩⟩ (.cons ⟨_, .ref t1, dv0_0, rfl, fun _ _ => .tup (xs := [.int 1, .int 2, .int (-1), .int (-1), .int (-1)]) (.inr ⟨_, _, _, tl1, rfl, rfl, (by show 5 ≤ sizeLine; decide), .cons ⟨_, rfl⟩ (.cons ⟨_, rfl⟩ (.cons ⟨_, rfl⟩ (.cons ⟨_, rfl⟩ (.cons ⟨_, rfl⟩ (.nil)))))⟩) (.cons (.int _) (.cons (.int _) (.cons (.int _) (.cons (.int _) (.cons (.int _) (.nil))))))⟩ (.cons ⟨_, .ref t7, dv0_1, rfl, fun _ _ => .tup (xs := [.int 1, .int (-2), .int (-1), .int 1, .int 1]) (.inr ⟨_, _, _, tl7, rfl, rfl, (by show 5 ≤ sizeLine; decide), .cons ⟨_, rfl⟩ (.cons ⟨_, rfl⟩ (.cons ⟨_, rfl⟩ (.cons ⟨_, rfl⟩ (.cons ⟨_, rfl⟩ (.nil)))))⟩) (.cons (.int _) (.cons (.int _) (.cons (.int _) (.cons (.int _) (.cons (.int _) (.nil))))))⟩ (.nil))) (.cons dx0_0 (.cons dx0_1 (.cons dx0_2 (.cons dx0_3 (.cons dx0_4 (.nil)))))) }⟩
theorem all_mk {l : PySem.W.OpenLaw} {w : World} {K : PySem.W.Frag} {mg : Str → Option Value} {fa : Addr} (hfa : mg "law" = some (.ref fa)) (T : Nonempty (Tx w K mg)) :
    ∃ fd : FuncData, (∀ (s : Shared) (v : Value), BindsTo s fd ⟨[v], []⟩ [("script", v)]) ∧ ∀ base : Heap, K.In base → base.Ns mainGlobals mg → FnOk l.prog w K mg base CX0 7 fa fd ["script"] (spD K 1 d_law) := by
  obtain ⟨T⟩ := T
  have e := hfa.symm.trans T.m_law
  cases e
  obtain ⟨oc, od, kV, doc, pm, an, cdv, ct, osl, e1, _, _⟩ := T.F_law.ex
  exact ⟨T.f_law, fun s v => by rw [e1]; exact .of_eq rfl, fun base _ _ => ok_law T⟩
theorem walk {l : PySem.W.OpenLaw} {q : Program} {loose : List Str} {XP : (Str → Option Value) → Heap → Prop} {YP : World → Heap → Prop} {d : DefRec} {K : Params → PySem.W.Frag} (hn : l.most = some 63) (hdf : d.params.defaults = [])
    (hY : ∀ (w : World) (h : Heap), YP w h → (K w.params).In h) (hF : ∀ ns : List Int, ns.length ≤ 63 → ∃ S', d_law [.d (.list (ns.map PyData.int))] [] = .ok (.d (.bool true)) S')
    (F : ∀ (w : World) (mg : Str → Option Value) (fa : Addr) (h : Heap), (K w.params).In h → h.Ns mainGlobals mg → mg d.name = some (.ref fa) →
      ∃ fd : FuncData, (∀ (s : Shared) (u : Value), BindsTo s fd ⟨[u], []⟩ [("script", u)]) ∧ ∀ base : Heap, (K w.params).In base → base.Ns mainGlobals mg → FnOk l.prog w (K w.params) mg base CX0 7 fa fd ["script"] (spD (K w.params) 1 d_law)) :
    PySem.W.WalkO q loose XP YP l.row.toRowW d [] (fun f vs => PySem.call f vs) :=
  L2.walk_of (n := 63) (k := 7) (x := "script") (CX := fun _ => CX0) (sp := fun w => spD (K w.params) 1 d_law) hn (by decide) hdf ⟨rfl, by decide, by decide⟩ hY F (fun _ H a ns hl hO hS => law_sp hF hl hO hS _) fun _ _ _ _ _ z => z
end K25
open PySem PySem.W PyProof.Rows
set_option maxRecDepth 100000 in
set_option maxHeartbeats 0 in
theorem PySem.Challenge.cw_wirejudge_k25_tables_of_cells_holds : PySem.Challenge.rw_wirejudge_k25_tables_of_cells.Holds := by
  w_on; o_law; k_head; (case hw => w_witness2)
  k_fill
  refine K25.walk (l := PySem.Challenge.rw_wirejudge_k25_tables_of_cells) rfl rfl (fun w h Y => PySem.W.kIn_of Y) K25.law_true ?F
  case F =>
    intro w mg fa h KX G hmg
    refine K25.all_mk hmg ?TT
    case TT =>
      refine' K25.mkTx KX G ?a0 ?l0 ?c0 ?k0 ?a1 ?l1 ?c1 ?k1 ?a2 ?l2 ?c2 ?k2 ?a3 ?l3 ?c3 ?k3 ?a4 ?l4 ?c4 ?k4 ?a5 ?l5 ?c5 ?k5 ?a6 ?l6 ?c6 ?k6 ?a7 ?l7 ?c7 ?k7 ?a8 ?l8 ?c8 ?k8 ?a9 ?l9 ?c9 ?k9 ?a10 ?l10 ?c10 ?k10 ?a11 ?l11 ?c11 ?k11 ?a12 ?l12 ?c12 ?k12 ?a13 ?l13 ?c13 ?k13 ?a14 ?l14 ?c14 ?k14 ?a15 ?l15 ?c15 ?k15 ?a16 ?l16 ?c16 ?k16 ?a17 ?l17 ?c17 ?k17 ?a18 ?l18 ?c18 ?k18 ?a19 ?l19 ?c19 ?k19 ?a20 ?l20 ?c20 ?k20 ?a21 ?l21 ?c21 ?k21 ?a22 ?l22 ?c22 ?k22 ?a23 ?l23 ?c23 ?k23 ?a24 ?l24 ?c24 ?k24 ?a25 ?l25 ?c25 ?k25 ?a26 ?l26 ?c26 ?k26 ?a27 ?l27 ?c27 ?k27 ?a28 ?l28 ?c28 ?k28 ?a29 ?l29 ?c29 ?k29 ?z0 ?z1 ?z2 ?z3 ?z4 ?z5 ?z6 ?z7 ?z8 ?z9 ?z10 ?z11 ?z12 ?z13 ?z14 ?z15 ?z16 ?z17 ?kc0 ?dd0 ?dl0 ?kk_0 ?low0 ?dv0_0 ?tl1 ?dv0_1 ?tl7 ?dx0_0 ?dx0_1 ?dx0_2 ?dx0_3 ?dx0_4
      (case a0 => k_is); (case l0 => k_is); (case c0 => k_is); (case k0 => k_is); (case a1 => k_is); (case l1 => k_is)
      (case c1 => k_is); (case k1 => k_is); (case a2 => k_is); (case l2 => k_is); (case c2 => k_is); (case k2 => k_is)
      (case a3 => k_is); (case l3 => k_is); (case c3 => k_is); (case k3 => k_is); (case a4 => k_is); (case l4 => k_is)
      (case c4 => k_is); (case k4 => k_is); (case a5 => k_is); (case l5 => k_is); (case c5 => k_is); (case k5 => k_is)
      (case a6 => k_is); (case l6 => k_is); (case c6 => k_is); (case k6 => k_is); (case a7 => k_is); (case l7 => k_is)
      (case c7 => k_is); (case k7 => k_is); (case a8 => k_is); (case l8 => k_is); (case c8 => k_is); (case k8 => k_is)
      (case a9 => k_is); (case l9 => k_is); (case c9 => k_is); (case k9 => k_is); (case a10 => k_is); (case l10 => k_is)
      (case c10 => k_is); (case k10 => k_is); (case a11 => k_is); (case l11 => k_is); (case c11 => k_is); (case k11 => k_is)
      (case a12 => k_is); (case l12 => k_is); (case c12 => k_is); (case k12 => k_is); (case a13 => k_is); (case l13 => k_is)
      (case c13 => k_is); (case k13 => k_is); (case a14 => k_is); (case l14 => k_is); (case c14 => k_is); (case k14 => k_is)
      (case a15 => k_is); (case l15 => k_is); (case c15 => k_is); (case k15 => k_is); (case a16 => k_is); (case l16 => k_is)
      (case c16 => k_is); (case k16 => k_is); (case a17 => k_is); (case l17 => k_is); (case c17 => k_is); (case k17 => k_is)
      (case a18 => k_is); (case l18 => k_is); (case c18 => k_is); (case k18 => k_is); (case a19 => k_is); (case l19 => k_is)
      (case c19 => k_is); (case k19 => k_is); (case a20 => k_is); (case l20 => k_is); (case c20 => k_is); (case k20 => k_is)
      (case a21 => k_is); (case l21 => k_is); (case c21 => k_is); (case k21 => k_is); (case a22 => k_is); (case l22 => k_is)
      (case c22 => k_is); (case k22 => k_is); (case a23 => k_is); (case l23 => k_is); (case c23 => k_is); (case k23 => k_is)
      (case a24 => k_is); (case l24 => k_is); (case c24 => k_is); (case k24 => k_is); (case a25 => k_is); (case l25 => k_is)
      (case c25 => k_is); (case k25 => k_is); (case a26 => k_is); (case l26 => k_is); (case c26 => k_is); (case k26 => k_is)
      (case a27 => k_is); (case l27 => k_is); (case c27 => k_is); (case k27 => k_is); (case a28 => k_is); (case l28 => k_is)
      (case c28 => k_is); (case k28 => k_is); (case a29 => k_is); (case l29 => k_is); (case c29 => k_is); (case k29 => k_is)
      (case z0 => k_is); (case z1 => k_is); (case z2 => k_is); (case z3 => k_is); (case z4 => k_is); (case z5 => k_is)
      (case z6 => k_is); (case z7 => k_is); (case z8 => k_is); (case z9 => k_is); (case z10 => k_is); (case z11 => k_is)
      (case z12 => k_is); (case z13 => k_is); (case z14 => k_is); (case z15 => k_is); (case z16 => k_is); (case z17 => k_is)
      (case kc0 => k_is); (case dd0 => k_is); (case dl0 => k_is); (case kk_0 => k_keys); (case low0 => decide); (case dv0_0 => k_is)
      (case tl1 => k_is); (case dv0_1 => k_is); (case tl7 => k_is); (case dx0_0 => k_is); (case dx0_1 => k_is); (case dx0_2 => k_is)
      (case dx0_3 => k_is); (case dx0_4 => k_is)
