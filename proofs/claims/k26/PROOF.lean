import PyProof.Rows.All
import Wide.All
import OpenK.AllK
import Wide.FinOn
import PySem.Challenge.RW_contesthouse_k26_any_string_as_a_slip
import HandS.ForMost
import HandS.ForExc
import HandS.Lambda
import HandS.ExcInit
import HandS.TryMany
import HandS.IsInst
import HandS.Wide
import HandS.TupAny
import PyProof.StrOps2
import PyProof.ListStr
import HandS.Deep
import HandS.Strs
import HandS.Style
import HandS.TupLe
import HandS.NoneIn
import HandS.CallSlots
import HandS.Defaults
import HandS.ExcField
import HandS.EndTab
set_option Elab.async false
set_option linter.all false
set_option maxRecDepth 100000
/-! PL: a layer of pure judgements over the hand layer. -/
namespace L2
namespace PL
open PySem PySem.Spec PyProof.Rows

/-! ### data -/
inductive D where
  | non | bl (b : Bool) | int (i : Int) | str (x : Str) | lst (xs : List D) | tup (xs : List D) | dct (kvs : List (Key × D))
  /-- a list that is read only -/
  | fz (xs : List D)

mutual
/-- the value v is the data d, read in the ground heap G -/
inductive Rep (K : PySem.W.Frag) (G : Hp) : V → D → Prop
  | non : Rep K G .non .non
  | bl (b : Bool) : Rep K G (.bl b) (.bl b)
  | int (i : Int) : Rep K G (.int i) (.int i)
  | str (x : Str) : Rep K G (.str x) (.str x)
  | lst {a : Addr} {xs : List V} {ds : List D} : G a = some (.lst xs) → Reps K G xs ds → Rep K G (.ref a) (.lst ds)
  | tup {a : Addr} {xs : List V} {ds : List D} : SqT K G a xs → Reps K G xs ds → Rep K G (.ref a) (.tup ds)
  | dct {a : Addr} {kvs : List (Key × V)} {ds : List (Key × D)} : G a = some (.dK kvs) → RepKs K G kvs ds → Rep K G (.ref a) (.dct ds)
  | fz {a : Addr} {xs : List V} {ds : List D} : SqL K G a xs → Reps K G xs ds → Rep K G (.ref a) (.fz ds)
inductive Reps (K : PySem.W.Frag) (G : Hp) : List V → List D → Prop
  | nil : Reps K G [] []
  | cons {v : V} {vs : List V} {d : D} {ds : List D} : Rep K G v d → Reps K G vs ds → Reps K G (v :: vs) (d :: ds)
inductive RepKs (K : PySem.W.Frag) (G : Hp) : List (Key × V) → List (Key × D) → Prop
  | nil : RepKs K G [] []
  | cons {k : Key} {v : V} {vs : List (Key × V)} {d : D} {ds : List (Key × D)} : Rep K G v d → RepKs K G vs ds → RepKs K G ((k, v) :: vs) ((k, d) :: ds)
end

def Sub (G H : Hp) : Prop := ∀ b o, G b = some o → H b = some o
/-- no table of code objects stands there -/
def NT (G : Hp) : Prop := ∀ b ps, G b ≠ some (.tbl ps)
theorem NT.upd {G : Hp} {p : Addr} {o : HO} (h : NT G) (ho : ∀ ps, o ≠ .tbl ps) : NT (upd G p o) := fun b ps e => by
  by_cases hb : b = p
  · subst hb; rw [upd_same] at e; exact ho ps (Option.some.inj e)
  · rw [upd_ne hb] at e; exact h b ps e
theorem Sub.refl (H : Hp) : Sub H H := fun _ _ h => h
theorem Sub.trans {A B C : Hp} (a : Sub A B) (b : Sub B C) : Sub A C := fun x o h => b x o (a x o h)
theorem Sub.sqT {K : PySem.W.Frag} {G H : Hp} {a : Addr} {xs : List V} (s : Sub G H) (h : SqT K G a xs) : SqT K H a xs := by
  rcases h with (h | ⟨o, h⟩) | h
  · exact .inl (.inl (s _ _ h))
  · exact .inl (.inr ⟨o, s _ _ h⟩)
  · exact .inr h

theorem Sub.sqL' {K : PySem.W.Frag} {G H : Hp} {a : Addr} {xs : List V} (s : Sub G H) (h : SqL K G a xs) : SqL K H a xs := by
  rcases h with (h | ⟨o, h⟩) | h
  · exact .inl (.inl (s _ _ h))
  · exact .inl (.inr ⟨o, s _ _ h⟩)
  · exact .inr h
section
variable {K : PySem.W.Frag} {G H : Hp}
mutual
theorem Rep.sub (s : Sub G H) : ∀ {d : D} {v : V}, Rep K G v d → Rep K H v d
  | .non, _, h => by cases h; exact .non
  | .bl b, _, h => by cases h; exact .bl b
  | .int i, _, h => by cases h; exact .int i
  | .str x, _, h => by cases h; exact .str x
  | .lst ds, _, h => by
    cases h with
    | lst h1 h2 => exact .lst (s _ _ h1) (Reps.sub s h2)
  | .tup ds, _, h => by
    cases h with
    | tup h1 h2 => exact .tup (s.sqT h1) (Reps.sub s h2)
  | .dct ds, _, h => by
    cases h with
    | dct h1 h2 => exact .dct (s _ _ h1) (RepKs.sub s h2)
  | .fz ds, _, h => by
    cases h with
    | fz h1 h2 => exact .fz (s.sqL' h1) (Reps.sub s h2)
theorem Reps.sub (s : Sub G H) : ∀ {ds : List D} {vs : List V}, Reps K G vs ds → Reps K H vs ds
  | [], _, h => by cases h; exact .nil
  | d :: ds, _, h => by
    cases h with
    | cons h1 h2 => exact .cons (Rep.sub s h1) (Reps.sub s h2)
theorem RepKs.sub (s : Sub G H) : ∀ {ds : List (Key × D)} {vs : List (Key × V)}, RepKs K G vs ds → RepKs K H vs ds
  | [], _, h => by cases h; exact .nil
  | (k, d) :: ds, _, h => by
    cases h with
    | cons h1 h2 => exact .cons (Rep.sub s h1) (RepKs.sub s h2)
end
theorem Reps.length : ∀ {vs : List V} {ds : List D}, Reps K G vs ds → vs.length = ds.length
  | _, [], h => by cases h; rfl
  | _, d :: ds, h => by
    cases h with
    | cons h1 h2 => exact congrArg (· + 1) (Reps.length h2)
theorem Reps.get : ∀ {ds : List D} {vs : List V} {i : Nat} {d : D}, Reps K G vs ds → ds[i]? = some d → ∃ v, vs[i]? = some v ∧ Rep K G v d
  | [], _, i, d, _, e => by simp at e
  | x :: ds, _, 0, d, h, e => by
    cases h with
    | cons h1 h2 =>
      have e' : x = d := by simpa using e
      subst e'
      exact ⟨_, rfl, h1⟩
  | x :: ds, _, i + 1, d, h, e => by
    cases h with
    | cons h1 h2 =>
      obtain ⟨v, q1, q2⟩ := Reps.get (i := i) (d := d) h2 (by simpa using e)
      exact ⟨v, by simpa using q1, q2⟩
theorem Reps.append : ∀ {ds es : List D} {vs ws : List V}, Reps K G vs ds → Reps K G ws es → Reps K G (vs ++ ws) (ds ++ es)
  | [], _, _, _, h, g => by cases h; exact g
  | d :: ds, es, _, ws, h, g => by
    cases h with
    | cons h1 h2 => exact .cons h1 (Reps.append h2 g)
theorem Reps.take : ∀ {ds : List D} {vs : List V} (n : Nat), Reps K G vs ds → Reps K G (vs.take n) (ds.take n)
  | [], _, n, h => by cases h; simp; exact .nil
  | d :: ds, _, 0, h => by
    cases h with
    | cons h1 h2 => exact .nil
  | d :: ds, _, n + 1, h => by
    cases h with
    | cons h1 h2 => exact .cons h1 (Reps.take n h2)
theorem Reps.drop : ∀ {ds : List D} {vs : List V} (n : Nat), Reps K G vs ds → Reps K G (vs.drop n) (ds.drop n)
  | [], _, n, h => by cases h; simp; exact .nil
  | d :: ds, _, 0, h => h
  | d :: ds, _, n + 1, h => by
    cases h with
    | cons h1 h2 => exact Reps.drop n h2
theorem Reps.eraseIdx : ∀ {ds : List D} {vs : List V} (n : Nat), Reps K G vs ds → Reps K G (vs.eraseIdx n) (ds.eraseIdx n)
  | [], _, n, h => by cases h; exact .nil
  | d :: ds, _, 0, h => by
    cases h with
    | cons h1 h2 => exact h2
  | d :: ds, _, n + 1, h => by
    cases h with
    | cons h1 h2 => exact .cons h1 (Reps.eraseIdx n h2)
theorem Reps.set : ∀ {ds : List D} {vs : List V} (n : Nat) {v : V} {d : D}, Reps K G vs ds → Rep K G v d → Reps K G (vs.set n v) (ds.set n d)
  | [], _, n, _, _, h, _ => by cases h; exact .nil
  | d :: ds, _, 0, _, _, h, r => by
    cases h with
    | cons h1 h2 => exact .cons r h2
  | d :: ds, _, n + 1, _, _, h, r => by
    cases h with
    | cons h1 h2 => exact .cons h1 (Reps.set n h2 r)
theorem Reps.strs : ∀ {ss : List Str} {vs : List V}, Reps K G vs (ss.map D.str) → vs = ss.map V.str
  | [], _, h => by cases h; rfl
  | s :: ss, _, h => by
    cases h with
    | cons h1 h2 => cases h1; rw [Reps.strs h2]; rfl
theorem Reps.of_strs : ∀ (ss : List Str), Reps K G (ss.map V.str) (ss.map D.str)
  | [] => .nil
  | s :: ss => .cons (.str s) (Reps.of_strs ss)
theorem Reps.ints : ∀ {ss : List Int} {vs : List V}, Reps K G vs (ss.map D.int) → vs = ss.map V.int
  | [], _, h => by cases h; rfl
  | s :: ss, _, h => by
    cases h with
    | cons h1 h2 => cases h1; rw [Reps.ints h2]; rfl
theorem Reps.of_ints : ∀ (ss : List Int), Reps K G (ss.map V.int) (ss.map D.int)
  | [] => .nil
  | s :: ss => .cons (.int s) (Reps.of_ints ss)
theorem Reps.bls : ∀ {ss : List Bool} {vs : List V}, Reps K G vs (ss.map D.bl) → vs = ss.map V.bl
  | [], _, h => by cases h; rfl
  | s :: ss, _, h => by
    cases h with
    | cons h1 h2 => cases h1; rw [Reps.bls h2]; rfl
theorem Reps.snoc {ds : List D} {vs : List V} {v : V} {d : D} (h : Reps K G vs ds) (r : Rep K G v d) : Reps K G (vs ++ [v]) (ds ++ [d]) := h.append (.cons r .nil)
theorem Reps.rep : ∀ (k : Nat) {ds : List D} {vs : List V}, Reps K G vs ds → Reps K G (List.replicate k vs).flatten (List.replicate k ds).flatten
  | 0, _, _, _ => .nil
  | k + 1, _, _, h => by
    rw [List.replicate_succ, List.replicate_succ, List.flatten_cons, List.flatten_cons]
    exact h.append (Reps.rep k h)
end

/-! ### slots -/
inductive SV where
  | un | d (x : D) | own (xs : List D)
abbrev PEnv := List SV
def SlotOk (K : PySem.W.Frag) (G H : Hp) : SV → Option V → Prop
  | .un, _ => True
  | .d x, some v => Rep K G v x
  | .d _, none => False
  | .own xs, some v => ∃ a vs, v = .ref a ∧ H a = some (.lst vs) ∧ Reps K G vs xs ∧ G a = none
  | .own _, none => False
def Own (ρ : PEnv) (σ : St) (a : Addr) : Prop := ∃ (i : Nat) (xs : List D), ρ[i]? = some (.own xs) ∧ σ[i]? = some (some (.ref a))
/-- static: the written part, the tables of code objects, the slots that are the caller's own lists -/
structure Cz where
  T : List (Addr × Str)
  io : List (Nat × Addr)
structure ER (K : PySem.W.Frag) (c : Cz) (ρ : PEnv) (σ : St) (G H : Hp) : Prop where
  len : ρ.length = σ.length
  slot : ∀ (i : Nat) (s : SV), ρ[i]? = some s → SlotOk K G H s (σ[i]?.getD none)
  sub : Sub G H
  nt : NT G
  sep : ∀ (i j : Nat) (xs ys : List D) (a : Addr), ρ[i]? = some (.own xs) → ρ[j]? = some (.own ys) → σ[i]? = some (some (.ref a)) → σ[j]? = some (some (.ref a)) → i = j
  tabs : LamX.Tabs c.T H
  io : ∀ p ∈ c.io, σ[p.1]? = some (some (.ref p.2)) ∧ ∃ xs, ρ[p.1]? = some (.own xs)
/-- from (G, H) to (G', H'), O may have changed or been let go -/
structure Step (O : Addr → Prop) (G H G' H' : Hp) : Prop where
  g : Sub G G'
  n : ∀ b o, G' b = some o → G b = some o ∨ H b = none ∨ O b
  k : ∀ b o, H b = some o → ¬ O b → (∀ ps, o ≠ .tbl ps) → H' b = some o
  d : ∀ b, H' b = none → H b = none
  t : NT G → NT G'
theorem Step.refl (O : Addr → Prop) (G H : Hp) : Step O G H G H := ⟨Sub.refl G, fun _ _ h => .inl h, fun _ _ h _ _ => h, fun _ h => h, id⟩
theorem Step.trans {O O' : Addr → Prop} {G H G1 H1 G2 H2 : Hp} (a : Step O G H G1 H1) (b : Step O' G1 H1 G2 H2) (ho : ∀ x, O' x → O x ∨ H x = none) : Step O G H G2 H2 where
  g := a.g.trans b.g
  n := fun x o h => by
    rcases b.n x o h with h1 | h1 | h1
    · exact a.n x o h1
    · exact .inr (.inl (a.d x h1))
    · rcases ho x h1 with q | q
      · exact .inr (.inr q)
      · exact .inr (.inl q)
  k := fun x o h no nt => b.k x o (a.k x o h no nt) (fun q => by
    rcases ho x q with q | q
    · exact no q
    · rw [q] at h; cases h) nt
  d := fun x h => a.d x (b.d x h)
  t := fun h => b.t (a.t h)
theorem Step.mono {O O' : Addr → Prop} {G H G' H' : Hp} (a : Step O G H G' H') (ho : ∀ x, O x → O' x ∨ H x = none) : Step O' G H G' H' where
  g := a.g
  n := fun x o h => by
    rcases a.n x o h with q | q | q
    · exact .inl q
    · exact .inr (.inl q)
    · rcases ho x q with q | q
      · exact .inr (.inr q)
      · exact .inr (.inl q)
  k := fun x o h no nt => a.k x o h (fun q => by
    rcases ho x q with q | q
    · exact no q
    · rw [q] at h; cases h) nt
  d := a.d
  t := a.t
def OwnS (ρ : PEnv) (σ : St) (H : Hp) (ρ' : PEnv) (σ' : St) : Prop := ∀ a, Own ρ' σ' a → Own ρ σ a ∨ H a = none
theorem OwnS.refl (ρ : PEnv) (σ : St) (H : Hp) : OwnS ρ σ H ρ σ := fun _ h => .inl h

/-! ### results -/
/-- an exception: its class's name, its fields -/
structure Exn where
  cls : Str
  fs : List (Str × D)
inductive R (α : Type) where
  | ok (a : α) (ρ : PEnv) | er (x : Exn) (ρ : PEnv) | bad
def R.bind {α β : Type} : R α → (α → PEnv → R β) → R β
  | .ok a ρ, k => k a ρ
  | .er x ρ, _ => .er x ρ
  | .bad, _ => .bad
abbrev GE (α : Type) := PEnv → R α
end PL
end L2
set_option Elab.async false
set_option linter.all false
set_option maxRecDepth 100000
namespace L2
namespace PL
open PySem PySem.Spec PyProof.Rows

/-! ### states go on -/
structure StepN (G H G' H' : Hp) : Prop where
  g : Sub G G'
  n : ∀ b o, G' b = some o → G b = some o ∨ H b = none
  k : Sub H H'
  s : Sub G' H'
  t : NT G → NT G'
theorem StepN.refl {G H : Hp} (h : Sub G H) : StepN G H G H := ⟨Sub.refl G, fun _ _ e => .inl e, Sub.refl H, h, id⟩
theorem StepN.step {G H G' H' : Hp} (t : StepN G H G' H') (O : Addr → Prop) : Step O G H G' H' where
  g := t.g
  n := fun b o e => (t.n b o e).elim .inl fun q => .inr (.inl q)
  k := fun b o e _ _ => t.k b o e
  d := fun b e => by
    cases q : H b with
    | none => rfl
    | some o => rw [t.k b o q] at e; cases e
  t := t.t
/-- a new object on the ground -/
theorem StepN.new {G H : Hp} {p : Addr} {o : HO} (s : Sub G H) (hp : H p = none) (ho : ∀ ps, o ≠ .tbl ps := by intro ps z; cases z) : StepN G H (upd G p o) (upd H p o) where
  t := fun h => h.upd ho
  g := fun b u e => by
    rw [upd_ne (ne_of_none (s b u e) hp)]; exact e
  n := fun b u e => by
    by_cases hb : b = p
    · subst hb; exact .inr hp
    · rw [upd_ne hb] at e; exact .inl e
  k := fun b u e => by rw [upd_ne (ne_of_none e hp)]; exact e
  s := fun b u e => by
    by_cases hb : b = p
    · subst hb; rw [upd_same] at e ⊢; exact e
    · rw [upd_ne hb] at e ⊢; exact s b u e
theorem own_tracked {K : PySem.W.Frag} {c : Cz} {ρ : PEnv} {σ : St} {G H : Hp} (E : ER K c ρ σ G H) {a : Addr} (o : Own ρ σ a) : ∃ vs, H a = some (.lst vs) ∧ G a = none := by
  obtain ⟨i, xs, h1, h2⟩ := o
  have q := E.slot i _ h1
  rw [h2] at q
  obtain ⟨b, vs, e, hb, _, hg⟩ := q
  cases e
  exact ⟨vs, hb, hg⟩
theorem ER.stepN {K : PySem.W.Frag} {c : Cz} {ρ : PEnv} {σ : St} {G H G' H' : Hp} (E : ER K c ρ σ G H) (t : StepN G H G' H') : ER K c ρ σ G' H' where
  len := E.len
  slot := fun i s e => by
    have q := E.slot i s e
    cases s with
    | un => trivial
    | d x =>
      cases hσ : (σ[i]?.getD none) with
      | none => rw [hσ] at q; exact q.elim
      | some v => rw [hσ] at q; exact Rep.sub t.g q
    | own xs =>
      cases hσ : (σ[i]?.getD none) with
      | none => rw [hσ] at q; exact q.elim
      | some v =>
        rw [hσ] at q
        obtain ⟨a, vs, e1, e2, e3, e4⟩ := q
        refine ⟨a, vs, e1, t.k _ _ e2, Reps.sub t.g e3, ?_⟩
        cases q : G' a with
        | none => rfl
        | some o =>
          rcases t.n a o q with z | z
          · rw [e4] at z; cases z
          · rw [e2] at z; cases z
  sub := t.s
  nt := t.t E.nt
  sep := E.sep
  tabs := E.tabs.ext t.k
  io := E.io

/-- how an exception stands: its class's address, its dict -/
def XR (K : PySem.W.Frag) (mg : Str → Option Value) (x : Exn) (C dd : Addr) (G H : Hp) : Prop :=
  mg x.cls = some (.ref C) ∧ ∃ fs : List (Str × V), H dd = some (.xd fs) ∧ Paired (fun (p : Str × V) (q : Str × D) => p.1 = q.1 ∧ Rep K G p.2 q.2) fs x.fs
def Gd {α β : Type} (X : Cx) (c : Cz) (W : WX) (ρ : PEnv) (σ : St) (G H : Hp) (r : R α) (Rel : Hp → α → β → Prop) (Q : β → Hp → Prop) : Prop :=
  match r with
  | .ok a ρ' => ∀ b G' H', ER X.K c ρ' σ G' H' → Step (Own ρ σ) G H G' H' → OwnS ρ σ H ρ' σ → Rel G' a b → Q b H'
  | .er x ρ' => ∀ C dd G' H', ER X.K c ρ' σ G' H' → Step (Own ρ σ) G H G' H' → OwnS ρ σ H ρ' σ → XR X.K X.mg x C dd G' H' → W (.ref C) (some dd) σ H'
  | .bad => False
theorem OwnS.trans {ρ ρ1 ρ2 : PEnv} {σ σ1 σ2 : St} {O : Addr → Prop} {G H G1 H1 : Hp} (a : OwnS ρ σ H ρ1 σ1) (t : Step O G H G1 H1) (b : OwnS ρ1 σ1 H1 ρ2 σ2) : OwnS ρ σ H ρ2 σ2 := fun x h => by
  rcases b x h with q | q
  · exact a x q
  · exact .inr (t.d x q)
section
variable {α β γ δ : Type} {X : Cx} {c : Cz} {W : WX} {ρ ρ1 : PEnv} {σ : St} {G H G1 H1 : Hp}
theorem Gd.shift {r : R α} {Rel : Hp → α → β → Prop} {Q : β → Hp → Prop} (h : Gd X c W ρ σ G H r Rel Q) (t : Step (Own ρ σ) G H G1 H1) (o : OwnS ρ σ H ρ1 σ) : Gd X c W ρ1 σ G1 H1 r Rel Q := by
  cases r with
  | ok a ρ' => exact fun b G' H' e t' o' rel => h b G' H' e (t.trans t' o) (o.trans t o') rel
  | er x ρ' => exact fun C dd G' H' e t' o' rel => h C dd G' H' e (t.trans t' o) (o.trans t o') rel
  | bad => exact h
theorem Gd.bind {r : R α} {k : α → PEnv → R γ} {Rel1 : Hp → α → β → Prop} {Rel2 : Hp → γ → δ → Prop} {Q : δ → Hp → Prop} {M : β → Hp → Prop} (h : Gd X c W ρ σ G H (r.bind k) Rel2 Q)
    (hm : ∀ a ρ1 b G1 H1, ER X.K c ρ1 σ G1 H1 → Step (Own ρ σ) G H G1 H1 → Rel1 G1 a b → Gd X c W ρ1 σ G1 H1 (k a ρ1) Rel2 Q → M b H1) : Gd X c W ρ σ G H r Rel1 M := by
  cases r with
  | ok a ρ' => exact fun b G' H' e t o rel => hm a ρ' b G' H' e t rel (Gd.shift (show Gd X c W ρ σ G H (k a ρ') Rel2 Q from h) t o)
  | er x ρ' => exact h
  | bad => exact h
/-- the end of a chain -/
theorem Gd.here {a : α} {b : β} {Rel : Hp → α → β → Prop} {Q : β → Hp → Prop} (h : Gd X c W ρ σ G H (.ok a ρ) Rel Q) (E : ER X.K c ρ σ G H) (r : Rel G a b) : Q b H := h b G H E (Step.refl _ _ _) (OwnS.refl _ _ _) r
theorem Gd.new {a : α} {b : β} {G' H' : Hp} {Rel : Hp → α → β → Prop} {Q : β → Hp → Prop} (h : Gd X c W ρ σ G H (.ok a ρ) Rel Q) (E : ER X.K c ρ σ G H) (t : StepN G H G' H') (r : Rel G' a b) : Q b H' :=
  h b G' H' (E.stepN t) (t.step _) (OwnS.refl _ _ _) r
end

/-! ### judgements -/
def ofOpt {α : Type} : Option α → PEnv → R α
  | some d, ρ => .ok d ρ
  | none, _ => .bad
section
variable (X : Cx) (c : Cz) (W : WX)
abbrev RV : Hp → D → V → Prop := fun G d v => Rep X.K G v d
abbrev RVs : Hp → List D → List V → Prop := fun G d v => Reps X.K G v d
abbrev RB : Hp → Bool → Bool → Prop := fun _ a b => a = b
/-- a new list that no one else holds -/
abbrev RL : Hp → List D → V → Prop := fun G _ _ => True
def EX (e : Expr) (g : GE D) : Prop := ∃ t, PE X e t ∧ ∀ ρ σ G H Q, ER X.K c ρ σ G H → Gd X c W ρ σ G H (g ρ) (RV X) Q → t σ H Q
def TX (e : Expr) (g : GE Bool) : Prop := ∃ t, PT X e t ∧ ∀ ρ σ G H Q, ER X.K c ρ σ G H → Gd X c W ρ σ G H (g ρ) RB Q → t σ H Q
def WXT (e : Expr) (g : GE Bool) : Prop := ∃ t, PW X e t ∧ ∀ ρ σ G H Q, ER X.K c ρ σ G H → Gd X c W ρ σ G H (g ρ) RB Q → t σ H Q
def AX (es : List Expr) (g : GE (List D)) : Prop := ∃ t, PA X es t ∧ ∀ ρ σ G H Q, ER X.K c ρ σ G H → Gd X c W ρ σ G H (g ρ) (RVs X) Q → t σ H Q
/-- an expression that makes a new list: it is not on the ground yet -/
def LX (e : Expr) (g : GE (List D)) : Prop := ∃ t, PE X e t ∧ ∀ ρ σ G H Q, ER X.K c ρ σ G H →
  (match g ρ with
  | .ok xs ρ' => ∀ p vs G' H', ER X.K c ρ' σ G' H' → Step (Own ρ σ) G H G' H' → OwnS ρ σ H ρ' σ → H p = none → H' p = some (.lst vs) → G' p = none → ¬ Own ρ' σ p → Reps X.K G' vs xs → Q (.ref p) H'
  | .er x ρ' => ∀ C dd G' H', ER X.K c ρ' σ G' H' → Step (Own ρ σ) G H G' H' → OwnS ρ σ H ρ' σ → XR X.K X.mg x C dd G' H' → W (.ref C) (some dd) σ H'
  | .bad => False) → t σ H Q
end
section
variable {X : Cx} {c : Cz} {W : WX}
/-- a new list, put on the ground -/
theorem ER.ground {K : PySem.W.Frag} {ρ : PEnv} {σ : St} {G H : Hp} {p : Addr} {vs : List V} (E : ER K c ρ σ G H) (hp : H p = some (.lst vs)) (hg : G p = none) (no : ¬ Own ρ σ p) : ER K c ρ σ (upd G p (.lst vs)) H where
  len := E.len
  slot := fun i s e => by
    have q := E.slot i s e
    have sb : Sub G (upd G p (.lst vs)) := fun b o z => by rw [upd_ne (ne_of_none z hg)]; exact z
    cases s with
    | un => trivial
    | d x =>
      cases hσ : (σ[i]?.getD none) with
      | none => rw [hσ] at q; exact q.elim
      | some v => rw [hσ] at q; exact Rep.sub sb q
    | own xs =>
      cases hσ : (σ[i]?.getD none) with
      | none => rw [hσ] at q; exact q.elim
      | some v =>
        rw [hσ] at q
        obtain ⟨a, ws, e1, e2, e3, e4⟩ := q
        have na : a ≠ p := fun z => no (by
          subst z
          refine ⟨i, xs, e, ?_⟩
          cases hs : σ[i]? with
          | none => rw [hs] at hσ; cases hσ
          | some u =>
            rw [hs] at hσ
            have : u = some v := hσ
            rw [this, e1])
        exact ⟨a, ws, e1, e2, Reps.sub sb e3, by rw [upd_ne na]; exact e4⟩
  sub := fun b o e => by
    by_cases hb : b = p
    · subst hb; rw [upd_same] at e; rw [← e]; exact hp
    · rw [upd_ne hb] at e; exact E.sub b o e
  nt := E.nt.upd fun ps z => by cases z
  sep := E.sep
  tabs := E.tabs
  io := E.io
def lstE (g : GE (List D)) : GE D := fun ρ => (g ρ).bind fun xs ρ' => .ok (.lst xs) ρ'
theorem LX.ex {e : Expr} {g : GE (List D)} (h : LX X c W e g) : EX X c W e (lstE g) := by
  obtain ⟨t, p, ht⟩ := h
  refine ⟨t, p, fun ρ σ G H Q E hq => ht ρ σ G H Q E ?_⟩
  unfold lstE at hq
  cases hg : g ρ with
  | bad => rw [hg] at hq; exact hq
  | er x ρ' => rw [hg] at hq; exact hq
  | ok xs ρ' =>
    rw [hg] at hq
    intro p vs G' H' E' st ow h0 hp hgp no hr
    have sb : Sub G' (upd G' p (.lst vs)) := fun b o z => by rw [upd_ne (ne_of_none z hgp)]; exact z
    refine hq (.ref p) (upd G' p (.lst vs)) H' (E'.ground hp hgp no) ⟨st.g.trans sb, fun b o z => ?_, st.k, st.d, fun h => (st.t h).upd fun ps z => by cases z⟩ ow (.lst upd_same (Reps.sub sb hr))
    by_cases hb : b = p
    · subst hb; exact .inr (.inl h0)
    · rw [upd_ne hb] at z; exact st.n b o z

/-! ### names, constants -/
def varE (i : Nat) : GE D := fun ρ => match ρ[i]? with
  | some (.d x) => .ok x ρ
  | some (.own xs) => .ok (.lst xs) (ρ.set i (.d (.lst xs)))
  | _ => .bad
theorem slot_d {K : PySem.W.Frag} {ρ : PEnv} {σ : St} {G H : Hp} {i : Nat} {x : D} (E : ER K c ρ σ G H) (h : ρ[i]? = some (.d x)) : ∃ v, σ[i]? = some (some v) ∧ Rep K G v x := by
  have q := E.slot i _ h
  cases hs : σ[i]? with
  | none => rw [hs] at q; exact q.elim
  | some u =>
    rw [hs] at q
    cases u with
    | none => exact q.elim
    | some v => exact ⟨v, rfl, q⟩
theorem slot_own {K : PySem.W.Frag} {ρ : PEnv} {σ : St} {G H : Hp} {i : Nat} {xs : List D} (E : ER K c ρ σ G H) (h : ρ[i]? = some (.own xs)) : ∃ a vs, σ[i]? = some (some (.ref a)) ∧ H a = some (.lst vs) ∧ Reps K G vs xs ∧ G a = none := by
  have q := E.slot i _ h
  cases hs : σ[i]? with
  | none => rw [hs] at q; exact q.elim
  | some u =>
    rw [hs] at q
    cases u with
    | none => exact q.elim
    | some v =>
      obtain ⟨a, vs, e, r⟩ := q
      subst e
      exact ⟨a, vs, rfl, r⟩
/-- an own list is let go: it is data from now on -/
theorem ER.letgo {K : PySem.W.Frag} {ρ : PEnv} {σ : St} {G H : Hp} {i : Nat} {xs : List D} {a : Addr} {vs : List V} (E : ER K c ρ σ G H) (h : ρ[i]? = some (.own xs)) (hs : σ[i]? = some (some (.ref a))) (ha : H a = some (.lst vs)) (hr : Reps K G vs xs) (hg : G a = none) (hio : ∀ p ∈ c.io, p.1 ≠ i) :
    ER K c (ρ.set i (.d (.lst xs))) σ (upd G a (.lst vs)) H := by
  have sb : Sub G (upd G a (.lst vs)) := fun b o z => by rw [upd_ne (ne_of_none z hg)]; exact z
  refine ⟨by rw [List.length_set]; exact E.len, fun j s e => ?_, fun b o e => ?_, E.nt.upd fun ps z => (by cases z), fun j k ys zs b e1 e2 e3 e4 => ?_, E.tabs, fun p hp => ?_⟩
  · by_cases hj : j = i
    · subst hj
      have hlt : j < ρ.length := (List.getElem?_eq_some_iff.mp h).1
      rw [List.getElem?_set_self hlt] at e
      cases e
      rw [hs]
      exact .lst upd_same (Reps.sub sb hr)
    · rw [List.getElem?_set_ne (Ne.symm hj)] at e
      have q := E.slot j s e
      cases s with
      | un => trivial
      | d x =>
        cases hσ : (σ[j]?.getD none) with
        | none => rw [hσ] at q; exact q.elim
        | some v => rw [hσ] at q; exact Rep.sub sb q
      | own ys =>
        obtain ⟨b, ws, q1, q2, q3, q4⟩ := slot_own E e
        have nb : b ≠ a := fun z => hj (E.sep j i ys xs b e h q1 (by rw [z]; exact hs))
        rw [q1]
        exact ⟨b, ws, rfl, q2, Reps.sub sb q3, by rw [upd_ne nb]; exact q4⟩
  · by_cases hb : b = a
    · subst hb; rw [upd_same] at e; rw [← e]; exact ha
    · rw [upd_ne hb] at e; exact E.sub b o e
  · have f : ∀ (j : Nat) (ys : List D), (ρ.set i (.d (.lst xs)))[j]? = some (.own ys) → ρ[j]? = some (.own ys) := fun j ys e => by
      by_cases hj : j = i
      · subst hj
        have hlt : j < ρ.length := (List.getElem?_eq_some_iff.mp h).1
        rw [List.getElem?_set_self hlt] at e
        cases e
      · rw [List.getElem?_set_ne (Ne.symm hj)] at e; exact e
    exact E.sep j k ys zs b (f _ _ e1) (f _ _ e2) e3 e4
  · obtain ⟨q1, ys, q2⟩ := E.io p hp
    exact ⟨q1, ys, by rw [List.getElem?_set_ne (Ne.symm (hio p hp))]; exact q2⟩
theorem own_set_d {ρ : PEnv} {σ : St} {i : Nat} {x : D} {a : Addr} (h : Own (ρ.set i (.d x)) σ a) : Own ρ σ a := by
  obtain ⟨j, ys, e1, e2⟩ := h
  by_cases hj : j = i
  · subst hj
    by_cases hlt : j < ρ.length
    · rw [List.getElem?_set_self hlt] at e1; cases e1
    · rw [List.set_eq_of_length_le (by omega)] at e1
      exact ⟨j, ys, e1, e2⟩
  · rw [List.getElem?_set_ne (Ne.symm hj)] at e1
    exact ⟨j, ys, e1, e2⟩
theorem EX.var {i : Nat} {x : Str} {pos : Pos} (hio : ∀ p ∈ c.io, p.1 ≠ i) (hp : PE X (.Name x pos) (tVar i)) : EX X c W (.Name x pos) (varE i) := by
  refine ⟨_, hp, fun ρ σ G H Q E hq => ?_⟩
  unfold varE at hq
  cases h : ρ[i]? with
  | none => rw [h] at hq; exact hq.elim
  | some s =>
    rw [h] at hq
    cases s with
    | un => exact hq.elim
    | d y =>
      obtain ⟨v, e, r⟩ := slot_d E h
      exact ⟨v, e, hq.here E r⟩
    | own xs =>
      obtain ⟨a, vs, e1, e2, e3, e4⟩ := slot_own E h
      have sb : Sub G (upd G a (.lst vs)) := fun b o z => by rw [upd_ne (ne_of_none z e4)]; exact z
      refine ⟨.ref a, e1, hq (.ref a) (upd G a (.lst vs)) H (E.letgo h e1 e2 e3 e4 hio) ⟨sb, fun b o z => ?_, fun _ _ e _ _ => e, fun _ e => e, fun h => h.upd fun ps z => (by cases z)⟩ (fun b hb => .inl (own_set_d hb)) (.lst upd_same (Reps.sub sb e3))⟩
      by_cases hb : b = a
      · subst hb; exact .inr (.inr ⟨i, xs, h, e1⟩)
      · rw [upd_ne hb] at z; exact .inl z
def cE (d : D) : GE D := fun ρ => .ok d ρ
theorem EX.const {e : Expr} {v : V} {d : D} (hp : PE X e (tC v)) (hd : ∀ G, Rep X.K G v d) : EX X c W e (cE d) :=
  ⟨_, hp, fun ρ σ G H Q E hq => hq.here E (hd G)⟩
theorem EX.int {i : Int} {j : Nat} {pos : Pos} : EX X c W (.Constant (.int i) j pos) (cE (.int i)) := EX.const pe_int fun _ => .int i
theorem EX.str {x : Str} {j : Nat} {pos : Pos} : EX X c W (.Constant (.str x) j pos) (cE (.str x)) := EX.const pe_str fun _ => .str x
theorem EX.bl {b : Bool} {j : Nat} {pos : Pos} : EX X c W (.Constant (.bool b) j pos) (cE (.bl b)) := EX.const pe_bl fun _ => .bl b
theorem EX.non {j : Nat} {pos : Pos} : EX X c W (.Constant .none j pos) (cE .non) := EX.const pe_non fun _ => .non

/-! ### operations on values -/
/-- r, told by f on data; none: not told -/
def Op1 (X : Cx) (r : V → Hp → VK → Prop) (f : D → Option D) : Prop := ∀ (G H : Hp) (x : V) (dx : D) (d : D) (Q : VK), Sub G H → Rep X.K G x dx → f dx = some d →
  (∀ v G' H', StepN G H G' H' → Rep X.K G' v d → Q v H') → r x H Q
def Op2 (X : Cx) (r : R2) (f : D → D → Option D) : Prop := ∀ (G H : Hp) (x y : V) (dx dy d : D) (Q : VK), Sub G H → Rep X.K G x dx → Rep X.K G y dy → f dx dy = some d →
  (∀ v G' H', StepN G H G' H' → Rep X.K G' v d → Q v H') → r x y H Q
def OpL (X : Cx) (r : List V → Hp → VK → Prop) (f : List D → Option D) : Prop := ∀ (G H : Hp) (xs : List V) (ds : List D) (d : D) (Q : VK), Sub G H → Reps X.K G xs ds → f ds = some d →
  (∀ v G' H', StepN G H G' H' → Rep X.K G' v d → Q v H') → r xs H Q
def binE (f : D → D → Option D) (ga gb : GE D) : GE D := fun ρ => (ga ρ).bind fun x ρ1 => (gb ρ1).bind fun y ρ2 => ofOpt (f x y) ρ2
def unE (f : D → Option D) (ga : GE D) : GE D := fun ρ => (ga ρ).bind fun x ρ1 => ofOpt (f x) ρ1
def appE (f : List D → Option D) (ga : GE (List D)) : GE D := fun ρ => (ga ρ).bind fun x ρ1 => ofOpt (f x) ρ1
theorem Gd.opt {ρ : PEnv} {σ : St} {G H : Hp} {o : Option D} {Q : VK} (h : Gd X c W ρ σ G H (ofOpt o ρ) (RV X) Q) (E : ER X.K c ρ σ G H) : ∃ d, o = some d ∧ ∀ v G' H', StepN G H G' H' → Rep X.K G' v d → Q v H' := by
  cases o with
  | none => exact h.elim
  | some d => exact ⟨d, rfl, fun v G' H' t r => Gd.new (Rel := RV X) (show Gd X c W ρ σ G H (.ok d ρ) (RV X) Q from h) E t r⟩
theorem bin_ok {r : R2} {f : D → D → Option D} {ta tb : TE} {ga gb : GE D} (ho : Op2 X r f) (ha : ∀ ρ σ G H Q, ER X.K c ρ σ G H → Gd X c W ρ σ G H (ga ρ) (RV X) Q → ta σ H Q) (hb : ∀ ρ σ G H Q, ER X.K c ρ σ G H → Gd X c W ρ σ G H (gb ρ) (RV X) Q → tb σ H Q) :
    ∀ ρ σ G H Q, ER X.K c ρ σ G H → Gd X c W ρ σ G H (binE f ga gb ρ) (RV X) Q → tOp r ta tb σ H Q := fun ρ σ G H Q E hq =>
  ha ρ σ G H _ E (Gd.bind hq fun x ρ1 v G1 H1 E1 t1 r1 h1 => hb ρ1 σ G1 H1 _ E1 (Gd.bind h1 fun y ρ2 u G2 H2 E2 t2 r2 h2 => by
    obtain ⟨d, e, k⟩ := Gd.opt h2 E2
    exact ho G2 H2 v u x y d Q E2.sub (Rep.sub t2.g r1) r2 e k))
theorem EX.bin {op : Operator} {r : R2} {f : D → D → Option D} {a b : Expr} {ga gb : GE D} {pos : Pos} (ho : Op2 X r f) (hr : OpR X (binaryOp op) r) (ha : EX X c W a ga) (hb : EX X c W b gb) : EX X c W (.BinOp a op b pos) (binE f ga gb) := by
  obtain ⟨ta, pa, qa⟩ := ha
  obtain ⟨tb, pb, qb⟩ := hb
  exact ⟨_, pe_op hr pa pb, bin_ok ho qa qb⟩
theorem EX.cmp {op : CmpOp} {r : R2} {f : D → D → Option D} {a b : Expr} {ga gb : GE D} {pos : Pos} (ho : Op2 X r f) (hr : OpR X (compareOp op) r) (ha : EX X c W a ga) (hb : EX X c W b gb) (hm : behindInMarks op b = false := by first | exact nobehind _ (by decide) (by decide) | rfl) :
    EX X c W (.Compare a [op] [b] pos) (binE f ga gb) := by
  obtain ⟨ta, pa, qa⟩ := ha
  obtain ⟨tb, pb, qb⟩ := hb
  exact ⟨_, pe_cmpR hr pa pb hm, bin_ok ho qa qb⟩
theorem EX.un {op : UnaryOp} {r : V → Hp → VK → Prop} {f : D → Option D} {a : Expr} {ga : GE D} {pos : Pos} (ho : Op1 X r f) (hr : UnR X (unaryOp op) r) (ha : EX X c W a ga) : EX X c W (.UnaryOp op a pos) (unE f ga) := by
  obtain ⟨ta, pa, qa⟩ := ha
  refine ⟨_, pe_un hr pa, fun ρ σ G H Q E hq => qa ρ σ G H _ E (Gd.bind hq fun x ρ1 v G1 H1 E1 t1 r1 h1 => ?_)⟩
  obtain ⟨d, e, k⟩ := Gd.opt h1 E1
  exact ho G1 H1 v x d Q E1.sub r1 e k
/-- x[i] -/
theorem EX.ix {r : R2} {f : D → D → Option D} {a b : Expr} {ga gb : GE D} {pos : Pos} (ho : Op2 X r f) (hr : IxR X r) (ha : EX X c W a ga) (hb : EX X c W b gb) (hs : PlainIx b := by exact (fun _ _ => rfl)) : EX X c W (.Subscript a b pos) (binE f ga gb) := by
  obtain ⟨ta, pa, qa⟩ := ha
  obtain ⟨tb, pb, qb⟩ := hb
  exact ⟨_, pe_ix hr pa pb hs, bin_ok ho qa qb⟩
/-! ### arguments, displays -/
def nilA : GE (List D) := fun ρ => .ok [] ρ
def consA (ga : GE D) (gr : GE (List D)) : GE (List D) := fun ρ => (ga ρ).bind fun x ρ1 => (gr ρ1).bind fun xs ρ2 => .ok (x :: xs) ρ2
theorem AX.nil : AX X c W [] nilA := ⟨_, pa_nil, fun ρ σ G H Q E hq => hq.here E .nil⟩
theorem AX.cons {e : Expr} {es : List Expr} {ga : GE D} {gr : GE (List D)} (ha : EX X c W e ga) (hr : AX X c W es gr) (hs : starEach (e :: es) X.env = (false, eval e X.env) :: starEach es X.env := by rfl) : AX X c W (e :: es) (consA ga gr) := by
  obtain ⟨ta, pa, qa⟩ := ha
  obtain ⟨tr, pr, qr⟩ := hr
  refine ⟨_, pa_cons pa pr hs, fun ρ σ G H Q E hq => qa ρ σ G H _ E (Gd.bind hq fun x ρ1 v G1 H1 E1 t1 r1 h1 => qr ρ1 σ G1 H1 _ E1 (Gd.bind h1 fun xs ρ2 vs G2 H2 E2 t2 r2 h2 => ?_))⟩
  exact Gd.here (Rel := RVs X) h2 E2 (.cons (Rep.sub t2.g r1) r2)
def lim : Nat := 100000
theorem lim_ok {n : Nat} (h : n ≤ lim) : n ≤ sizeLine := Nat.le_trans h (by decide)
def tupF (ds : List D) : Option D := if ds.length ≤ lim then some (.tup ds) else none
theorem EX.tup {es : List Expr} {g : GE (List D)} {pos : Pos} {k : Nat} (h : AX X c W es g) : EX X c W (.Tuple es k pos) (appE tupF g) := by
  obtain ⟨t, p, q⟩ := h
  refine ⟨_, pe_tup p, fun ρ σ G H Q E hq => q ρ σ G H _ E (Gd.bind hq fun ds ρ1 vs G1 H1 E1 t1 r1 h1 => ?_)⟩
  obtain ⟨d, e, k⟩ := Gd.opt h1 E1
  unfold tupF at e
  by_cases hl : ds.length ≤ lim
  · rw [if_pos hl] at e
    cases e
    refine ⟨by rw [Reps.length r1]; exact lim_ok hl, fun p hp => k _ (upd G1 p (.tup vs)) _ (StepN.new E1.sub hp) (.tup (.inl (.inl upd_same)) (Reps.sub (StepN.new E1.sub hp).g r1))⟩
  · rw [if_neg hl] at e; cases e
def lstF (g : GE (List D)) : GE (List D) := fun ρ => (g ρ).bind fun ds ρ1 => if ds.length ≤ lim then .ok ds ρ1 else .bad
theorem not_own_new {K : PySem.W.Frag} {ρ : PEnv} {σ : St} {G H : Hp} {p : Addr} (E : ER K c ρ σ G H) (hp : H p = none) : ¬ Own ρ σ p := fun h => by
  obtain ⟨vs, q, _⟩ := own_tracked E h
  rw [hp] at q; cases q
/-- what LX asks, from a Gd of the list -/
def GdL (X : Cx) (c : Cz) (W : WX) (ρ : PEnv) (σ : St) (G H : Hp) (r : R (List D)) (Q : VK) : Prop :=
  match r with
  | .ok xs ρ' => ∀ p vs G' H', ER X.K c ρ' σ G' H' → Step (Own ρ σ) G H G' H' → OwnS ρ σ H ρ' σ → H p = none → H' p = some (.lst vs) → G' p = none → ¬ Own ρ' σ p → Reps X.K G' vs xs → Q (.ref p) H'
  | .er x ρ' => ∀ C dd G' H', ER X.K c ρ' σ G' H' → Step (Own ρ σ) G H G' H' → OwnS ρ σ H ρ' σ → XR X.K X.mg x C dd G' H' → W (.ref C) (some dd) σ H'
  | .bad => False
theorem LX.mk {e : Expr} {g : GE (List D)} {t : TE} (p : PE X e t) (h : ∀ ρ σ G H Q, ER X.K c ρ σ G H → GdL X c W ρ σ G H (g ρ) Q → t σ H Q) : LX X c W e g := ⟨t, p, h⟩
theorem GdL.bind {α β : Type} {ρ : PEnv} {σ : St} {G H : Hp} {r : R α} {k : α → PEnv → R (List D)} {Rel1 : Hp → α → β → Prop} {Q : VK} {M : β → Hp → Prop} (h : GdL X c W ρ σ G H (r.bind k) Q)
    (hm : ∀ a ρ1 b G1 H1, ER X.K c ρ1 σ G1 H1 → Step (Own ρ σ) G H G1 H1 → Rel1 G1 a b → GdL X c W ρ1 σ G1 H1 (k a ρ1) Q → M b H1) : Gd X c W ρ σ G H r Rel1 M := by
  cases r with
  | ok a ρ' =>
    refine fun b G' H' e t o rel => hm a ρ' b G' H' e t rel ?_
    have h' : GdL X c W ρ σ G H (k a ρ') Q := h
    cases hk : k a ρ' with
    | ok xs ρ2 =>
      rw [hk] at h'
      exact fun p vs G2 H2 e2 t2 o2 hp => h' p vs G2 H2 e2 (t.trans t2 o) (o.trans t o2) (t.d p hp)
    | er x ρ2 =>
      rw [hk] at h'
      exact fun C dd G2 H2 e2 t2 o2 => h' C dd G2 H2 e2 (t.trans t2 o) (o.trans t o2)
    | bad => rw [hk] at h'; exact h'
  | er x ρ' => exact h
  | bad => exact h
/-- the end: the new list at p -/
theorem GdL.new {ρ : PEnv} {σ : St} {G H : Hp} {xs : List D} {vs : List V} {p : Addr} {Q : VK} (h : GdL X c W ρ σ G H (.ok xs ρ) Q) (E : ER X.K c ρ σ G H) (hp : H p = none) (r : Reps X.K G vs xs) : Q (.ref p) (upd H p (.lst vs)) := by
  have t : StepN G H G (upd H p (.lst vs)) := ⟨Sub.refl G, fun _ _ e => .inl e, fun b u e => by rw [upd_ne (ne_of_none e hp)]; exact e, fun b u e => by
    have e' := E.sub b u e
    rw [upd_ne (ne_of_none e' hp)]; exact e', id⟩
  have hg : G p = none := by
    cases q : G p with
    | none => rfl
    | some o => rw [E.sub p o q] at hp; cases hp
  exact h p vs G _ (E.stepN t) (t.step _) (OwnS.refl _ _ _) hp upd_same hg (not_own_new E hp) r
theorem LX.lst {es : List Expr} {g : GE (List D)} {pos : Pos} (h : AX X c W es g) : LX X c W (.List es pos) (lstF g) := by
  obtain ⟨t, p, q⟩ := h
  refine LX.mk (pe_lst p) fun ρ σ G H Q E hq => q ρ σ G H _ E (GdL.bind hq fun ds ρ1 vs G1 H1 E1 t1 r1 h1 => ?_)
  by_cases hl : ds.length ≤ lim
  · rw [if_pos hl] at h1
    exact ⟨by rw [Reps.length r1]; exact lim_ok hl, fun p hp => GdL.new h1 E1 hp r1⟩
  · rw [if_neg hl] at h1; exact h1.elim
end
end PL
end L2
set_option Elab.async false
set_option linter.all false
set_option maxRecDepth 100000
namespace L2
namespace PL
open PySem PySem.Spec PyProof.Rows

/-! ### data that == and repr know -/
mutual
def D.toP : D → Option PyData
  | .non => some .none | .bl b => some (.bool b) | .int i => some (.int i) | .str x => some (.str x)
  | .lst xs => (D.toPs xs).map .list | .tup xs => (D.toPs xs).map .tuple | .dct _ => none | .fz _ => none
def D.toPs : List D → Option (List PyData)
  | [] => some []
  | x :: xs => match D.toP x, D.toPs xs with
    | some p, some ps => some (p :: ps)
    | _, _ => none
end
theorem Sub.sqL {K : PySem.W.Frag} {G : Hp} {H : Hp} {a : Addr} {xs : List V} (s : Sub G H) (h : G a = some (.lst xs)) : SqL K H a xs := .inl (.inl (s _ _ h))
mutual
theorem Rep.dp {K : PySem.W.Frag} {G H : Hp} (s : Sub G H) : ∀ {d : D} {v : V} {p : PyData}, Rep K G v d → d.toP = some p → Dp K H v p
  | .non, _, _, h, e => by cases h; cases e; exact .non
  | .bl b, _, _, h, e => by cases h; cases e; exact .bl b
  | .int i, _, _, h, e => by cases h; cases e; exact .int i
  | .str x, _, _, h, e => by cases h; cases e; exact .str x
  | .lst ds, _, _, h, e => by
    cases h with
    | lst h1 h2 =>
      unfold D.toP at e
      cases q : D.toPs ds with
      | none => rw [q] at e; cases e
      | some ps => rw [q] at e; cases e; exact .lst (s.sqL h1) (Reps.dp s h2 q)
  | .tup ds, _, _, h, e => by
    cases h with
    | tup h1 h2 =>
      unfold D.toP at e
      cases q : D.toPs ds with
      | none => rw [q] at e; cases e
      | some ps => rw [q] at e; cases e; exact .tup (s.sqT h1) (Reps.dp s h2 q)
  | .dct _, _, _, _, e => by cases e
  | .fz _, _, _, _, e => by cases e
theorem Reps.dp {K : PySem.W.Frag} {G H : Hp} (s : Sub G H) : ∀ {ds : List D} {vs : List V} {ps : List PyData}, Reps K G vs ds → D.toPs ds = some ps → DpAll K H vs ps
  | [], _, _, h, e => by cases h; cases e; exact .nil
  | d :: ds, _, _, h, e => by
    cases h with
    | cons h1 h2 =>
      unfold D.toPs at e
      cases q : D.toP d with
      | none => rw [q] at e; cases e
      | some p =>
        cases q2 : D.toPs ds with
        | none => rw [q, q2] at e; cases e
        | some ps => rw [q, q2] at e; cases e; exact .cons (Rep.dp s h1 q) (Reps.dp s h2 q2)
end

/-! ### operations, told by functions on data -/
def intsF (C : Int → Int → Bool) (g : Int → Int → D) : D → D → Option D
  | .int a, .int b => if C a b = true then some (g a b) else none
  | _, _ => none
def strsF (C : Str → Str → Bool) (g : Str → Str → D) : D → D → Option D
  | .str a, .str b => if C a b = true then some (g a b) else none
  | _, _ => none
def orF (f g : D → D → Option D) : D → D → Option D := fun x y => match f x y with
  | some d => some d
  | none => g x y
section
variable {X : Cx} {r r' : R2} {f g : D → D → Option D}
theorem Op2.or (h : Op2 X r f) (h' : Op2 X r' g) : Op2 X (fun x y H Q => r x y H Q ∨ r' x y H Q) (orF f g) := fun G H x y dx dy d Q s rx ry e k => by
  unfold orF at e
  cases q : f dx dy with
  | some d' => rw [q] at e; cases e; exact .inl (h G H x y dx dy d Q s rx ry q k)
  | none => rw [q] at e; exact .inr (h' G H x y dx dy d Q s rx ry e k)
theorem Op2.ints {C : Int → Int → Bool} {g : Int → Int → D} (gv : Int → Int → V) (hg : ∀ G a b, Rep X.K G (gv a b) (g a b)) (hr : ∀ a b H Q, C a b = true → Q (gv a b) H → r (.int a) (.int b) H Q) : Op2 X r (intsF C g) := fun G H x y dx dy d Q s rx ry e k => by
  cases dx <;> cases dy <;> first | (simp only [intsF, reduceCtorEq] at e; done) | skip
  cases rx
  cases ry
  rename_i a b
  unfold intsF at e
  by_cases hc : C a b = true
  · simp only [hc, if_true, Option.some.injEq] at e
    subst e
    exact hr a b H Q hc (k _ G H (StepN.refl s) (hg G a b))
  · simp only [hc] at e; cases e
theorem Op2.strs {C : Str → Str → Bool} {g : Str → Str → D} (gv : Str → Str → V) (hg : ∀ G a b, Rep X.K G (gv a b) (g a b)) (hr : ∀ a b H Q, C a b = true → Q (gv a b) H → r (.str a) (.str b) H Q) : Op2 X r (strsF C g) := fun G H x y dx dy d Q s rx ry e k => by
  cases dx <;> cases dy <;> first | (simp only [strsF, reduceCtorEq] at e; done) | skip
  cases rx
  cases ry
  rename_i a b
  unfold strsF at e
  by_cases hc : C a b = true
  · simp only [hc, if_true, Option.some.injEq] at e
    subst e
    exact hr a b H Q hc (k _ G H (StepN.refl s) (hg G a b))
  · simp only [hc] at e; cases e
abbrev yes2 {α β : Type} : α → β → Bool := fun _ _ => true
/-! + -/
def tupAddF : D → D → Option D
  | .tup a, .tup b => if a.length + b.length ≤ lim then some (.tup (a ++ b)) else none
  | _, _ => none
def lstAddF : D → D → Option D
  | .lst a, .lst b => if a.length + b.length ≤ lim then some (.lst (a ++ b)) else none
  | _, _ => none
def addF : D → D → Option D := orF (intsF yes2 fun a b => .int (a + b)) (orF (strsF (fun a b => decide (a.length + b.length ≤ lim)) fun a b => .str (a ++ b)) (orF tupAddF lstAddF))
theorem o2_tupAdd : Op2 X (rCatA X.K) tupAddF := fun G H x y dx dy d Q s rx ry e k => by
  cases dx <;> cases dy <;> first | (simp only [tupAddF, reduceCtorEq] at e; done) | skip
  cases rx with
  | tup h1 h2 =>
    cases ry with
    | tup g1 g2 =>
      rename_i ds1 ds2 a vs b ws
      unfold tupAddF at e
      by_cases hl : ds1.length + ds2.length ≤ lim
      · simp only [hl, if_true, Option.some.injEq] at e
        subst e
        refine ⟨a, b, vs, ws, rfl, rfl, s.sqT h1, s.sqT g1, by rw [Reps.length h2, Reps.length g2]; exact lim_ok hl, fun e1 => ?_, fun e1 e2 => ?_, fun e1 e2 p hp => ?_⟩
        · subst e1
          cases h2
          exact k _ G H (StepN.refl s) (.tup g1 g2)
        · subst e2
          cases g2
          exact k _ G H (StepN.refl s) (by rw [List.append_nil]; exact .tup h1 h2)
        · exact k _ _ _ (StepN.new s hp) (.tup (.inl (.inl upd_same)) (Reps.sub (StepN.new s hp).g (h2.append g2)))
      · simp only [hl] at e; cases e
theorem o2_lstAdd : Op2 X rCat lstAddF := fun G H x y dx dy d Q s rx ry e k => by
  cases dx <;> cases dy <;> first | (simp only [lstAddF, reduceCtorEq] at e; done) | skip
  cases rx with
  | lst h1 h2 =>
    cases ry with
    | lst g1 g2 =>
      rename_i ds1 ds2 a vs b ws
      unfold lstAddF at e
      by_cases hl : ds1.length + ds2.length ≤ lim
      · simp only [hl, if_true, Option.some.injEq] at e
        subst e
        exact ⟨a, b, vs, ws, rfl, rfl, s _ _ h1, s _ _ g1, by rw [Reps.length h2, Reps.length g2]; exact lim_ok hl, fun p hp => k _ _ _ (StepN.new s hp) (.lst upd_same (Reps.sub (StepN.new s hp).g (h2.append g2)))⟩
      · simp only [hl] at e; cases e
theorem o2_add : Op2 X (fun x y H Q => rI0 (fun i j => .int (i + j)) x y H Q ∨ (∃ i j, x = .str i ∧ y = .str j ∧ i.length + j.length ≤ sizeLine ∧ Q (.str (i ++ j)) H) ∨ rCatA X.K x y H Q ∨ rCat x y H Q) addF := Op2.or (Op2.ints (r := rI0 fun i j => .int (i + j)) (fun a b => .int (a + b)) (fun _ _ _ => .int _) fun a b H Q _ q => ⟨a, b, rfl, rfl, q⟩)
  (Op2.or (Op2.strs (r := fun x y H Q => ∃ i j, x = .str i ∧ y = .str j ∧ i.length + j.length ≤ sizeLine ∧ Q (.str (i ++ j)) H) (fun a b => .str (a ++ b)) (fun _ _ _ => .str _) fun a b H Q h q => ⟨a, b, rfl, rfl, lim_ok (of_decide_eq_true h), q⟩)
    (Op2.or o2_tupAdd o2_lstAdd))
theorem op_addP : OpR X (binaryOp .Add) (fun x y H Q => rI0 (fun i j => .int (i + j)) x y H Q ∨ (∃ i j, x = .str i ∧ y = .str j ∧ i.length + j.length ≤ sizeLine ∧ Q (.str (i ++ j)) H) ∨ rCatA X.K x y H Q ∨ rCat x y H Q) := op_add.or (op_add_str.or (op_catA.or op_cat))
/-! - * % // ** -/
def subF : D → D → Option D := intsF yes2 fun a b => .int (a - b)
theorem o2_sub : Op2 X (rI0 fun i j => .int (i - j)) subF := Op2.ints (fun a b => .int (a - b)) (fun _ _ _ => .int _) fun a b H Q _ q => ⟨a, b, rfl, rfl, q⟩
def small64b (i : Int) : Bool := decide (-(2 ^ 64) < i ∧ i < 2 ^ 64)
def modF : D → D → Option D := intsF (fun _ b => decide (0 < b)) fun a b => .int (a % b)
theorem o2_mod : Op2 X (rI (fun _ j => 0 < j) fun i j => .int (i % j)) modF := Op2.ints (fun a b => .int (a % b)) (fun _ _ _ => .int _) fun a b H Q h q => ⟨a, b, rfl, rfl, of_decide_eq_true h, q⟩
def fdivF : D → D → Option D := intsF (fun _ b => decide (0 < b ∧ b < 1073741824)) fun a b => .int (a / b)
theorem o2_fdiv : Op2 X (rI CDiv fun i j => .int (i / j)) fdivF := Op2.ints (fun a b => .int (a / b)) (fun _ _ _ => .int _) fun a b H Q h q => ⟨a, b, rfl, rfl, (of_decide_eq_true h : 0 < b ∧ b < 1073741824), q⟩
def powF : D → D → Option D := intsF (fun a b => decide (0 ≤ b ∧ b ≤ 1000000 ∧ a.natAbs < 2 ^ 64)) fun a b => .int (a ^ b.toNat)
theorem o2_pow : Op2 X (rI CPow fun i j => .int (i ^ j.toNat)) powF := Op2.ints (fun a b => .int (a ^ b.toNat)) (fun _ _ _ => .int _) fun a b H Q h q => ⟨a, b, rfl, rfl, (of_decide_eq_true h : 0 ≤ b ∧ b ≤ 1000000 ∧ a.natAbs < 2 ^ 64), q⟩
/-- a text so many times -/
def repS (x : Str) (k : Nat) : Str := ⟨(List.replicate k x.cps).foldl (· ++ ·) #[]⟩
theorem repS_list (x : Str) (k : Nat) : (repS x k).cps.toList = (List.replicate k x.cps.toList).flatten := by
  have h : ∀ (k : Nat) (acc : Array Nat), ((List.replicate k x.cps).foldl (· ++ ·) acc).toList = acc.toList ++ (List.replicate k x.cps.toList).flatten := by
    intro k
    induction k with
    | zero => intro acc; simp
    | succ k ih =>
      intro acc
      rw [List.replicate_succ, List.replicate_succ, List.foldl_cons, List.flatten_cons, ih, Array.toList_append, List.append_assoc]
  have := h k #[]
  simpa [repS] using this
theorem repS_len (x : Str) (k : Nat) : (repS x k).length = x.length * k := by
  have h := congrArg List.length (repS_list x k)
  rw [List.length_flatten, List.map_replicate, List.sum_replicate_nat] at h
  show (repS x k).cps.size = x.cps.size * k
  rw [← Array.length_toList, h, Array.length_toList, Nat.mul_comm]
def strMulF : D → D → Option D
  | .str x, .int k => if k < 1 ∧ -(2 ^ 62) ≤ k then some (.str Str.empty) else if k = 1 then some (.str x) else if 1 < k ∧ 0 < x.length ∧ x.length * k.toNat ≤ lim ∧ k ≤ lim then some (.str (repS x k.toNat)) else none
  | _, _ => none
def rMulS : R2 := fun x y H Q => ∃ z k, x = .str z ∧ y = .int k ∧ ((k < 1 ∧ -(2 ^ 62) ≤ k ∧ Q (.str Str.empty) H) ∨ (k = 1 ∧ Q (.str z) H) ∨ (1 < k ∧ 0 < z.length ∧ z.length * k.toNat ≤ lim ∧ k ≤ lim ∧ Q (.str (repS z k.toNat)) H))
theorem op_mulS : OpR X (binaryOp .Mult) rMulS := by
  intro pins s σ H x y v u Q I rx ry h
  obtain ⟨z, k, rfl, rfl, h⟩ := h
  obtain ⟨t, rfl⟩ := rx
  obtain ⟨t', rfl⟩ := ry
  have hlim : lim = 100000 := rfl
  rcases h with ⟨h1, h2, q⟩ | ⟨h1, q⟩ | ⟨h1, h2, h3, h4, q⟩
  · exact PySem.P.mul_str_none h1 (by omega) ⟨.str Str.empty, H, I.tok _, ⟨_, rfl⟩, q⟩
  · subst h1
    refine PySem.P.mul_str (by decide) (fun _ h => by simp at h) (fun _ h => by simp at h) ?_
    rw [if_neg (by decide), if_pos (by simp)]
    exact ⟨.str z, H, I, ⟨_, rfl⟩, q⟩
  · have e1 : (k == 1 || z.length == 0) = false := by
      have a1 : (k == 1) = false := beq_eq_false_iff_ne.mpr (by omega)
      have a2 : (z.length == 0) = false := beq_eq_false_iff_ne.mpr (by omega)
      rw [a1, a2]; rfl
    refine PySem.P.mul_str ?_ (fun _ _ => ?_) (fun _ _ => ?_) ?_
    · have a1 : ¬ k < -(2 ^ 63 : Int) := by omega
      have a2 : ¬ k ≥ 2 ^ 63 := by omega
      rw [decide_eq_false a1, decide_eq_false a2]; rfl
    · have hz : z.length ≤ 100000 := by
        have : 1 ≤ k.toNat := by omega
        calc z.length = z.length * 1 := by omega
          _ ≤ z.length * k.toNat := Nat.mul_le_mul_left _ this
          _ ≤ 100000 := h3
      have hk : (100000 : Int) ≤ (2 ^ 63 - 1) / k := by
        rw [Int.le_ediv_iff_mul_le (by omega)]
        omega
      omega
    · have h5 : z.length * k.toNat ≤ sizeLine := lim_ok h3
      exact decide_eq_false (Nat.not_lt.mpr h5)
    · rw [if_neg (by omega), e1, if_neg (by decide)]
      refine ⟨?_, ⟨.str (repS z k.toNat), H, I.tok _, ⟨_, rfl⟩, q⟩⟩
      exact Nat.le_trans (Nat.le_of_eq (repS_len z k.toNat)) (lim_ok h3)
end
end PL
end L2
set_option Elab.async false
set_option linter.all false
set_option maxRecDepth 100000
namespace L2
namespace PL
open PySem PySem.Spec PyProof.Rows
section
variable {X : Cx} {r r' : R2} {f g : D → D → Option D}
/-! * -/
def lstMulF : D → D → Option D
  | .lst a, .int k => if 0 ≤ k ∧ k ≤ lim ∧ a.length * k.toNat ≤ lim then some (.lst (List.replicate k.toNat a).flatten) else none
  | _, _ => none
theorem o2_lstMul : Op2 X rRep lstMulF := fun G H x y dx dy d Q s rx ry e k => by
  cases dx <;> cases dy <;> first | (simp only [lstMulF, reduceCtorEq] at e; done) | skip
  cases rx with
  | lst h1 h2 =>
    cases ry
    rename_i ds n a vs
    unfold lstMulF at e
    by_cases hl : 0 ≤ n ∧ n ≤ lim ∧ ds.length * n.toNat ≤ lim
    · simp only [hl, and_self, if_true, Option.some.injEq] at e
      subst e
      obtain ⟨l1, l2, l3⟩ := hl
      have hlim : lim = 100000 := rfl
      exact ⟨a, n, vs, rfl, rfl, s _ _ h1, by omega, by omega, by rw [Reps.length h2]; exact lim_ok l3, fun p hp => k _ _ _ (StepN.new s hp) (.lst upd_same (Reps.sub (StepN.new s hp).g (h2.rep n.toNat)))⟩
    · simp only [hl] at e; cases e
theorem o2_strMul : Op2 X rMulS strMulF := fun G H x y dx dy d Q s rx ry e k => by
  cases dx <;> cases dy <;> first | (simp only [strMulF, reduceCtorEq] at e; done) | skip
  cases rx
  cases ry
  rename_i z n
  refine ⟨z, n, rfl, rfl, ?_⟩
  simp only [strMulF] at e
  by_cases h1 : n < 1 ∧ -(2 ^ 62) ≤ n
  · rw [if_pos h1] at e
    cases e
    exact .inl ⟨h1.1, h1.2, k _ G H (StepN.refl s) (.str _)⟩
  · rw [if_neg h1] at e
    by_cases h2 : n = 1
    · rw [if_pos h2] at e
      cases e
      exact .inr (.inl ⟨h2, k _ G H (StepN.refl s) (.str _)⟩)
    · rw [if_neg h2] at e
      by_cases h3 : 1 < n ∧ 0 < z.length ∧ z.length * n.toNat ≤ lim ∧ n ≤ lim
      · rw [if_pos h3] at e
        cases e
        exact .inr (.inr ⟨h3.1, h3.2.1, h3.2.2.1, h3.2.2.2, k _ G H (StepN.refl s) (.str _)⟩)
      · rw [if_neg h3] at e; cases e
def mulF : D → D → Option D := orF (intsF (fun a b => small64b a || small64b b) fun a b => .int (a * b)) (orF strMulF lstMulF)
theorem o2_mul : Op2 X (fun x y H Q => rI CMul (fun i j => .int (i * j)) x y H Q ∨ rMulS x y H Q ∨ rRep x y H Q) mulF :=
  Op2.or (Op2.ints (r := rI CMul fun i j => .int (i * j)) (fun a b => .int (a * b)) (fun _ _ _ => .int _) fun a b H Q h q => ⟨a, b, rfl, rfl, by
    rcases Bool.or_eq_true_iff.mp h with h | h
    · exact .inl (of_decide_eq_true h)
    · exact .inr (of_decide_eq_true h), q⟩) (Op2.or o2_strMul o2_lstMul)
theorem op_mulP : OpR X (binaryOp .Mult) (fun x y H Q => rI CMul (fun i j => .int (i * j)) x y H Q ∨ rMulS x y H Q ∨ rRep x y H Q) := op_mul.or (op_mulS.or op_rep)

/-! == != -/
def scalD : D → D → Bool
  | .non, .non => true | .non, .int _ => true | .int _, .non => true | .non, .bl _ => true | .bl _, .non => true | .non, .str _ => true | .str _, .non => true
  | .int _, .int _ => true | .bl _, .bl _ => true | .str _, .str _ => true
  | .int _, .str _ => true | .str _, .int _ => true | .bl _, .str _ => true | .str _, .bl _ => true
  | _, _ => false
def eqS : D → D → Bool
  | .non, .non => true
  | .int a, .int b => decide (a = b)
  | .bl a, .bl b => decide (a = b)
  | .str a, .str b => decide (a = b)
  | _, _ => false
def eqPF (neg : Bool) : D → D → Option D := fun x y => match x.toP, y.toP with
  | some p, some q => if SeqAt.shaped p && SeqAt.shaped q then some (.bl (if neg then !PyData.eqv p q else PyData.eqv p q)) else none
  | _, _ => none
def eqSF (neg : Bool) : D → D → Option D := fun x y => if scalD x y then some (.bl (if neg then !eqS x y else eqS x y)) else none
def eqF : D → D → Option D := orF (eqSF false) (eqPF false)
def neF : D → D → Option D := orF (eqSF true) (eqPF true)
theorem eq_scal {G : Hp} {x y : V} {dx dy : D} (rx : Rep X.K G x dx) (ry : Rep X.K G y dy) (h : scalD dx dy = true) : scal x y = true ∧ decide (x = y) = eqS dx dy := by
  cases rx <;> cases ry <;> first | (simp [scalD] at h; done) | simp [scal, eqS]
theorem o2_eqS : Op2 X rEq (eqSF false) := fun G H x y dx dy d Q s rx ry e k => by
  unfold eqSF at e
  by_cases h : scalD dx dy = true
  · rw [if_pos h] at e
    cases e
    obtain ⟨h1, h2⟩ := eq_scal rx ry h
    exact ⟨h1, by rw [h2]; exact k _ G H (StepN.refl s) (.bl _)⟩
  · rw [if_neg h] at e; cases e
theorem o2_neS : Op2 X rNe (eqSF true) := fun G H x y dx dy d Q s rx ry e k => by
  unfold eqSF at e
  by_cases h : scalD dx dy = true
  · rw [if_pos h] at e
    cases e
    obtain ⟨h1, h2⟩ := eq_scal rx ry h
    exact ⟨h1, by rw [h2]; exact k _ G H (StepN.refl s) (.bl _)⟩
  · rw [if_neg h] at e; cases e
theorem o2_eqP : Op2 X (rEqD X.K) (eqPF false) := fun G H x y dx dy d Q s rx ry e k => by
  unfold eqPF at e
  cases h1 : dx.toP with
  | none => rw [h1] at e; cases e
  | some p =>
    cases h2 : dy.toP with
    | none => rw [h1, h2] at e; cases e
    | some q =>
      rw [h1, h2] at e
      simp only at e
      by_cases h : (SeqAt.shaped p && SeqAt.shaped q) = true
      · rw [if_pos h] at e
        cases e
        obtain ⟨a, b⟩ := Bool.and_eq_true_iff.mp h
        exact ⟨p, q, rx.dp s h1, ry.dp s h2, a, b, k _ G H (StepN.refl s) (.bl _)⟩
      · rw [if_neg h] at e; cases e
theorem o2_neP : Op2 X (rNeD X.K) (eqPF true) := fun G H x y dx dy d Q s rx ry e k => by
  unfold eqPF at e
  cases h1 : dx.toP with
  | none => rw [h1] at e; cases e
  | some p =>
    cases h2 : dy.toP with
    | none => rw [h1, h2] at e; cases e
    | some q =>
      rw [h1, h2] at e
      simp only at e
      by_cases h : (SeqAt.shaped p && SeqAt.shaped q) = true
      · rw [if_pos h] at e
        cases e
        obtain ⟨a, b⟩ := Bool.and_eq_true_iff.mp h
        exact ⟨p, q, rx.dp s h1, ry.dp s h2, a, b, k _ G H (StepN.refl s) (.bl _)⟩
      · rw [if_neg h] at e; cases e
theorem o2_eq : Op2 X (fun x y H Q => rEq x y H Q ∨ rEqD X.K x y H Q) eqF := Op2.or o2_eqS o2_eqP
theorem o2_ne : Op2 X (fun x y H Q => rNe x y H Q ∨ rNeD X.K x y H Q) neF := Op2.or o2_neS o2_neP
theorem op_eqP (hu : X.A.units + 64 < cLine) : OpR X (compareOp .Eq) (fun x y H Q => rEq x y H Q ∨ rEqD X.K x y H Q) := op_eq.or (op_eqD hu)
theorem op_neP (hu : X.A.units + 64 < cLine) : OpR X (compareOp .NotEq) (fun x y H Q => rNe x y H Q ∨ rNeD X.K x y H Q) := op_ne.or (op_neD hu)

/-! < <= > >= -/
abbrev rSS (g : Str → Str → Bool) : R2 := fun x y H Q => ∃ i j, x = .str i ∧ y = .str j ∧ Q (.bl (g i j)) H
def ordF (p : Int → Int → Bool) (q : Str → Str → Bool) : D → D → Option D := orF (intsF yes2 fun a b => .bl (p a b)) (strsF yes2 fun a b => .bl (q a b))
theorem o2_ord (p : Int → Int → Bool) (q : Str → Str → Bool) : Op2 X (fun x y H Q => rI0 (fun i j => .bl (p i j)) x y H Q ∨ rSS q x y H Q) (ordF p q) :=
  Op2.or (Op2.ints (r := rI0 fun i j => .bl (p i j)) (fun a b => .bl (p a b)) (fun _ _ _ => .bl _) fun a b H Q _ q => ⟨a, b, rfl, rfl, q⟩)
    (Op2.strs (r := rSS q) (fun a b => .bl (q a b)) (fun _ _ _ => .bl _) fun a b H Q _ q => ⟨a, b, rfl, rfl, q⟩)
def sLt (i j : Str) : Bool := decide (i.cps.toList < j.cps.toList)
def ltF : D → D → Option D := ordF (fun a b => decide (a < b)) sLt
def leF : D → D → Option D := ordF (fun a b => decide (a ≤ b)) fun i j => !sLt j i
def gtF : D → D → Option D := ordF (fun a b => decide (b < a)) fun i j => sLt j i
def geF : D → D → Option D := ordF (fun a b => decide (b ≤ a)) fun i j => !sLt i j
theorem op_ltP : OpR X (compareOp .Lt) (fun x y H Q => rI0 (fun i j => .bl (decide (i < j))) x y H Q ∨ rSS sLt x y H Q) := op_lt.or op_lt_str
theorem op_leP : OpR X (compareOp .LtE) (fun x y H Q => rI0 (fun i j => .bl (decide (i ≤ j))) x y H Q ∨ rSS (fun i j => !sLt j i) x y H Q) := op_le.or op_le_str
theorem op_gtP : OpR X (compareOp .Gt) (fun x y H Q => rI0 (fun i j => .bl (decide (j < i))) x y H Q ∨ rSS (fun i j => sLt j i) x y H Q) := op_gt.or op_gt_str
theorem op_geP : OpR X (compareOp .GtE) (fun x y H Q => rI0 (fun i j => .bl (decide (j ≤ i))) x y H Q ∨ rSS (fun i j => !sLt i j) x y H Q) := op_ge.or op_ge_str

/-! in, not in -/
def flatD : D → Bool
  | .non => true | .bl _ => true | .int _ => true | .str _ => true | _ => false
def eqFl : D → D → Bool
  | .non, .non => true
  | .bl a, .bl b => a == b
  | .bl a, .int b => (if a then 1 else 0) == b
  | .int a, .bl b => a == (if b then 1 else 0)
  | .int a, .int b => a == b
  | .str a, .str b => a == b
  | _, _ => false
def inSeqF (neg : Bool) : D → D → Option D := fun x y => match y with
  | .lst ys => if flatD x && ys.all flatD then some (.bl (if neg then !ys.any fun z => eqFl z x else ys.any fun z => eqFl z x)) else none
  | .tup ys => if flatD x && ys.all flatD then some (.bl (if neg then !ys.any fun z => eqFl z x else ys.any fun z => eqFl z x)) else none
  | _ => none
def inSgF (neg : Bool) : D → D → Option D
  | .str a, .str z => match a.cps.toList with
    | [c] => some (.bl (if neg then !decide (c ∈ z.cps.toList) else decide (c ∈ z.cps.toList)))
    | _ => none
  | _, _ => none
theorem flat_of {K : PySem.W.Frag} {G : Hp} {x : V} {d : D} (r : Rep K G x d) (h : flatD d = true) : flatV x = true := by
  cases r <;> first | rfl | (simp [flatD] at h; done)
theorem eqFl_of {K : PySem.W.Frag} {G : Hp} {x y : V} {d e : D} (r : Rep K G x d) (q : Rep K G y e) (h : flatD d = true) : eqV x y = eqFl d e := by
  cases r <;> cases q <;> first | rfl | (simp [flatD] at h; done)
theorem flats_of {K : PySem.W.Frag} {G : Hp} : ∀ {ds : List D} {xs : List V}, Reps K G xs ds → ds.all flatD = true → xs.all flatV = true
  | [], _, r, _ => by cases r; rfl
  | d :: ds, _, r, h => by
    cases r with
    | cons r1 r2 =>
      rw [List.all_cons, Bool.and_eq_true_iff] at h ⊢
      exact ⟨flat_of r1 h.1, flats_of r2 h.2⟩
theorem anyEq_of {K : PySem.W.Frag} {G : Hp} {x : V} {d : D} (rx : Rep K G x d) : ∀ {ds : List D} {xs : List V}, Reps K G xs ds → ds.all flatD = true → inV x xs = ds.any fun z => eqFl z d
  | [], _, r, _ => by cases r; rfl
  | e :: ds, _, r, h => by
    cases r with
    | cons r1 r2 =>
      rw [List.all_cons, Bool.and_eq_true_iff] at h
      have ih := anyEq_of rx r2 h.2
      unfold inV at ih ⊢
      rw [List.any_cons, List.any_cons, ih, eqFl_of r1 rx h.1]
theorem o2_inSeq (neg : Bool) : Op2 X (rIn X.K neg) (inSeqF neg) := fun G H x y dx dy d Q s rx ry e k => by
  cases ry <;> first | (simp only [inSeqF, reduceCtorEq] at e; done) | skip
  · rename_i a xs ds h1 h2
    simp only [inSeqF] at e
    by_cases h : (flatD dx && ds.all flatD) = true
    · rw [if_pos h] at e
      cases e
      obtain ⟨a1, a2⟩ := Bool.and_eq_true_iff.mp h
      refine ⟨a, xs, rfl, .inl (s.sqL h1), flat_of rx a1, flats_of h2 a2, ?_⟩
      rw [anyEq_of rx h2 a2]
      exact k _ G H (StepN.refl s) (.bl _)
    · rw [if_neg h] at e; cases e
  · rename_i a xs ds h1 h2
    simp only [inSeqF] at e
    by_cases h : (flatD dx && ds.all flatD) = true
    · rw [if_pos h] at e
      cases e
      obtain ⟨a1, a2⟩ := Bool.and_eq_true_iff.mp h
      refine ⟨a, xs, rfl, .inr (s.sqT h1), flat_of rx a1, flats_of h2 a2, ?_⟩
      rw [anyEq_of rx h2 a2]
      exact k _ G H (StepN.refl s) (.bl _)
    · rw [if_neg h] at e; cases e
abbrev rSg (neg : Bool) : R2 := fun x y H Q => ∃ (c : Nat) (z : Str), x = .str ⟨#[c]⟩ ∧ y = .str z ∧ Q (.bl (if neg then !decide (c ∈ z.cps.toList) else decide (c ∈ z.cps.toList))) H
theorem o2_inSg (neg : Bool) : Op2 X (rSg neg) (inSgF neg) := fun G H x y dx dy d Q s rx ry e k => by
  cases dx <;> cases dy <;> first | (simp only [inSgF, reduceCtorEq] at e; done) | skip
  cases rx
  cases ry
  rename_i a z
  simp only [inSgF] at e
  obtain ⟨⟨l⟩⟩ := a
  cases l with
  | nil => simp at e
  | cons c l =>
    cases l with
    | cons b l => simp at e
    | nil =>
      simp only [Option.some.injEq] at e
      subst e
      exact ⟨c, z, rfl, rfl, k _ G H (StepN.refl s) (.bl _)⟩
def inF : D → D → Option D := orF (inSeqF false) (inSgF false)
def notInF : D → D → Option D := orF (inSeqF true) (inSgF true)
theorem op_inP : OpR X (compareOp .In) (fun x y H Q => rIn X.K false x y H Q ∨ rSg false x y H Q) := op_in_seq.or op_in_sign
theorem op_notInP : OpR X (compareOp .NotIn) (fun x y H Q => rIn X.K true x y H Q ∨ rSg true x y H Q) := op_notIn_seq.or op_notIn_sign
theorem o2_in : Op2 X (fun x y H Q => rIn X.K false x y H Q ∨ rSg false x y H Q) inF := Op2.or (o2_inSeq false) (o2_inSg false)
theorem o2_notIn : Op2 X (fun x y H Q => rIn X.K true x y H Q ∨ rSg true x y H Q) notInF := Op2.or (o2_inSeq true) (o2_inSg true)

/-! is, is not -/
def isNonD : D → Bool
  | .non => true | _ => false
def isNF (neg : Bool) : D → D → Option D := fun x y => match y with
  | .non => some (.bl (if neg then !isNonD x else isNonD x))
  | _ => none
def isBF (neg : Bool) : D → D → Option D := fun x y => match x, y with
  | .bl a, .bl b => some (.bl (if neg then !decide (a = b) else decide (a = b)))
  | _, _ => none
abbrev rIsN' (neg : Bool) : R2 := fun x y H Q => y = .non ∧ Q (.bl (if neg then !decide (x = .non) else decide (x = .non))) H
abbrev rIsB' (neg : Bool) : R2 := fun x y H Q => ∃ a b : Bool, x = .bl a ∧ y = .bl b ∧ Q (.bl (if neg then !decide (a = b) else decide (a = b))) H
theorem isNon_of {K : PySem.W.Frag} {G : Hp} {x : V} {d : D} (r : Rep K G x d) : decide (x = V.non) = isNonD d := by
  cases r <;> simp [isNonD]
theorem o2_isN (neg : Bool) : Op2 X (rIsN' neg) (isNF neg) := fun G H x y dx dy d Q s rx ry e k => by
  cases ry <;> first | (simp only [isNF, reduceCtorEq] at e; done) | skip
  simp only [isNF, Option.some.injEq] at e
  subst e
  exact ⟨rfl, by rw [isNon_of rx]; exact k _ G H (StepN.refl s) (.bl _)⟩
theorem o2_isB (neg : Bool) : Op2 X (rIsB' neg) (isBF neg) := fun G H x y dx dy d Q s rx ry e k => by
  cases rx <;> cases ry <;> first | (simp only [isBF, reduceCtorEq] at e; done) | skip
  simp only [isBF, Option.some.injEq] at e
  subst e
  exact ⟨_, _, rfl, rfl, k _ G H (StepN.refl s) (.bl _)⟩
def isF : D → D → Option D := orF (isNF false) (isBF false)
def isNotF : D → D → Option D := orF (isNF true) (isBF true)
theorem op_isP : OpR X (compareOp .Is) (fun x y H Q => rIsN' false x y H Q ∨ rIsB' false x y H Q) := op_isN.or op_is_bl
theorem op_isNotP : OpR X (compareOp .IsNot) (fun x y H Q => rIsN' true x y H Q ∨ rIsB' true x y H Q) := op_notN.or op_isnot_bl
theorem o2_is : Op2 X (fun x y H Q => rIsN' false x y H Q ∨ rIsB' false x y H Q) isF := Op2.or (o2_isN false) (o2_isB false)
theorem o2_isNot : Op2 X (fun x y H Q => rIsN' true x y H Q ∨ rIsB' true x y H Q) isNotF := Op2.or (o2_isN true) (o2_isB true)

/-! x[i], slices -/
def ixF : D → D → Option D := fun x y => match x, y with
  | .lst ds, .int i => atI ds i
  | .tup ds, .int i => atI ds i
  | .fz ds, .int i => atI ds i
  | .str z, .int i => if z.length ≤ lim then (atI z.cps.toList i).map fun c => .str ⟨#[c]⟩ else none
  | _, _ => none
theorem Reps.atI {K : PySem.W.Frag} {G : Hp} {xs : List V} {ds : List D} {i : Int} {d : D} (r : Reps K G xs ds) (h : L2.atI ds i = some d) : ∃ v, L2.atI xs i = some v ∧ Rep K G v d := by
  unfold L2.atI at h ⊢
  rw [Reps.length r]
  cases e : ixN ds.length i with
  | none => rw [e] at h; cases h
  | some j =>
    rw [e] at h
    obtain ⟨v, h1, h2⟩ := r.get (i := j) (d := d) h
    exact ⟨v, h1, h2⟩
theorem o2_ix : Op2 X (rIx X.K) ixF := fun G H x y dx dy d Q s rx ry e k => by
  cases ry <;> cases rx <;> first | (simp only [ixF, reduceCtorEq] at e; done) | skip
  · rename_i i z
    simp only [ixF] at e
    by_cases hz : z.length ≤ lim
    · rw [if_pos hz] at e
      cases q : atI z.cps.toList i with
      | none => rw [q] at e; cases e
      | some c =>
        rw [q] at e
        cases e
        exact .inr (.inr ⟨z, i, c, rfl, rfl, lim_ok hz, q, k _ G H (StepN.refl s) (.str _)⟩)
    · rw [if_neg hz] at e; cases e
  · rename_i i a xs ds h1 h2
    obtain ⟨v, e1, e2⟩ := h2.atI (show atI ds i = some d from e)
    exact .inl ⟨a, xs, i, v, rfl, rfl, s.sqL h1, e1, k v G H (StepN.refl s) e2⟩
  · rename_i i a xs ds h1 h2
    obtain ⟨v, e1, e2⟩ := h2.atI (show atI ds i = some d from e)
    exact .inr (.inl ⟨a, xs, i, v, rfl, rfl, s.sqT h1, e1, k v G H (StepN.refl s) e2⟩)
  · rename_i i a xs ds h1 h2
    obtain ⟨v, e1, e2⟩ := h2.atI (show atI ds i = some d from e)
    exact .inl ⟨a, xs, i, v, rfl, rfl, s.sqL' h1, e1, k v G H (StepN.refl s) e2⟩
def cutD {α : Type} (xs : List α) (lo hi : Option Int) : List α := (xs.drop (HT.sIx xs.length 0 lo)).take (HT.sIx xs.length xs.length hi - HT.sIx xs.length 0 lo)
/-- slices: by data -/
def slF : D → Option Int → Option Int → Option D
  | .str z, lo, hi => if z.length ≤ lim then some (.str (cutS z lo hi)) else none
  | .lst ds, lo, hi => some (.lst (cutD ds lo hi))
  | .tup ds, lo, hi => some (.tup (cutD ds lo hi))
  | _, _, _ => none
def rSl3 (K : PySem.W.Frag) : V → Option Int → Option Int → Hp → VK → Prop := fun x lo hi H Q => rSlS x lo hi H Q ∨ rSlL K x lo hi H Q ∨ rSlA K x lo hi H Q
theorem sl_3 : SlR X (rSl3 X.K) := sl_str.or (sl_list.or sl_tupA)
theorem Reps.cut {K : PySem.W.Frag} {G : Hp} {xs : List V} {ds : List D} {lo hi : Option Int} (r : Reps K G xs ds) : Reps K G (cutV xs lo hi) (cutD ds lo hi) := by
  unfold cutV cutD
  rw [Reps.length r]
  exact (r.drop _).take _
theorem sl_ok {G H : Hp} {x : V} {dx d : D} {lo hi : Option Int} {Q : VK} (s : Sub G H) (rx : Rep X.K G x dx) (e : slF dx lo hi = some d) (k : ∀ v G' H', StepN G H G' H' → Rep X.K G' v d → Q v H') : rSl3 X.K x lo hi H Q := by
  cases rx <;> first | (simp only [slF, reduceCtorEq] at e; done) | skip
  · rename_i z
    simp only [slF] at e
    by_cases hz : z.length ≤ lim
    · rw [if_pos hz] at e
      cases e
      exact .inl ⟨z, rfl, lim_ok hz, k _ G H (StepN.refl s) (.str _)⟩
    · rw [if_neg hz] at e; cases e
  · rename_i a xs ds h1 h2
    cases e
    exact .inr (.inl ⟨a, xs, rfl, s.sqL h1, fun p hp => k _ _ _ (StepN.new s hp) (.lst upd_same (Reps.sub (StepN.new s hp).g h2.cut))⟩)
  · rename_i a xs ds h1 h2
    cases e
    refine .inr (.inr ⟨a, xs, rfl, s.sqT h1, fun hw => ?_, fun _ p hp => k _ _ _ (StepN.new s hp) (.tup (.inl (.inl upd_same)) (Reps.sub (StepN.new s hp).g h2.cut))⟩)
    have hc : cutD ds lo hi = ds := by
      unfold cutD
      rw [← Reps.length h2, hw.1, hw.2, List.drop_zero, Nat.sub_zero, Reps.length h2, List.take_length]
    rw [hc] at k
    exact k _ G H (StepN.refl s) (.tup h1 h2)
end
end PL
end L2
set_option Elab.async false
set_option linter.all false
set_option maxRecDepth 100000
namespace L2
namespace PL
open PySem PySem.Spec PyProof.Rows
section
variable {X : Cx} {c : Cz} {W : WX} {a b e : Expr} {ga gb gc : GE D} {pos : Pos}
/-! ### slices -/
def GdO (X : Cx) (c : Cz) (W : WX) (o : Option Expr) (g : GE (Option Int)) : Prop := ∃ t, PO X o t ∧ ∀ ρ σ G H Q, ER X.K c ρ σ G H → Gd X c W ρ σ G H (g ρ) (fun _ (x y : Option Int) => x = y) Q → t σ H Q
def noO : GE (Option Int) := fun ρ => .ok none ρ
def someO (g : GE D) : GE (Option Int) := fun ρ => (g ρ).bind fun d ρ1 => match d with
  | .int i => .ok (some i) ρ1
  | _ => .bad
theorem OX.none : GdO X c W none noO := ⟨_, po_none, fun ρ σ G H Q E hq => hq.here E rfl⟩
theorem OX.some (h : EX X c W e ga) : GdO X c W (some e) (someO ga) := by
  obtain ⟨t, p, q⟩ := h
  refine ⟨_, po_some p, fun ρ σ G H Q E hq => q ρ σ G H _ E (Gd.bind hq fun d ρ1 v G1 H1 E1 t1 r1 h1 => ?_)⟩
  cases r1 with
  | int i => exact ⟨i, rfl, Gd.here (Rel := fun _ (x y : Option Int) => x = y) h1 E1 rfl⟩
  | non => exact False.elim h1
  | bl _ => exact False.elim h1
  | str _ => exact False.elim h1
  | lst _ _ => exact False.elim h1
  | tup _ _ => exact False.elim h1
  | dct _ _ => exact False.elim h1
  | fz _ _ => exact False.elim h1
def slE (g : GE D) (gl gh : GE (Option Int)) : GE D := fun ρ => (g ρ).bind fun x ρ1 => (gl ρ1).bind fun lo ρ2 => (gh ρ2).bind fun hi ρ3 => ofOpt (slF x lo hi) ρ3
theorem EX.slice {lo hi : Option Expr} {gl gh : GE (Option Int)} {p2 : Pos} (he : EX X c W e ga) (hl : GdO X c W lo gl) (hh : GdO X c W hi gh) : EX X c W (.Subscript e (.Slice lo hi none p2) pos) (slE ga gl gh) := by
  obtain ⟨te, pe, qe⟩ := he
  obtain ⟨tl, pl, ql⟩ := hl
  obtain ⟨th, ph, qh⟩ := hh
  refine ⟨_, pe_slice sl_3 pe pl ph, fun ρ σ G H Q E hq => qe ρ σ G H _ E (Gd.bind hq fun x ρ1 v G1 H1 E1 t1 r1 h1 => ql ρ1 σ G1 H1 _ E1 (Gd.bind h1 fun lo ρ2 lo' G2 H2 E2 t2 r2 h2 =>
    qh ρ2 σ G2 H2 _ E2 (Gd.bind h2 fun hi ρ3 hi' G3 H3 E3 t3 r3 h3 => ?_)))⟩
  subst r2
  subst r3
  obtain ⟨d, e, k⟩ := Gd.opt h3 E3
  exact sl_ok E3.sub (Rep.sub (t2.g.trans t3.g) r1) e k

/-! ### tests -/
def boolE (g : GE D) : GE Bool := fun ρ => (g ρ).bind fun d ρ1 => match d with
  | .bl b => .ok b ρ1
  | _ => .bad
theorem Gd.bool {ρ : PEnv} {σ : St} {G H : Hp} {d : D} {v : V} {Q : Bool → Hp → Prop} (h : Gd X c W ρ σ G H (match d with | .bl b => R.ok b ρ | _ => .bad) RB Q) (E : ER X.K c ρ σ G H) (r : Rep X.K G v d) : ∃ k, v = .bl k ∧ Q k H := by
  cases r with
  | bl b => exact ⟨b, rfl, Gd.here (Rel := RB) h E rfl⟩
  | non => exact False.elim h
  | int _ => exact False.elim h
  | str _ => exact False.elim h
  | lst _ _ => exact False.elim h
  | tup _ _ => exact False.elim h
  | dct _ _ => exact False.elim h
  | fz _ _ => exact False.elim h
/-- a test that is a bool by any expression (no comparison, no and, or, not) -/
theorem TX.val (h : EX X c W e ga) (he : ∀ whole, isTrue e X.env whole = (do let v ← whole; standAt e.pos; holding [v] (truthy v)) := by intro _; rfl) : TX X c W e (boolE ga) := by
  obtain ⟨t, p, q⟩ := h
  exact ⟨_, pt_val p he, fun ρ σ G H Q E hq => q ρ σ G H _ E (Gd.bind hq fun d ρ1 v G1 H1 E1 t1 r1 h1 => Gd.bool h1 E1 r1)⟩
theorem TX.cmp {op : CmpOp} {r : R2} {f : D → D → Option D} (ho : Op2 X r f) (hr : OpR X (compareOp op) r) (ha : EX X c W a ga) (hb : EX X c W b gb) (hm : behindInMarks op b = false := by first | exact nobehind _ (by decide) (by decide) | rfl) :
    TX X c W (.Compare a [op] [b] pos) (boolE (binE f ga gb)) := by
  obtain ⟨ta, pa, qa⟩ := ha
  obtain ⟨tb, pb, qb⟩ := hb
  exact ⟨_, pt_cmpR hr pa pb hm, fun ρ σ G H Q E hq => bin_ok ho qa qb ρ σ G H _ E (Gd.bind hq fun d ρ1 v G1 H1 E1 t1 r1 h1 => Gd.bool h1 E1 r1)⟩
def chainE (f f' : D → D → Option D) (ga gb gc : GE D) : GE D := fun ρ => (ga ρ).bind fun x ρ1 => (gb ρ1).bind fun y ρ2 => (ofOpt (f x y) ρ2).bind fun z ρ3 => match z with
  | .bl true => (gc ρ3).bind fun w ρ4 => ofOpt (f' y w) ρ4
  | .bl false => .ok (.bl false) ρ3
  | _ => .bad
theorem chain_ok {r r' : R2} {f f' : D → D → Option D} {ta tb tc : TE} (ho : Op2 X r f) (ho' : Op2 X r' f') (ha : ∀ ρ σ G H Q, ER X.K c ρ σ G H → Gd X c W ρ σ G H (ga ρ) (RV X) Q → ta σ H Q) (hb : ∀ ρ σ G H Q, ER X.K c ρ σ G H → Gd X c W ρ σ G H (gb ρ) (RV X) Q → tb σ H Q)
    (hc : ∀ ρ σ G H Q, ER X.K c ρ σ G H → Gd X c W ρ σ G H (gc ρ) (RV X) Q → tc σ H Q) : ∀ ρ σ G H Q, ER X.K c ρ σ G H → Gd X c W ρ σ G H (chainE f f' ga gb gc ρ) (RV X) Q → tChain r r' ta tb tc σ H Q := fun ρ σ G H Q E hq =>
  ha ρ σ G H _ E (Gd.bind hq fun x ρ1 v G1 H1 E1 t1 r1 h1 => hb ρ1 σ G1 H1 _ E1 (Gd.bind h1 fun y ρ2 u G2 H2 E2 t2 r2 h2 => by
    cases e : f x y with
    | none => rw [e] at h2; exact False.elim h2
    | some z =>
      rw [e] at h2
      refine ho G2 H2 v u x y z _ E2.sub (Rep.sub t2.g r1) r2 e fun w G3 H3 t3 r3 => ?_
      have h3 := Gd.shift h2 (t3.step _) (OwnS.refl _ _ _)
      have E3 := E2.stepN t3
      cases r3 with
      | bl k =>
        cases k with
        | true =>
          refine ⟨true, rfl, ?_⟩
          rw [if_pos rfl]
          exact hc ρ2 σ G3 H3 _ E3 (Gd.bind (k := fun w ρ4 => ofOpt (f' y w) ρ4) h3 fun w2 ρ4 u2 G4 H4 E4 t4 r4 h4 => by
            obtain ⟨d, e2, k2⟩ := Gd.opt h4 E4
            exact ho' G4 H4 u u2 y w2 d Q E4.sub (Rep.sub (t3.g.trans t4.g) r2) r4 e2 k2)
        | false =>
          refine ⟨false, rfl, ?_⟩
          rw [if_neg (by decide)]
          exact Gd.here (Rel := RV X) (show Gd X c W ρ2 σ G3 H3 (.ok (.bl false) ρ2) (RV X) Q from h3) E3 (.bl false)
      | non => exact False.elim h3
      | int _ => exact False.elim h3
      | str _ => exact False.elim h3
      | lst _ _ => exact False.elim h3
      | tup _ _ => exact False.elim h3
      | dct _ _ => exact False.elim h3
      | fz _ _ => exact False.elim h3))
theorem EX.chain {op op' : CmpOp} {r r' : R2} {f f' : D → D → Option D} {d : Expr} (ho : Op2 X r f) (hr : OpR X (compareOp op) r) (ho' : Op2 X r' f') (hr' : OpR X (compareOp op') r') (ha : EX X c W a ga) (hb : EX X c W b gb) (hc : EX X c W d gc)
    (hm : lastMarks [op, op'] [b, d] = false := by with_unfolding_all rfl) : EX X c W (.Compare a [op, op'] [b, d] pos) (chainE f f' ga gb gc) := by
  obtain ⟨ta, pa, qa⟩ := ha
  obtain ⟨tb, pb, qb⟩ := hb
  obtain ⟨tc, pc, qc⟩ := hc
  exact ⟨_, pe_chain hr hr' pa pb pc hm, chain_ok ho ho' qa qb qc⟩
theorem TX.chain {op op' : CmpOp} {r r' : R2} {f f' : D → D → Option D} {d : Expr} (ho : Op2 X r f) (hr : OpR X (compareOp op) r) (ho' : Op2 X r' f') (hr' : OpR X (compareOp op') r') (ha : EX X c W a ga) (hb : EX X c W b gb) (hc : EX X c W d gc)
    (hm : lastMarks [op, op'] [b, d] = false := by with_unfolding_all rfl) : TX X c W (.Compare a [op, op'] [b, d] pos) (boolE (chainE f f' ga gb gc)) := by
  obtain ⟨ta, pa, qa⟩ := ha
  obtain ⟨tb, pb, qb⟩ := hb
  obtain ⟨tc, pc, qc⟩ := hc
  exact ⟨_, pt_chain hr hr' pa pb pc hm, fun ρ σ G H Q E hq => chain_ok ho ho' qa qb qc ρ σ G H _ E (Gd.bind hq fun d ρ1 v G1 H1 E1 t1 r1 h1 => Gd.bool h1 E1 r1)⟩
/-! and, or, not -/
def notT (g : GE Bool) : GE Bool := fun ρ => (g ρ).bind fun b ρ1 => .ok (!b) ρ1
def andT (g h : GE Bool) : GE Bool := fun ρ => (g ρ).bind fun b ρ1 => if b then h ρ1 else .ok false ρ1
def orT (g h : GE Bool) : GE Bool := fun ρ => (g ρ).bind fun b ρ1 => if b then .ok true ρ1 else h ρ1
variable {ta tb : GE Bool} {rest : List Expr}
theorem TX.not (h : TX X c W a ta) : TX X c W (.UnaryOp .Not a pos) (notT ta) := by
  obtain ⟨t, p, q⟩ := h
  refine ⟨_, pt_not p, fun ρ σ G H Q E hq => q ρ σ G H _ E (Gd.bind hq fun b ρ1 b' G1 H1 E1 t1 r1 h1 => ?_)⟩
  subst r1
  exact Gd.here (Rel := RB) h1 E1 rfl
theorem WX.and1 (h : TX X c W a ta) : WXT X c W (.BoolOp .And [a] pos) ta := by
  obtain ⟨t, p, q⟩ := h
  exact ⟨_, pw_and1 p, q⟩
theorem WX.or1 (h : TX X c W a ta) : WXT X c W (.BoolOp .Or [a] pos) ta := by
  obtain ⟨t, p, q⟩ := h
  exact ⟨_, pw_or1 p, q⟩
theorem WX.and (h : TX X c W a ta) (h2 : WXT X c W (.BoolOp .And (b :: rest) pos) tb) : WXT X c W (.BoolOp .And (a :: b :: rest) pos) (andT ta tb) := by
  obtain ⟨t, p, q⟩ := h
  obtain ⟨t2, p2, q2⟩ := h2
  refine ⟨_, pw_and p p2, fun ρ σ G H Q E hq => q ρ σ G H _ E (Gd.bind hq fun k ρ1 k' G1 H1 E1 t1 r1 h1 => ?_)⟩
  subst r1
  cases k with
  | true => rw [if_pos rfl] at h1 ⊢; exact q2 ρ1 σ G1 H1 Q E1 h1
  | false => rw [if_neg (by decide)] at h1 ⊢; exact Gd.here (Rel := RB) h1 E1 rfl
theorem WX.or (h : TX X c W a ta) (h2 : WXT X c W (.BoolOp .Or (b :: rest) pos) tb) : WXT X c W (.BoolOp .Or (a :: b :: rest) pos) (orT ta tb) := by
  obtain ⟨t, p, q⟩ := h
  obtain ⟨t2, p2, q2⟩ := h2
  refine ⟨_, pw_or p p2, fun ρ σ G H Q E hq => q ρ σ G H _ E (Gd.bind hq fun k ρ1 k' G1 H1 E1 t1 r1 h1 => ?_)⟩
  subst r1
  cases k with
  | true => rw [if_pos rfl] at h1 ⊢; exact Gd.here (Rel := RB) h1 E1 rfl
  | false => rw [if_neg (by decide)] at h1 ⊢; exact q2 ρ1 σ G1 H1 Q E1 h1
theorem TX.w (h : WXT X c W e ta) : TX X c W e ta := by
  obtain ⟨t, p, q⟩ := h
  exact ⟨t, p.pt, q⟩
/-! .. as values -/
def notE (g : GE D) : GE D := fun ρ => (g ρ).bind fun d ρ1 => match d with
  | .bl b => .ok (.bl (!b)) ρ1
  | _ => .bad
def andE (g h : GE D) : GE D := fun ρ => (g ρ).bind fun d ρ1 => match d with
  | .bl true => h ρ1
  | .bl false => .ok (.bl false) ρ1
  | _ => .bad
def orE (g h : GE D) : GE D := fun ρ => (g ρ).bind fun d ρ1 => match d with
  | .bl true => .ok (.bl true) ρ1
  | .bl false => h ρ1
  | _ => .bad
theorem EX.not (h : EX X c W a ga) : EX X c W (.UnaryOp .Not a pos) (notE ga) := by
  obtain ⟨t, p, q⟩ := h
  refine ⟨_, pe_not p, fun ρ σ G H Q E hq => q ρ σ G H _ E (Gd.bind hq fun d ρ1 v G1 H1 E1 t1 r1 h1 => ?_)⟩
  cases r1 with
  | bl k => exact ⟨k, rfl, Gd.here (Rel := RV X) h1 E1 (.bl _)⟩
  | non => exact False.elim h1
  | int _ => exact False.elim h1
  | str _ => exact False.elim h1
  | lst _ _ => exact False.elim h1
  | tup _ _ => exact False.elim h1
  | dct _ _ => exact False.elim h1
  | fz _ _ => exact False.elim h1
theorem EX.one {op : BoolOp} (h : EX X c W a ga) : EX X c W (.BoolOp op [a] pos) ga := by
  obtain ⟨t, p, q⟩ := h
  exact ⟨_, pe_one p, q⟩
theorem EX.and (h : EX X c W a ga) (h2 : EX X c W (.BoolOp .And (b :: rest) pos) gb) : EX X c W (.BoolOp .And (a :: b :: rest) pos) (andE ga gb) := by
  obtain ⟨t, p, q⟩ := h
  obtain ⟨t2, p2, q2⟩ := h2
  refine ⟨_, pe_and p p2, fun ρ σ G H Q E hq => q ρ σ G H _ E (Gd.bind hq fun d ρ1 v G1 H1 E1 t1 r1 h1 => ?_)⟩
  cases r1 with
  | bl k =>
    refine ⟨k, rfl, ?_⟩
    cases k with
    | true => rw [if_pos rfl]; exact q2 ρ1 σ G1 H1 Q E1 h1
    | false => rw [if_neg (by decide)]; exact Gd.here (Rel := RV X) h1 E1 (.bl _)
  | non => exact False.elim h1
  | int _ => exact False.elim h1
  | str _ => exact False.elim h1
  | lst _ _ => exact False.elim h1
  | tup _ _ => exact False.elim h1
  | dct _ _ => exact False.elim h1
  | fz _ _ => exact False.elim h1
theorem EX.or (h : EX X c W a ga) (h2 : EX X c W (.BoolOp .Or (b :: rest) pos) gb) : EX X c W (.BoolOp .Or (a :: b :: rest) pos) (orE ga gb) := by
  obtain ⟨t, p, q⟩ := h
  obtain ⟨t2, p2, q2⟩ := h2
  refine ⟨_, pe_or p p2, fun ρ σ G H Q E hq => q ρ σ G H _ E (Gd.bind hq fun d ρ1 v G1 H1 E1 t1 r1 h1 => ?_)⟩
  cases r1 with
  | bl k =>
    refine ⟨k, rfl, ?_⟩
    cases k with
    | true => rw [if_pos rfl]; exact Gd.here (Rel := RV X) h1 E1 (.bl _)
    | false => rw [if_neg (by decide)]; exact q2 ρ1 σ G1 H1 Q E1 h1
  | non => exact False.elim h1
  | int _ => exact False.elim h1
  | str _ => exact False.elim h1
  | lst _ _ => exact False.elim h1
  | tup _ _ => exact False.elim h1
  | dct _ _ => exact False.elim h1
  | fz _ _ => exact False.elim h1
def ifE (t : GE Bool) (g h : GE D) : GE D := fun ρ => (t ρ).bind fun b ρ1 => if b then g ρ1 else h ρ1
theorem EX.ifE {t : Expr} (ht : TX X c W t ta) (ha : EX X c W a ga) (hb : EX X c W b gb) : EX X c W (.IfExp t a b pos) (ifE ta ga gb) := by
  obtain ⟨t, p, q⟩ := ht
  obtain ⟨t2, p2, q2⟩ := ha
  obtain ⟨t3, p3, q3⟩ := hb
  refine ⟨_, pe_ifExp p p2 p3, fun ρ σ G H Q E hq => q ρ σ G H _ E (Gd.bind hq fun k ρ1 k' G1 H1 E1 t1 r1 h1 => ?_)⟩
  subst r1
  cases k with
  | true => rw [if_pos rfl] at h1 ⊢; exact q2 ρ1 σ G1 H1 Q E1 h1
  | false => rw [if_neg (by decide)] at h1 ⊢; exact q3 ρ1 σ G1 H1 Q E1 h1

/-! ### builtins by name, methods of data -/
variable {x : Str} {id : String} {p : Pos} {es : List Expr} {gs : GE (List D)}
theorem EX.callB {r : List V → Hp → VK → Prop} {f : List D → Option D} (ho : OpL X r f) (hc : CallR X (.builtin id) r) (hm : X.mg x = none) (hv : bootBuiltins x = some (.builtin id)) (ha : AX X c W (e :: es) gs) (hg : Gl X x := by rfl)
    (hn : x ≠ "__name__" := by decide) (hd : (x == ("__debug__" : Str)) = false := by decide) (he : starEach (e :: es) X.env = (false, eval e X.env) :: starEach es X.env := by rfl) (hpl : (backTo pos (starEach es X.env)).any (·.1) = false := by rfl) :
    EX X c W (.Call (.Name x p) (e :: es) [] pos) (appE f gs) := by
  obtain ⟨t, pa, q⟩ := ha
  refine ⟨_, pe_callB hc hg hm hv pa hn hd he hpl, fun ρ σ G H Q E hq => q ρ σ G H _ E (Gd.bind hq fun ds ρ1 vs G1 H1 E1 t1 r1 h1 => ?_)⟩
  obtain ⟨d, e, k⟩ := Gd.opt h1 E1
  exact ho G1 H1 vs ds d Q E1.sub r1 e k
theorem EX.callTy {r : List V → Hp → VK → Prop} {f : List D → Option D} (ho : OpL X r f) (hc : CallR X (.type id) r) (hm : X.mg x = none) (hv : bootBuiltins x = some (.type id)) (ha : AX X c W (e :: es) gs) (hg : Gl X x := by rfl)
    (hn : x ≠ "__name__" := by decide) (hd : (x == ("__debug__" : Str)) = false := by decide) (he : starEach (e :: es) X.env = (false, eval e X.env) :: starEach es X.env := by rfl) (hpl : (backTo pos (starEach es X.env)).any (·.1) = false := by rfl) :
    EX X c W (.Call (.Name x p) (e :: es) [] pos) (appE f gs) := by
  obtain ⟨t, pa, q⟩ := ha
  refine ⟨_, pe_callTy hc hg hm hv pa hn hd he hpl, fun ρ σ G H Q E hq => q ρ σ G H _ E (Gd.bind hq fun ds ρ1 vs G1 H1 E1 t1 r1 h1 => ?_)⟩
  obtain ⟨d, e, k⟩ := Gd.opt h1 E1
  exact ho G1 H1 vs ds d Q E1.sub r1 e k
end
end PL
end L2
set_option Elab.async false
set_option linter.all false
set_option maxRecDepth 100000
namespace L2
namespace PL
open PySem PySem.Spec PyProof.Rows
section
variable {X : Cx} {c : Cz} {W : WX} {a b e : Expr} {ga gb gc : GE D} {pos : Pos}
/-! ### builtins on data -/
abbrev RCL := List V → Hp → VK → Prop
theorem OpL.or {r r' : RCL} {f g : List D → Option D} (h : OpL X r f) (h' : OpL X r' g) : OpL X (fun xs H Q => r xs H Q ∨ r' xs H Q) (fun ds => match f ds with | some d => some d | none => g ds) := fun G H xs ds d Q s r e k => by
  cases q : f ds with
  | some d' =>
    simp only [q] at e
    cases e
    exact .inl (h G H xs ds d Q s r q k)
  | none =>
    simp only [q] at e
    exact .inr (h' G H xs ds d Q s r e k)
theorem reps1 {K : PySem.W.Frag} {G : Hp} {xs : List V} {d : D} (h : Reps K G xs [d]) : ∃ v, xs = [v] ∧ Rep K G v d := by
  cases h with
  | cons h1 h2 => cases h2; exact ⟨_, rfl, h1⟩
theorem reps2 {K : PySem.W.Frag} {G : Hp} {xs : List V} {d e : D} (h : Reps K G xs [d, e]) : ∃ v w, xs = [v, w] ∧ Rep K G v d ∧ Rep K G w e := by
  cases h with
  | cons h1 h2 =>
    cases h2 with
    | cons h3 h4 => cases h4; exact ⟨_, _, rfl, h1, h3⟩
/-- one int in, one out -/
def lenSF : List D → Option D
  | [.lst ds] => some (.int ds.length)
  | [.tup ds] => some (.int ds.length)
  | [.fz ds] => some (.int ds.length)
  | _ => none
def lenTF : List D → Option D
  | [.str z] => if z.length ≤ lim then some (.int z.length) else none
  | _ => none
def lenF (ds : List D) : Option D := match lenSF ds with | some d => some d | none => lenTF ds
abbrev rLenS (K : PySem.W.Frag) : RCL := fun xs H Q => ∃ p ys, xs = [.ref p] ∧ (SqL K H p ys ∨ SqT K H p ys) ∧ Q (.int ys.length) H
abbrev rLenT : RCL := fun xs H Q => ∃ z, xs = [.str z] ∧ z.length ≤ sizeLine ∧ Q (.int z.length) H
theorem ol_lenS : OpL X (rLenS X.K) lenSF := fun G H xs ds d Q s r e k => by
  unfold lenSF at e
  split at e
  · cases e
    obtain ⟨v, rfl, r1⟩ := reps1 r
    cases r1 with
    | lst h1 h2 => exact ⟨_, _, rfl, .inl (s.sqL h1), by rw [Reps.length h2]; exact k _ G H (StepN.refl s) (.int _)⟩
  · cases e
    obtain ⟨v, rfl, r1⟩ := reps1 r
    cases r1 with
    | tup h1 h2 => exact ⟨_, _, rfl, .inr (s.sqT h1), by rw [Reps.length h2]; exact k _ G H (StepN.refl s) (.int _)⟩
  · cases e
    obtain ⟨v, rfl, r1⟩ := reps1 r
    cases r1 with
    | fz h1 h2 => exact ⟨_, _, rfl, .inl (s.sqL' h1), by rw [Reps.length h2]; exact k _ G H (StepN.refl s) (.int _)⟩
  · cases e
theorem ol_lenT : OpL X rLenT lenTF := fun G H xs ds d Q s r e k => by
  unfold lenTF at e
  split at e
  · rename_i z
    by_cases hz : z.length ≤ lim
    · rw [if_pos hz] at e
      cases e
      obtain ⟨v, rfl, r1⟩ := reps1 r
      cases r1
      exact ⟨z, rfl, lim_ok hz, k _ G H (StepN.refl s) (.int _)⟩
    · rw [if_neg hz] at e; cases e
  · cases e
theorem ol_len : OpL X (fun xs H Q => rLenS X.K xs H Q ∨ rLenT xs H Q) lenF := OpL.or ol_lenS ol_lenT
theorem cr_lenP : CallR X (.builtin "len") (fun xs H Q => rLenS X.K xs H Q ∨ rLenT xs H Q) := call_len_seq.or call_len_str
def absF : List D → Option D
  | [.int i] => some (.int (if i < 0 then -i else i))
  | _ => none
theorem ol_abs : OpL X (fun xs H Q => ∃ i, xs = [.int i] ∧ Q (.int (if i < 0 then -i else i)) H) absF := fun G H xs ds d Q s r e k => by
  unfold absF at e
  split at e
  · cases e
    obtain ⟨v, rfl, r1⟩ := reps1 r
    cases r1
    exact ⟨_, rfl, k _ G H (StepN.refl s) (.int _)⟩
  · cases e
def max2F : List D → Option D
  | [.int i, .int j] => some (.int (if j > i then j else i))
  | _ => none
def min2F : List D → Option D
  | [.int i, .int j] => some (.int (if j < i then j else i))
  | _ => none
theorem ol_max2 : OpL X (fun xs H Q => ∃ i j, xs = [.int i, .int j] ∧ Q (.int (if j > i then j else i)) H) max2F := fun G H xs ds d Q s r e k => by
  unfold max2F at e
  split at e
  · cases e
    obtain ⟨v, w, rfl, r1, r2⟩ := reps2 r
    cases r1
    cases r2
    exact ⟨_, _, rfl, k _ G H (StepN.refl s) (.int _)⟩
  · cases e
theorem ol_min2 : OpL X (fun xs H Q => ∃ i j, xs = [.int i, .int j] ∧ Q (.int (if j < i then j else i)) H) min2F := fun G H xs ds d Q s r e k => by
  unfold min2F at e
  split at e
  · cases e
    obtain ⟨v, w, rfl, r1, r2⟩ := reps2 r
    cases r1
    cases r2
    exact ⟨_, _, rfl, k _ G H (StepN.refl s) (.int _)⟩
  · cases e
def intIF : List D → Option D
  | [.int i] => some (.int i)
  | [.bl k] => some (.int (if k then 1 else 0))
  | _ => none
def intSF : List D → Option D
  | [.str a] => if a.length ≤ 640 then (PySem.intText? a).map .int else none
  | _ => none
def intF (ds : List D) : Option D := match intIF ds with | some d => some d | none => intSF ds
theorem ol_int : OpL X (fun xs H Q => ((∃ i, xs = [.int i] ∧ Q (.int i) H) ∨ ∃ k, xs = [.bl k] ∧ Q (.int (if k then 1 else 0)) H) ∨ ∃ a n, xs = [.str a] ∧ PySem.intText? a = some n ∧ a.length ≤ 640 ∧ Q (.int n) H) intF :=
  OpL.or (fun G H xs ds d Q s r e k => by
    unfold intIF at e
    split at e
    · cases e
      obtain ⟨v, rfl, r1⟩ := reps1 r
      cases r1
      exact .inl ⟨_, rfl, k _ G H (StepN.refl s) (.int _)⟩
    · cases e
      obtain ⟨v, rfl, r1⟩ := reps1 r
      cases r1
      exact .inr ⟨_, rfl, k _ G H (StepN.refl s) (.int _)⟩
    · cases e) (fun G H xs ds d Q s r e k => by
    unfold intSF at e
    split at e
    · rename_i a
      by_cases hz : a.length ≤ 640
      · rw [if_pos hz] at e
        cases q : PySem.intText? a with
        | none => rw [q] at e; cases e
        | some n =>
          rw [q] at e
          cases e
          obtain ⟨v, rfl, r1⟩ := reps1 r
          cases r1
          exact ⟨a, n, rfl, q, hz, k _ G H (StepN.refl s) (.int _)⟩
      · rw [if_neg hz] at e; cases e
    · cases e)
theorem cr_intP : CallR X (.type "int") (fun xs H Q => ((∃ i, xs = [.int i] ∧ Q (.int i) H) ∨ ∃ k, xs = [.bl k] ∧ Q (.int (if k then 1 else 0)) H) ∨ ∃ a n, xs = [.str a] ∧ PySem.intText? a = some n ∧ a.length ≤ 640 ∧ Q (.int n) H) := call_int1.or call_int_str
def strIF : List D → Option D
  | [.int i] => if i.natAbs.log2 < 1920 then some (.str (toString i : String)) else none
  | _ => none
theorem ol_str : OpL X (fun xs H Q => ∃ i, xs = [.int i] ∧ i.natAbs.log2 < 1920 ∧ Q (.str (toString i)) H) strIF := fun G H xs ds d Q s r e k => by
  unfold strIF at e
  split at e
  · rename_i i
    by_cases hz : i.natAbs.log2 < 1920
    · rw [if_pos hz] at e
      cases e
      obtain ⟨v, rfl, r1⟩ := reps1 r
      cases r1
      exact ⟨i, rfl, hz, k _ G H (StepN.refl s) (.str _)⟩
    · rw [if_neg hz] at e; cases e
  · cases e
def ordChF : List D → Option D
  | [.str x] => if x.length = 1 then some (.int (x.cps.getD 0 0 : Nat)) else none
  | _ => none
theorem ol_ord : OpL X (fun xs H Q => ∃ x, xs = [.str x] ∧ x.length = 1 ∧ Q (.int (x.cps.getD 0 0 : Nat)) H) ordChF := fun G H xs ds d Q s r e k => by
  unfold ordChF at e
  split at e
  · rename_i x
    by_cases hz : x.length = 1
    · rw [if_pos hz] at e
      cases e
      obtain ⟨v, rfl, r1⟩ := reps1 r
      cases r1
      exact ⟨x, rfl, hz, k _ G H (StepN.refl s) (.int _)⟩
    · rw [if_neg hz] at e; cases e
  · cases e
def divmodF : List D → Option D
  | [.int i, .int j] => if 0 < j ∧ j < 1073741824 then some (.tup [.int (i / j), .int (i % j)]) else none
  | _ => none
theorem ol_divmod : OpL X (fun xs H Q => ∃ i j, xs = [.int i, .int j] ∧ CDiv i j ∧ ∀ p, H p = none → Q (.ref p) (upd H p (.tup [.int (i / j), .int (i % j)]))) divmodF := fun G H xs ds d Q s r e k => by
  unfold divmodF at e
  split at e
  · rename_i i j
    by_cases hz : 0 < j ∧ j < 1073741824
    · rw [if_pos hz] at e
      cases e
      obtain ⟨v, w, rfl, r1, r2⟩ := reps2 r
      cases r1
      cases r2
      exact ⟨i, j, rfl, hz, fun p hp => k _ _ _ (StepN.new s hp) (.tup (.inl (.inl upd_same)) (.cons (.int _) (.cons (.int _) .nil)))⟩
    · rw [if_neg hz] at e; cases e
  · cases e
def intsOf : List D → Option (List Int)
  | [] => some []
  | .int i :: r => (intsOf r).map (i :: ·)
  | _ => none
def blsOf : List D → Option (List Bool)
  | [] => some []
  | .bl i :: r => (blsOf r).map (i :: ·)
  | _ => none
def strsOf : List D → Option (List Str)
  | [] => some []
  | .str i :: r => (strsOf r).map (i :: ·)
  | _ => none
theorem intsOf_eq : ∀ {ds : List D} {ns : List Int}, intsOf ds = some ns → ds = ns.map D.int
  | [], _, e => by cases e; rfl
  | d :: r, ns, e => by
    cases d <;> first | (simp only [intsOf, reduceCtorEq] at e; done) | skip
    simp only [intsOf] at e
    cases q : intsOf r with
    | none => rw [q] at e; cases e
    | some ms => rw [q] at e; cases e; rw [intsOf_eq q]; rfl
theorem blsOf_eq : ∀ {ds : List D} {ns : List Bool}, blsOf ds = some ns → ds = ns.map D.bl
  | [], _, e => by cases e; rfl
  | d :: r, ns, e => by
    cases d <;> first | (simp only [blsOf, reduceCtorEq] at e; done) | skip
    simp only [blsOf] at e
    cases q : blsOf r with
    | none => rw [q] at e; cases e
    | some ms => rw [q] at e; cases e; rw [blsOf_eq q]; rfl
theorem strsOf_eq : ∀ {ds : List D} {ns : List Str}, strsOf ds = some ns → ds = ns.map D.str
  | [], _, e => by cases e; rfl
  | d :: r, ns, e => by
    cases d <;> first | (simp only [strsOf, reduceCtorEq] at e; done) | skip
    simp only [strsOf] at e
    cases q : strsOf r with
    | none => rw [q] at e; cases e
    | some ms => rw [q] at e; cases e; rw [strsOf_eq q]; rfl
theorem intsOf_map : ∀ ns : List Int, intsOf (ns.map D.int) = some ns
  | [] => rfl
  | n :: ns => by simp [intsOf, intsOf_map ns]
theorem blsOf_map : ∀ ns : List Bool, blsOf (ns.map D.bl) = some ns
  | [] => rfl
  | n :: ns => by simp [blsOf, blsOf_map ns]
theorem strsOf_map : ∀ ns : List Str, strsOf (ns.map D.str) = some ns
  | [] => rfl
  | n :: ns => by simp [strsOf, strsOf_map ns]
def sumF : List D → Option D
  | [.lst ds] => (intsOf ds).map fun ns => .int ns.sum
  | _ => none
theorem ol_sum : OpL X (rSum X.K) sumF := fun G H xs ds d Q s r e k => by
  unfold sumF at e
  split at e
  · rename_i ds
    cases q : intsOf ds with
    | none => rw [q] at e; cases e
    | some ns =>
      rw [q] at e
      cases e
      obtain ⟨v, rfl, r1⟩ := reps1 r
      cases r1 with
      | lst h1 h2 =>
        rw [intsOf_eq q] at h2
        have hv := Reps.ints h2
        subst hv
        exact ⟨_, ns, rfl, s.sqL h1, k _ G H (StepN.refl s) (.int _)⟩
  · cases e
def allF : List D → Option D
  | [.lst ds] => (blsOf ds).map fun ns => .bl (ns.all id)
  | _ => none
def anyF : List D → Option D
  | [.lst ds] => (blsOf ds).map fun ns => .bl (ns.any id)
  | _ => none
theorem ol_all : OpL X (rAll X.K) allF := fun G H xs ds d Q s r e k => by
  unfold allF at e
  split at e
  · rename_i ds
    cases q : blsOf ds with
    | none => rw [q] at e; cases e
    | some ns =>
      rw [q] at e
      cases e
      obtain ⟨v, rfl, r1⟩ := reps1 r
      cases r1 with
      | lst h1 h2 =>
        rw [blsOf_eq q] at h2
        have hv := Reps.bls h2
        subst hv
        exact ⟨_, ns, rfl, s.sqL h1, k _ G H (StepN.refl s) (.bl _)⟩
  · cases e
theorem ol_any : OpL X (rAny X.K) anyF := fun G H xs ds d Q s r e k => by
  unfold anyF at e
  split at e
  · rename_i ds
    cases q : blsOf ds with
    | none => rw [q] at e; cases e
    | some ns =>
      rw [q] at e
      cases e
      obtain ⟨v, rfl, r1⟩ := reps1 r
      cases r1 with
      | lst h1 h2 =>
        rw [blsOf_eq q] at h2
        have hv := Reps.bls h2
        subst hv
        exact ⟨_, ns, rfl, s.sqL h1, k _ G H (StepN.refl s) (.bl _)⟩
  · cases e
/-! repr -/
def reprF : List D → Option D
  | [d] => match d.toP with
    | some p => if p.showable && decide (p.depth ≤ 60) && decide (p.shown.length ≤ lim) && !p.hasDict then some (.str p.shown) else none
    | none => none
  | _ => none
def rRepr (K : PySem.W.Frag) : RCL := fun xs H Q => ∃ x p, xs = [x] ∧ Dp K H x p ∧ p.showable = true ∧ p.depth ≤ 60 ∧ p.shown.length ≤ lim ∧ p.hasDict = false ∧ Q (.str p.shown) H
theorem cr_repr (hg : X.A.guards = some []) (hu : X.A.units + 100 < cLine) : CallR X (.builtin "repr") (rRepr X.K) := by
  intro pins s σ H xs us Q I r h
  obtain ⟨x, p, rfl, hd, hs, hdep, hl, hh, q⟩ := h
  obtain ⟨u, rfl, ru⟩ := Vals.one r
  obtain ⟨as, rd⟩ := Dp.reads I p x u hd ru
  have fin : ∀ h' t tk, (∀ b o, s.heap.get? b = some o → h'.get? b = some o) → EP X pins σ Q (.str p.shown t) { s with heap := h', toks := tk } := fun h' t tk hk => ⟨.str p.shown, H, I.kept (t' := tk) hk, ⟨_, rfl⟩, q⟩
  have hlim : p.shown.length ≤ sizeLine := lim_ok hl
  have ref : ∀ b : Addr, u = Value.ref b → wpAny (model X.prog X.w) X.A (call (.builtin "repr") [u]) (EP X pins σ Q) X.xe s := fun b eb => by
    subst eb
    exact repr_of_reads' rd hs (fun z => by rw [hh] at z; cases z) hg (by omega) (fun _ _ e => e) (fun h' t tk hk => fin h' t tk hk) hlim
  cases hd with
  | non =>
    cases ru
    exact PySem.P.repr_of_none (fin s.heap _ _ fun _ _ e => e)
  | bl b =>
    cases ru
    exact PySem.P.repr_of_bool (fin s.heap _ _ fun _ _ e => e)
  | int i =>
    obtain ⟨t, rfl⟩ := ru
    exact PySem.P.repr_of_int (by simpa [PyData.showable] using hs) (fin s.heap _ _ fun _ _ e => e)
  | str x =>
    obtain ⟨t, rfl⟩ := ru
    exact PySem.P.repr_of_str (fin s.heap _ _ fun _ _ e => e) hlim
  | lst h1 h2 => exact ref _ ru
  | tup h1 h2 => exact ref _ ru
theorem ol_repr : OpL X (rRepr X.K) reprF := fun G H xs ds d Q s r e k => by
  unfold reprF at e
  split at e
  · rename_i d0
    obtain ⟨v, rfl, r1⟩ := reps1 r
    cases q : d0.toP with
    | none => rw [q] at e; cases e
    | some p =>
      rw [q] at e
      simp only at e
      by_cases h : (p.showable && decide (p.depth ≤ 60) && decide (p.shown.length ≤ lim) && !p.hasDict) = true
      · rw [if_pos h] at e
        cases e
        simp only [Bool.and_eq_true, decide_eq_true_eq, Bool.not_eq_true'] at h
        obtain ⟨⟨⟨h1, h2⟩, h3⟩, h4⟩ := h
        exact ⟨v, p, rfl, r1.dp s q, h1, h2, h3, h4, k _ G H (StepN.refl s) (.str _)⟩
      · rw [if_neg h] at e; cases e
  · cases e
end
end PL
end L2
set_option Elab.async false
set_option linter.all false
set_option maxRecDepth 100000
namespace L2
namespace PL
open PySem PySem.Spec PyProof.Rows
section
variable {X : Cx} {c : Cz} {W : WX} {a b e : Expr} {ga gb gc : GE D} {pos : Pos}
/-! ### list(x), a new list -/
def OpLL (X : Cx) (r : RCL) (f : List D → Option (List D)) : Prop := ∀ (G H : Hp) (xs : List V) (ds es : List D) (Q : VK), Sub G H → Reps X.K G xs ds → f ds = some es →
  (∀ p vs, H p = none → Reps X.K G vs es → Q (.ref p) (upd H p (.lst vs))) → r xs H Q
def appL (f : List D → Option (List D)) (ga : GE (List D)) : GE (List D) := fun ρ => (ga ρ).bind fun x ρ1 => ofOpt (f x) ρ1
def signs (z : Str) : List D := z.cps.toList.map fun k => D.str ⟨#[k]⟩
def listF : List D → Option (List D)
  | [.lst ds] => some ds
  | [.tup ds] => some ds
  | [.str z] => if z.length ≤ lim then some (signs z) else none
  | _ => none
def rListS : RCL := fun xs H Q => ∃ z, xs = [.str z] ∧ z.length ≤ lim ∧ ∀ p, H p = none → Q (.ref p) (upd H p (.lst (z.cps.toList.map fun k => V.str ⟨#[k]⟩)))
theorem cr_listS (hc : X.calm = true) : CallR X (.type "list") rListS := by
  intro pins s σ H xs us Q I r h
  obtain ⟨z, rfl, hz, q⟩ := h
  obtain ⟨u, rfl, ru⟩ := Vals.one r
  obtain ⟨t, rfl⟩ := ru
  refine PySem.call_list_str (I.ok.hd hc) z t (fun h' tk acc' c' hk hn hit => ?_) (lim_ok hz)
  have hf : H s.heap.objs.size = none := I.hok.fresh (Nat.le_refl _)
  have hv : Vals (z.cps.toList.map fun k => V.str ⟨#[k]⟩) acc'.toList := by
    obtain ⟨h1, h2⟩ := hit
    have key : ∀ (l : List Nat) (m : List Value), m.length = l.length → (∀ (j : Nat) (v : Value), m[j]? = some v → ∃ k u, l[j]? = some k ∧ v = Value.str ⟨#[k]⟩ u) → Vals (l.map fun k => V.str ⟨#[k]⟩) m := by
      intro l
      induction l with
      | nil =>
        intro m hm _
        cases m with
        | nil => exact .nil
        | cons _ _ => cases hm
      | cons k l ih =>
        intro m hm hp
        cases m with
        | nil => cases hm
        | cons v m =>
          obtain ⟨k', u, e1, e2⟩ := hp 0 v rfl
          have e1' : k = k' := by simpa using e1
          subst e1'
          exact .cons ⟨u, e2⟩ (ih m (by simpa using hm) fun j v' hj => by
            obtain ⟨k2, u2, q1, q2⟩ := hp (j + 1) v' (by simpa using hj)
            exact ⟨k2, u2, by simpa using q1, q2⟩)
    refine key _ _ (by rw [Array.length_toList, Array.length_toList]; exact h1) fun j v hj => ?_
    obtain ⟨k, u, q1, q2⟩ := h2 j v (by rw [← Array.getElem?_toList]; exact hj)
    exact ⟨k, u, by rw [Array.getElem?_toList]; exact q1, q2⟩
  have hl : (z.cps.toList.map fun k => V.str ⟨#[k]⟩).length ≤ sizeLine := by
    rw [List.length_map, Array.length_toList]
    exact lim_ok hz
  have I2 : Inv X pins σ (upd H s.heap.objs.size (.lst (z.cps.toList.map fun k => V.str ⟨#[k]⟩))) { s with heap := h', toks := tk } :=
    I.laid (t' := tk) hk (Nat.le_refl _) ⟨hl, acc'.toList, c', hv, by rw [Array.toArray_toList]; exact hn⟩
  exact ⟨.ref s.heap.objs.size, _, I2, rfl, q _ hf⟩
theorem ol_list (hc : X.calm = true) : OpLL X (fun xs H Q => (∃ p ys, xs = [.ref p] ∧ (SqL X.K H p ys ∨ SqT X.K H p ys) ∧ ∀ l, H l = none → Q (.ref l) (upd H l (.lst ys))) ∨ rListS xs H Q) listF := fun G H xs ds es Q s r e k => by
  unfold listF at e
  split at e
  · cases e
    obtain ⟨v, rfl, r1⟩ := reps1 r
    cases r1 with
    | lst h1 h2 => exact .inl ⟨_, _, rfl, .inl (s.sqL h1), fun p hp => k p _ hp h2⟩
  · cases e
    obtain ⟨v, rfl, r1⟩ := reps1 r
    cases r1 with
    | tup h1 h2 => exact .inl ⟨_, _, rfl, .inr (s.sqT h1), fun p hp => k p _ hp h2⟩
  · rename_i z
    by_cases hz : z.length ≤ lim
    · rw [if_pos hz] at e
      cases e
      obtain ⟨v, rfl, r1⟩ := reps1 r
      cases r1
      refine .inr ⟨z, rfl, hz, fun p hp => k p _ hp ?_⟩
      unfold signs
      have : ∀ l : List Nat, Reps X.K G (l.map fun k => V.str ⟨#[k]⟩) (l.map fun k => D.str ⟨#[k]⟩) := by
        intro l
        induction l with
        | nil => exact .nil
        | cons k l ih => exact .cons (.str _) ih
      exact this _
    · rw [if_neg hz] at e; cases e
  · cases e
theorem cr_listP (hc : X.calm = true) : CallR X (.type "list") (fun xs H Q => (∃ p ys, xs = [.ref p] ∧ (SqL X.K H p ys ∨ SqT X.K H p ys) ∧ ∀ l, H l = none → Q (.ref l) (upd H l (.lst ys))) ∨ rListS xs H Q) := call_list_of.or (cr_listS hc)
variable {x : Str} {id : String} {p : Pos} {es : List Expr} {gs : GE (List D)}
theorem LX.callTy {r : RCL} {f : List D → Option (List D)} (ho : OpLL X r f) (hc : CallR X (.type id) r) (hm : X.mg x = none) (hv : bootBuiltins x = some (.type id)) (ha : AX X c W (e :: es) gs) (hg : Gl X x := by rfl)
    (hn : x ≠ "__name__" := by decide) (hd : (x == ("__debug__" : Str)) = false := by decide) (he : starEach (e :: es) X.env = (false, eval e X.env) :: starEach es X.env := by rfl) (hpl : (backTo pos (starEach es X.env)).any (·.1) = false := by rfl) :
    LX X c W (.Call (.Name x p) (e :: es) [] pos) (appL f gs) := by
  obtain ⟨t, pa, q⟩ := ha
  refine LX.mk (pe_callTy hc hg hm hv pa hn hd he hpl) fun ρ σ G H Q E hq => q ρ σ G H _ E (GdL.bind hq fun ds ρ1 vs G1 H1 E1 t1 r1 h1 => ?_)
  cases e : f ds with
  | none => rw [e] at h1; exact False.elim h1
  | some es => rw [e] at h1; exact ho G1 H1 vs ds es Q E1.sub r1 e fun p ws hp hr => GdL.new h1 E1 hp hr

/-! ### methods of data -/
def OpM (X : Cx) (r : V → List V → Hp → VK → Prop) (f : D → List D → Option D) : Prop := ∀ (G H : Hp) (x : V) (dx : D) (xs : List V) (ds : List D) (d : D) (Q : VK), Sub G H → Rep X.K G x dx → Reps X.K G xs ds → f dx ds = some d →
  (∀ v G' H', StepN G H G' H' → Rep X.K G' v d → Q v H') → r x xs H Q
def isStrD : D → Bool
  | .str _ => true | _ => false
def methE (f : D → List D → Option D) (g : GE D) (gs : GE (List D)) : GE D := fun ρ => (g ρ).bind fun x ρ1 => if isStrD x then (gs ρ1).bind fun ds ρ2 => ofOpt (f x ds) ρ2 else .bad
variable {name : Str} {o : Expr} {apos cpos : Pos}
/-- s.name(..), s a text -/
theorem EX.methS {r : V → List V → Hp → VK → Prop} {f : D → List D → Option D} (ho : OpM X r f) (pa : PlainAttrs "str") (slot : Slot "str" name id) (hty : typeOf (.builtin id) = pure (.type "method_descriptor")) (hm : MtR X id r) (hx : EX X c W o ga) (ha : AX X c W (e :: es) gs)
    (hbase : attributeBase o name X.env (eval o X.env) = eval o X.env := by rfl)
    (hfew : ((backTo cpos (starEach (e :: es) X.env)).all (fun x => !x.1) && (backToKw cpos (keywordEach [] X.env)).all (fun x => x.1.isSome)
      && decide ((e :: es).length + ([] : List Keyword).length + (if ([] : List Keyword).isEmpty then 0 else 1) < 30)) = true := by rfl)
    (hline : (apos.endLine == cpos.line) = true := by rfl) (hs : starEach (e :: es) X.env = (false, eval e X.env) :: starEach es X.env := by rfl) (hplain : (backTo cpos (starEach es X.env)).any (·.1) = false := by rfl) :
    EX X c W (.Call (.Attribute o name apos) (e :: es) [] cpos) (methE f ga gs) := by
  obtain ⟨t, px, q⟩ := hx
  obtain ⟨ts, pas, qs⟩ := ha
  refine ⟨_, pe_bm pa slot hty hm px pas hbase hfew hline hs hplain, fun ρ σ G H Q E hq => q ρ σ G H _ E (Gd.bind hq fun dx ρ1 v G1 H1 E1 t1 r1 h1 => ?_)⟩
  cases dx <;> first | exact False.elim h1 | skip
  cases r1
  refine ⟨rfl, qs ρ1 σ G1 H1 _ E1 (Gd.bind (k := fun ds ρ2 => ofOpt (f _ ds) ρ2) h1 fun ds ρ2 vs G2 H2 E2 t2 r2 h2 => ?_)⟩
  obtain ⟨d, e, k⟩ := Gd.opt h2 E2
  exact ho G2 H2 _ _ vs ds d Q E2.sub (.str _) r2 e k
def splitF : D → List D → Option D := fun x ds => match x, ds with
  | .str a, [.str b] => if (b.length == 0) = false ∧ a.length ≤ lim then some (.lst ((Txt.split a b).map D.str)) else none
  | _, _ => none
theorem om_split : OpM X (fun x xs H Q => ∃ a b, x = .str a ∧ xs = [.str b] ∧ (b.length == 0) = false ∧ a.length + 2 ≤ sizeLine ∧ rNewStrs (Txt.split a b) H Q) splitF := fun G H x dx xs ds d Q s rx r e k => by
  unfold splitF at e
  split at e
  · rename_i a b
    by_cases hz : (b.length == 0) = false ∧ a.length ≤ lim
    · rw [if_pos hz] at e
      cases e
      obtain ⟨v, rfl, r1⟩ := reps1 r
      cases r1
      cases rx
      exact ⟨a, b, rfl, rfl, hz.1, Nat.le_trans (Nat.add_le_add_right hz.2 2) (by decide), fun p hp => k _ _ _ (StepN.new s hp) (.lst upd_same (Reps.of_strs _))⟩
    · rw [if_neg hz] at e; cases e
  · cases e
def joinF : D → List D → Option D := fun x ds => match x, ds with
  | .str a, [.lst ys] => (strsOf ys).bind fun ts => if (ts.map (·.length)).sum + ts.length * a.length ≤ lim then some (.str (Txt.join a ts)) else none
  | _, _ => none
theorem om_join : OpM X (fun x xs H Q => ∃ a p, ∃ ys : List Str, x = .str a ∧ xs = [.ref p] ∧ (SqL X.K H p (ys.map V.str) ∨ SqT X.K H p (ys.map V.str)) ∧
    (ys.map (·.length)).sum + ys.length * a.length ≤ 16777216 ∧ Q (.str (Txt.join a ys)) H) joinF := fun G H x dx xs ds d Q s rx r e k => by
  unfold joinF at e
  split at e
  · rename_i a ys
    cases q : strsOf ys with
    | none => rw [q] at e; cases e
    | some ts =>
      rw [q] at e
      simp only [Option.bind_some] at e
      by_cases hz : (ts.map (·.length)).sum + ts.length * a.length ≤ lim
      · rw [if_pos hz] at e
        cases e
        obtain ⟨v, rfl, r1⟩ := reps1 r
        cases rx
        cases r1 with
        | lst h1 h2 =>
          rw [strsOf_eq q] at h2
          have hv := Reps.strs h2
          subst hv
          exact ⟨a, _, ts, rfl, rfl, .inl (s.sqL h1), Nat.le_trans hz (by decide), k _ G H (StepN.refl s) (.str _)⟩
      · rw [if_neg hz] at e; cases e
  · cases e
/-- xs.index(t), xs a written tuple of texts -/
def indexF (ss : List Str) : List D → Option D
  | [.str z] => (ss.findIdx? (· == z)).map fun (i : Nat) => .int i
  | _ => none
theorem EX.tupIndex {u : Addr} {ss : List Str} (hk : ∀ H : Hp, SqT X.K H u (ss.map V.str)) (ht : ∃ o, X.K.lookup u = some o ∧ o.cls = .type "tuple" ∧ o.dict = none) (pg : PE X o (tC (.ref u))) (ha : AX X c W (e :: es) gs)
    (hbase : attributeBase o "index" X.env (eval o X.env) = eval o X.env := by rfl)
    (hfew : ((backTo cpos (starEach (e :: es) X.env)).all (fun x => !x.1) && (backToKw cpos (keywordEach [] X.env)).all (fun x => x.1.isSome)
      && decide ((e :: es).length + ([] : List Keyword).length + (if ([] : List Keyword).isEmpty then 0 else 1) < 30)) = true := by rfl)
    (hline : (apos.endLine == cpos.line) = true := by rfl) (hs : starEach (e :: es) X.env = (false, eval e X.env) :: starEach es X.env := by rfl) (hplain : (backTo cpos (starEach es X.env)).any (·.1) = false := by rfl) :
    EX X c W (.Call (.Attribute o "index" apos) (e :: es) [] cpos) (appE (indexF ss) gs) := by
  obtain ⟨ts, pas, qs⟩ := ha
  refine ⟨_, pe_bm PySem.F.plainAttrs_tuple PySem.F.slot_tuple_index PySem.F.type_tuple_index mt_tup_index pg pas hbase hfew hline hs hplain, fun ρ σ G H Q E hq => ⟨.inr (.inl ⟨rfl, ht⟩), qs ρ σ G H _ E (Gd.bind hq fun ds ρ1 vs G1 H1 E1 t1 r1 h1 => ?_)⟩⟩
  obtain ⟨d, e, k⟩ := Gd.opt h1 E1
  unfold indexF at e
  split at e
  · rename_i z
    obtain ⟨v, rfl, r2⟩ := reps1 r1
    cases r2
    cases q : ss.findIdx? (· == z) with
    | none => rw [q] at e; cases e
    | some j =>
      rw [q] at e
      cases e
      obtain ⟨hj, h2, h3⟩ := List.findIdx?_eq_some_iff_getElem.mp q
      refine ⟨u, ss, z, j, rfl, rfl, hk H1, ?_, fun m hm he => ?_, k _ G1 H1 (StepN.refl E1.sub) (.int _)⟩
      · rw [List.getElem?_eq_getElem hj, beq_iff_eq.mp h2]
      · have hml : m < ss.length := Nat.lt_trans hm hj
        have hc := h3 m hm
        rw [List.getElem?_eq_getElem hml] at he
        have he' := Option.some.inj he
        rw [he'] at hc
        simp at hc
  · cases e
/-! ### isinstance(x, T), T a built-in class -/
def tyD : D → String
  | .non => "NoneType" | .bl _ => "bool" | .int _ => "int" | .str _ => "str" | .lst _ => "list" | .tup _ => "tuple" | .dct _ => "dict" | .fz _ => "list"
theorem tyD_ok {K : PySem.W.Frag} {G H : Hp} {v : V} {d : D} (s : Sub G H) (r : Rep K G v d) : TyX K H v (.type (tyD d)) := by
  cases r with
  | non => exact .base .non
  | bl b => exact .base (.bl b)
  | int i => exact .base (.int i)
  | str x => exact .base (.str x)
  | lst h1 h2 => exact .base (.lst (s _ _ h1))
  | tup h1 h2 =>
    rcases s.sqT h1 with (h | ⟨o, h⟩) | ⟨o, its, n, e1, e2, _⟩
    · exact .base (.tup h)
    · exact .fTuple h
    · exact .kTuple e1 e2
  | dct h1 h2 => exact .base (.dK (s _ _ h1))
  | fz h1 h2 =>
    rcases s.sqL' h1 with (h | ⟨o, h⟩) | ⟨o, its, n, e1, e2, _⟩
    · exact .base (.lst h)
    · exact .base (.frz h)
    · exact .kList e1 e2
def isiF (T : String) : D → Option D := fun d => (kitB (tyD d) T).map .bl
theorem EX.isi {T : String} {tn : Str} {tp : Pos} (hm : X.mg "isinstance" = none) (hmT : X.mg tn = none) (hvT : bootBuiltins tn = some (.type T)) (hx : EX X c W e ga) (hg : Gl X "isinstance" := by rfl) (hgT : Gl X tn := by rfl)
    (hnT : tn ≠ "__name__" := by decide) (hdT : (tn == ("__debug__" : Str)) = false := by decide)
    (he : starEach (e :: [.Name tn tp]) X.env = (false, eval e X.env) :: starEach [.Name tn tp] X.env := by rfl) (hpl : (backTo pos (starEach [.Name tn tp] X.env)).any (·.1) = false := by rfl)
    (he2 : starEach (.Name tn tp :: []) X.env = (false, eval (.Name tn tp) X.env) :: starEach [] X.env := by rfl) :
    EX X c W (.Call (.Name "isinstance" p) [e, .Name tn tp] [] pos) (unE (isiF T) ga) := by
  obtain ⟨t, px, q⟩ := hx
  refine ⟨_, pe_callB call_isi hg hm (by decide +kernel) (pa_cons px (pa_cons (pe_bltn hgT hmT hvT (show RelV (.ty T) (.type T) from rfl) hnT hdT) pa_nil he2) he) (by decide) (by decide) he hpl, fun ρ σ G H Q E hq => q ρ σ G H _ E (Gd.bind hq fun dx ρ1 v G1 H1 E1 t1 r1 h1 => ?_)⟩
  obtain ⟨d, e, k⟩ := Gd.opt h1 E1
  unfold isiF at e
  cases q2 : kitB (tyD dx) T with
  | none => rw [q2] at e; cases e
  | some b =>
    rw [q2] at e
    cases e
    exact ⟨v, .ty T, _, _, b, rfl, .ty T, tyD_ok E1.sub r1, kit_ty q2, k _ G1 H1 (StepN.refl E1.sub) (.bl _)⟩
end
end PL
end L2
set_option Elab.async false
set_option linter.all false
set_option maxRecDepth 100000
namespace L2
namespace PL
open PySem PySem.Spec PyProof.Rows
section
variable {X : Cx} {c : Cz} {W : WX} {a b e : Expr} {ga gb gc : GE D} {pos : Pos} {K : PySem.W.Frag} {ρ ρ' : PEnv} {σ σ' : St} {G H G' H' : Hp}
/-! ### slots stored -/
theorem own_set {i : Nat} {x : D} {v : Option V} {a : Addr} (hl : ρ.length = σ.length) (h : Own (ρ.set i (.d x)) (σ.set i v) a) : Own ρ σ a := by
  obtain ⟨j, ys, e1, e2⟩ := h
  by_cases hj : j = i
  · subst hj
    by_cases hlt : j < ρ.length
    · rw [List.getElem?_set_self hlt] at e1; cases e1
    · rw [List.set_eq_of_length_le (by omega)] at e1 e2
      exact ⟨j, ys, e1, e2⟩
  · rw [List.getElem?_set_ne (Ne.symm hj)] at e1 e2
    exact ⟨j, ys, e1, e2⟩
theorem ER.setd {i : Nat} {x : D} {v : V} (E : ER K c ρ σ G H) (r : Rep K G v x) (hio : ∀ p ∈ c.io, p.1 ≠ i) : ER K c (ρ.set i (.d x)) (σ.set i (some v)) G H where
  len := by rw [List.length_set, List.length_set]; exact E.len
  slot := fun j s e => by
    by_cases hj : j = i
    · subst hj
      have hlt : j < ρ.length := by
        have := (List.getElem?_eq_some_iff.mp e).1
        rw [List.length_set] at this; exact this
      rw [List.getElem?_set_self hlt] at e
      cases e
      rw [List.getElem?_set_self (by rw [← E.len]; exact hlt)]
      exact r
    · rw [List.getElem?_set_ne (Ne.symm hj)] at e
      rw [List.getElem?_set_ne (Ne.symm hj)]
      exact E.slot j s e
  sub := E.sub
  nt := E.nt
  sep := fun j k ys zs b e1 e2 e3 e4 => by
    have f : ∀ (j : Nat) (ys : List D), (ρ.set i (.d x))[j]? = some (.own ys) → (σ.set i (some v))[j]? = some (some (.ref b)) → ρ[j]? = some (.own ys) ∧ σ[j]? = some (some (.ref b)) := fun j ys e e' => by
      by_cases hj : j = i
      · subst hj
        by_cases hlt : j < ρ.length
        · rw [List.getElem?_set_self hlt] at e; cases e
        · rw [List.set_eq_of_length_le (by omega)] at e
          rw [List.set_eq_of_length_le (by rw [← E.len]; omega)] at e'
          exact ⟨e, e'⟩
      · rw [List.getElem?_set_ne (Ne.symm hj)] at e e'
        exact ⟨e, e'⟩
    obtain ⟨q1, q2⟩ := f j ys e1 e3
    obtain ⟨q3, q4⟩ := f k zs e2 e4
    exact E.sep j k ys zs b q1 q3 q2 q4
  tabs := E.tabs
  io := fun p hp => by
    obtain ⟨q1, ys, q2⟩ := E.io p hp
    exact ⟨by rw [List.getElem?_set_ne (Ne.symm (hio p hp))]; exact q1, ys, by rw [List.getElem?_set_ne (Ne.symm (hio p hp))]; exact q2⟩
/-- a new list at p becomes slot i's own -/
theorem ER.setown {i : Nat} {xs : List D} {p : Addr} {vs : List V} (E : ER K c ρ σ G H) (hp : H p = some (.lst vs)) (hg : G p = none) (no : ¬ Own ρ σ p) (r : Reps K G vs xs) (hio : ∀ q ∈ c.io, q.1 ≠ i) : ER K c (ρ.set i (.own xs)) (σ.set i (some (.ref p))) G H where
  len := by rw [List.length_set, List.length_set]; exact E.len
  slot := fun j s e => by
    by_cases hj : j = i
    · subst hj
      have hlt : j < ρ.length := by
        have := (List.getElem?_eq_some_iff.mp e).1
        rw [List.length_set] at this; exact this
      rw [List.getElem?_set_self hlt] at e
      cases e
      rw [List.getElem?_set_self (by rw [← E.len]; exact hlt)]
      exact ⟨p, vs, rfl, hp, r, hg⟩
    · rw [List.getElem?_set_ne (Ne.symm hj)] at e
      rw [List.getElem?_set_ne (Ne.symm hj)]
      exact E.slot j s e
  sub := E.sub
  nt := E.nt
  sep := fun j k ys zs b e1 e2 e3 e4 => by
    have f : ∀ (j : Nat) (ys : List D), (ρ.set i (.own xs))[j]? = some (.own ys) → (σ.set i (some (.ref p)))[j]? = some (some (.ref b)) → (j = i ∧ b = p) ∨ (ρ[j]? = some (.own ys) ∧ σ[j]? = some (some (.ref b)) ∧ (j ≠ i ∨ ρ.length ≤ i)) := fun j ys e e' => by
      by_cases hj : j = i
      · subst hj
        by_cases hlt : j < ρ.length
        · rw [List.getElem?_set_self (by rw [← E.len]; exact hlt)] at e'
          cases e'
          exact .inl ⟨rfl, rfl⟩
        · rw [List.set_eq_of_length_le (by omega)] at e
          rw [List.set_eq_of_length_le (by rw [← E.len]; omega)] at e'
          exact .inr ⟨e, e', .inr (by omega)⟩
      · rw [List.getElem?_set_ne (Ne.symm hj)] at e e'
        exact .inr ⟨e, e', .inl hj⟩
    rcases f j ys e1 e3 with ⟨q1, q2⟩ | ⟨q1, q2, q3⟩
    · rcases f k zs e2 e4 with ⟨w1, w2⟩ | ⟨w1, w2, w3⟩
      · rw [q1, w1]
      · subst q2
        exact absurd ⟨k, zs, w1, w2⟩ no
    · rcases f k zs e2 e4 with ⟨w1, w2⟩ | ⟨w1, w2, w3⟩
      · subst w2
        exact absurd ⟨j, ys, q1, q2⟩ no
      · exact E.sep j k ys zs b q1 w1 q2 w2
  tabs := E.tabs
  io := fun q hq => by
    obtain ⟨q1, ys, q2⟩ := E.io q hq
    exact ⟨by rw [List.getElem?_set_ne (Ne.symm (hio q hq))]; exact q1, ys, by rw [List.getElem?_set_ne (Ne.symm (hio q hq))]; exact q2⟩
theorem own_setown {i : Nat} {xs : List D} {p a : Addr} (hl : ρ.length = σ.length) (h : Own (ρ.set i (.own xs)) (σ.set i (some (.ref p))) a) : Own ρ σ a ∨ a = p := by
  obtain ⟨j, ys, e1, e2⟩ := h
  by_cases hj : j = i
  · subst hj
    by_cases hlt : j < σ.length
    · rw [List.getElem?_set_self hlt] at e2; cases e2; exact .inr rfl
    · rw [List.set_eq_of_length_le (by omega)] at e1 e2
      exact .inl ⟨j, ys, e1, e2⟩
  · rw [List.getElem?_set_ne (Ne.symm hj)] at e1 e2
    exact .inl ⟨j, ys, e1, e2⟩
/-- an own list changes -/
theorem ER.write {i : Nat} {xs ys : List D} {p : Addr} {vs ws : List V} (E : ER K c ρ σ G H) (hρ : ρ[i]? = some (.own xs)) (hσ : σ[i]? = some (some (.ref p))) (hp : H p = some (.lst vs)) (hg : G p = none) (r : Reps K G ws ys) :
    ER K c (ρ.set i (.own ys)) σ G (upd H p (.lst ws)) where
  len := by rw [List.length_set]; exact E.len
  slot := fun j s e => by
    by_cases hj : j = i
    · subst hj
      have hlt : j < ρ.length := (List.getElem?_eq_some_iff.mp hρ).1
      rw [List.getElem?_set_self hlt] at e
      cases e
      rw [hσ]
      exact ⟨p, ws, rfl, upd_same, r, hg⟩
    · rw [List.getElem?_set_ne (Ne.symm hj)] at e
      have q := E.slot j s e
      cases s with
      | un => trivial
      | d x =>
        cases hs : (σ[j]?.getD none) with
        | none => rw [hs] at q; exact q.elim
        | some v => rw [hs] at q; exact q
      | own zs =>
        obtain ⟨b, us, q1, q2, q3, q4⟩ := slot_own E e
        have nb : b ≠ p := fun z => hj (E.sep j i zs xs b e hρ q1 (by rw [z]; exact hσ))
        rw [q1]
        exact ⟨b, us, rfl, by rw [upd_ne nb]; exact q2, q3, q4⟩
  sub := fun b o e => by
    have nb : b ≠ p := fun z => by rw [z, hg] at e; cases e
    rw [upd_ne nb]; exact E.sub b o e
  nt := E.nt
  sep := fun j k zs us b e1 e2 e3 e4 => by
    have f : ∀ (j : Nat) (zs : List D), (ρ.set i (.own ys))[j]? = some (.own zs) → ∃ zs', ρ[j]? = some (.own zs') := fun j zs e => by
      by_cases hj : j = i
      · subst hj; exact ⟨xs, hρ⟩
      · rw [List.getElem?_set_ne (Ne.symm hj)] at e; exact ⟨zs, e⟩
    obtain ⟨z1, q1⟩ := f j zs e1
    obtain ⟨z2, q2⟩ := f k us e2
    exact E.sep j k z1 z2 b q1 q2 e3 e4
  tabs := fun q hq => by
    obtain ⟨ps, h1, h2, h3⟩ := E.tabs q hq
    have np : ∀ {b : Addr} {o : HO}, H b = some o → (∀ l, o ≠ .lst l) → b ≠ p := fun {b o} e n z => by rw [z, hp] at e; exact n vs (Option.some.inj e).symm
    refine ⟨ps, by rw [upd_ne (np h1 fun l z => by cases z)]; exact h1, h2, fun pos cv hc => ?_⟩
    obtain ⟨c0, e1, e2⟩ := h3 pos cv hc
    exact ⟨c0, e1, by rw [upd_ne (np e2 fun l z => by cases z)]; exact e2⟩
  io := fun q hq => by
    obtain ⟨q1, zs, q2⟩ := E.io q hq
    refine ⟨q1, ?_⟩
    by_cases hj : q.1 = i
    · have hlt : i < ρ.length := (List.getElem?_eq_some_iff.mp hρ).1
      exact ⟨ys, by rw [hj, List.getElem?_set_self hlt]⟩
    · exact ⟨zs, by rw [List.getElem?_set_ne (Ne.symm hj)]; exact q2⟩
theorem write_step {i : Nat} {xs : List D} {p : Addr} {ws : List V} (hρ : ρ[i]? = some (.own xs)) (hσ : σ[i]? = some (some (.ref p))) : Step (Own ρ σ) G H G (upd H p (.lst ws)) where
  g := Sub.refl G
  n := fun _ _ h => .inl h
  k := fun b o h no _ => by
    have nb : b ≠ p := fun z => no (by rw [z]; exact ⟨i, xs, hρ, hσ⟩)
    rw [upd_ne nb]; exact h
  d := fun b h => by
    by_cases hb : b = p
    · rw [hb, upd_same] at h; cases h
    · rw [upd_ne hb] at h; exact h
  t := id
theorem own_write {i : Nat} {xs ys : List D} {a : Addr} (hρ : ρ[i]? = some (.own xs)) (h : Own (ρ.set i (.own ys)) σ a) : Own ρ σ a := by
  obtain ⟨j, zs, e1, e2⟩ := h
  by_cases hj : j = i
  · subst hj; exact ⟨j, xs, hρ, e2⟩
  · rw [List.getElem?_set_ne (Ne.symm hj)] at e1; exact ⟨j, zs, e1, e2⟩

/-! ### targets -/
/-- the slots off ws are as they were -/
def Off (ws : List Nat) (σ σ' : St) : Prop := σ'.length = σ.length ∧ ∀ j, j ∉ ws → σ'[j]? = σ[j]?
theorem Off.refl (ws : List Nat) (σ : St) : Off ws σ σ := ⟨rfl, fun _ _ => rfl⟩
theorem Off.trans {ws us : List Nat} {σ1 σ2 σ3 : St} (a : Off ws σ1 σ2) (b : Off us σ2 σ3) : Off (ws ++ us) σ1 σ3 :=
  ⟨b.1.trans a.1, fun j hj => (b.2 j fun h => hj (List.mem_append_right _ h)).trans (a.2 j fun h => hj (List.mem_append_left _ h))⟩
def TGX (X : Cx) (c : Cz) (tg : Expr) (gt : D → PEnv → Option PEnv) (ws : List Nat) : Prop := ∃ t, PG X tg t ∧ ∀ ρ σ G H v d ρ' Q, ER X.K c ρ σ G H → Rep X.K G v d → gt d ρ = some ρ' →
  (∀ σ' G' H', ER X.K c ρ' σ' G' H' → Step (Own ρ σ) G H G' H' → OwnS ρ σ H ρ' σ' → Off ws σ σ' → Q σ' H') → t v σ H Q
def TGXs (X : Cx) (c : Cz) (tg : List Expr) (gt : List D → PEnv → Option PEnv) (ws : List Nat) : Prop := ∃ t, PGs X tg t ∧ ∀ ρ σ G H vs ds ρ' Q, ER X.K c ρ σ G H → Reps X.K G vs ds → gt ds ρ = some ρ' →
  (∀ σ' G' H', ER X.K c ρ' σ' G' H' → Step (Own ρ σ) G H G' H' → OwnS ρ σ H ρ' σ' → Off ws σ σ' → Q σ' H') → t vs σ H Q
/-- the readings as one -/
def tT (X : Cx) (c : Cz) (gt : D → PEnv → Option PEnv) (ws : List Nat) : TG := fun v σ H Q => ∃ ρ G d ρ', ER X.K c ρ σ G H ∧ Rep X.K G v d ∧ gt d ρ = some ρ' ∧ ∀ σ' G' H', ER X.K c ρ' σ' G' H' → Step (Own ρ σ) G H G' H' → OwnS ρ σ H ρ' σ' → Off ws σ σ' → Q σ' H'
theorem TGX.pg {tg : Expr} {gt : D → PEnv → Option PEnv} {ws : List Nat} (h : TGX X c tg gt ws) : PG X tg (tT X c gt ws) := by
  obtain ⟨t, p, q⟩ := h
  exact ⟨fun pins s σ H v u Q I r ⟨ρ, G, d, ρ', E, rd, e, k⟩ => p.run pins s σ H v u Q I r (q ρ σ G H v d ρ' Q E rd e k)⟩
def nameT (i : Nat) : D → PEnv → Option PEnv := fun d ρ => some (ρ.set i (.d d))
theorem off_set {i : Nat} {σ : St} {v : Option V} : Off [i] σ (σ.set i v) := ⟨List.length_set, fun j hj => List.getElem?_set_ne (fun e => hj (by rw [e]; exact List.mem_singleton.mpr rfl))⟩
theorem TGX.name {i : Nat} {x : Str} (hio : ∀ p ∈ c.io, p.1 ≠ i) (hp : PG X (.Name x pos) (gName i)) : TGX X c (.Name x pos) (nameT i) [i] :=
  ⟨_, hp, fun ρ σ G H v d ρ' Q E r e k => by
    cases e
    exact k _ G H (E.setd r hio) (Step.refl _ _ _) (fun a h => .inl (own_set E.len h)) off_set⟩
def nilT : List D → PEnv → Option PEnv := fun ds ρ => match ds with
  | [] => some ρ
  | _ => none
def consT (g : D → PEnv → Option PEnv) (h : List D → PEnv → Option PEnv) : List D → PEnv → Option PEnv := fun ds ρ => match ds with
  | d :: ds => (g d ρ).bind fun ρ1 => h ds ρ1
  | [] => none
theorem TGXs.nil : TGXs X c [] nilT [] := ⟨_, pgs_nil, fun ρ σ G H vs ds ρ' Q E r e k => by
  cases ds with
  | nil => cases r; cases e; exact ⟨rfl, k σ G H E (Step.refl _ _ _) (OwnS.refl _ _ _) (Off.refl _ _)⟩
  | cons _ _ => cases e⟩
theorem TGXs.cons {es : List Expr} {g : D → PEnv → Option PEnv} {h : List D → PEnv → Option PEnv} {ws us : List Nat} (h1 : TGX X c e g ws) (h2 : TGXs X c es h us) (hs : (assignEach (e :: es) X.env).map (·.2) = assign e X.env :: (assignEach es X.env).map (·.2) := by rfl) : TGXs X c (e :: es) (consT g h) (ws ++ us) := by
  obtain ⟨t1, p1, q1⟩ := h1
  obtain ⟨t2, p2, q2⟩ := h2
  refine ⟨_, pgs_cons p1 p2 hs, fun ρ σ G H vs ds ρ' Q E r e k => ?_⟩
  cases ds with
  | nil => cases e
  | cons d ds =>
    cases r with
    | cons r1 r2 =>
      cases q : g d ρ with
      | none => simp only [consT, q, Option.bind_none, reduceCtorEq] at e
      | some ρ1 =>
        simp only [consT, q, Option.bind_some] at e
        exact ⟨_, _, rfl, q1 ρ σ G H _ d ρ1 _ E r1 q fun σ1 G1 H1 E1 s1 o1 f1 => q2 ρ1 σ1 G1 H1 _ ds ρ' Q E1 (Reps.sub s1.g r2) e fun σ2 G2 H2 E2 s2 o2 f2 => k σ2 G2 H2 E2 (s1.trans s2 o1) (o1.trans s1 o2) (f1.trans f2)⟩
def tupT (h : List D → PEnv → Option PEnv) : D → PEnv → Option PEnv := fun d ρ => match d with
  | .tup ds => h ds ρ
  | .lst ds => h ds ρ
  | _ => none
theorem pg_either {tg : Expr} {t u : TG} (h1 : PG X tg t) (h2 : PG X tg u) : PG X tg (fun v σ H Q => t v σ H Q ∨ u v σ H Q) :=
  ⟨fun pins s σ H v w Q I r h => h.elim (h1.run pins s σ H v w Q I r) (h2.run pins s σ H v w Q I r)⟩
theorem TGX.tup {es : List Expr} {k n : Nat} {h : List D → PEnv → Option PEnv} {ws : List Nat} (hc : X.calm = true) (ht : TGXs X c es h ws) (hlen : ∀ ds ρ ρ', h ds ρ = some ρ' → ds.length = n) (hn : (assignEach es X.env).length = n := by rfl) (hst : (assignEach es X.env).findIdx? (·.1) = none := by rfl) :
    TGX X c (.Tuple es k pos) (tupT h) ws := by
  obtain ⟨t, p, q⟩ := ht
  refine ⟨_, pg_either (pg_tup hc p hn hst) (pg_unl hc p hn hst), fun ρ σ G H v d ρ' Q E r e k => ?_⟩
  cases r <;> first | (simp only [tupT, reduceCtorEq] at e; done) | skip
  · rename_i a xs ds h1 h2
    exact .inr ⟨a, xs, rfl, E.sub.sqL h1, by rw [Reps.length h2]; exact hlen ds ρ ρ' e, q ρ σ G H xs ds ρ' Q E h2 e k⟩
  · rename_i a xs ds h1 h2
    exact .inl ⟨a, xs, rfl, E.sub.sqT h1, by rw [Reps.length h2]; exact hlen ds ρ ρ' e, q ρ σ G H xs ds ρ' Q E h2 e k⟩
theorem nilT_len : ∀ ds ρ ρ', nilT ds ρ = some ρ' → ds.length = 0 := fun ds ρ ρ' h => by
  cases ds with
  | nil => rfl
  | cons _ _ => cases h
theorem consT_len {g : D → PEnv → Option PEnv} {h : List D → PEnv → Option PEnv} {n : Nat} (hh : ∀ ds ρ ρ', h ds ρ = some ρ' → ds.length = n) : ∀ ds ρ ρ', consT g h ds ρ = some ρ' → ds.length = n + 1 := fun ds ρ ρ' e => by
  cases ds with
  | nil => cases e
  | cons d ds =>
    cases q : g d ρ with
    | none => simp only [consT, q, Option.bind_none, reduceCtorEq] at e
    | some ρ1 =>
      simp only [consT, q, Option.bind_some] at e
      rw [List.length_cons, hh ds ρ1 ρ' e]
/-- xs[k] = .., xs an own list, k written -/
def ownIxT (i : Nat) (k : Int) : D → PEnv → Option PEnv := fun d ρ => match ρ[i]? with
  | some (.own xs) => (ixN xs.length k).map fun j => ρ.set i (.own (xs.set j d))
  | _ => none
theorem TGX.ownIx {i : Nat} {k : Int} {x : Str} {ix : Expr} {p1 : Pos} (hp : PE X (.Name x p1) (tVar i)) (hi : PE X ix (tC (.int k)))
    (ha : ∀ v, assign (.Subscript (.Name x p1) ix pos) X.env v = (do
      let ov ← holding [v] (eval (.Name x p1) X.env)
      let iv ← holding [v, ov] (eval ix X.env)
      standAt pos
      holding [v, ov, iv] (setItem ov iv v)
      release [v, ov, iv] []) := by intro _; rfl) : TGX X c (.Subscript (.Name x p1) ix pos) (ownIxT i k) [] := by
  refine ⟨_, pg_sub hp hi set_list ha, fun ρ σ G H v d ρ' Q E r e kk => ?_⟩
  unfold ownIxT at e
  cases h : ρ[i]? with
  | none => rw [h] at e; cases e
  | some s =>
    rw [h] at e
    cases s with
    | un => cases e
    | d _ => cases e
    | own xs =>
      obtain ⟨p, vs, e1, e2, e3, e4⟩ := slot_own E h
      cases hj : ixN xs.length k with
      | none => simp only [hj, Option.map_none, reduceCtorEq] at e
      | some j =>
        simp only [hj, Option.map_some, Option.some.injEq] at e
        subst e
        exact ⟨.ref p, e1, p, vs, k, j, rfl, rfl, e2, by rw [Reps.length e3]; exact hj, kk σ G _ (E.write h e1 e2 e4 (e3.set j r)) (write_step h e1) (fun a q => .inl (own_write h q)) (Off.refl _ _)⟩
end
end PL
end L2
set_option Elab.async false
set_option linter.all false
set_option maxRecDepth 100000
namespace L2
namespace PL
open PySem PySem.Spec PyProof.Rows
inductive FR where
  | nx (ρ : PEnv) | rt (d : D) (ρ : PEnv) | bk (ρ : PEnv) | ct (ρ : PEnv) | er (x : Exn) (ρ : PEnv) | bad
abbrev GS := PEnv → FR
def R.bindS {α : Type} : R α → (α → PEnv → FR) → FR
  | .ok a ρ, k => k a ρ
  | .er x ρ, _ => .er x ρ
  | .bad, _ => .bad
def GdS (X : Cx) (c : Cz) (W : WX) (D' : Ends) (ρ : PEnv) (σ : St) (G H : Hp) (r : FR) : Prop :=
  match r with
  | .nx ρ' => ∀ σ' G' H', ER X.K c ρ' σ' G' H' → Step (Own ρ σ) G H G' H' → OwnS ρ σ H ρ' σ' → D'.nx σ' H'
  | .bk ρ' => ∀ σ' G' H', ER X.K c ρ' σ' G' H' → Step (Own ρ σ) G H G' H' → OwnS ρ σ H ρ' σ' → D'.bk σ' H'
  | .ct ρ' => ∀ σ' G' H', ER X.K c ρ' σ' G' H' → Step (Own ρ σ) G H G' H' → OwnS ρ σ H ρ' σ' → D'.ct σ' H'
  | .rt d ρ' => ∀ v σ' G' H', ER X.K c ρ' σ' G' H' → Step (Own ρ σ) G H G' H' → OwnS ρ σ H ρ' σ' → Rep X.K G' v d → D'.rt v H'
  | .er x ρ' => ∀ C dd σ' G' H', ER X.K c ρ' σ' G' H' → Step (Own ρ σ) G H G' H' → OwnS ρ σ H ρ' σ' → XR X.K X.mg x C dd G' H' → W (.ref C) (some dd) σ' H'
  | .bad => False
section
variable {α β : Type} {X : Cx} {c : Cz} {W : WX} {D' : Ends} {ρ ρ1 : PEnv} {σ σ1 : St} {G H G1 H1 : Hp}
theorem GdS.shift {r : FR} (h : GdS X c W D' ρ σ G H r) (t : Step (Own ρ σ) G H G1 H1) (o : OwnS ρ σ H ρ1 σ1) : GdS X c W D' ρ1 σ1 G1 H1 r := by
  cases r with
  | nx ρ' => exact fun σ' G' H' e t' o' => h σ' G' H' e (t.trans t' o) (o.trans t o')
  | bk ρ' => exact fun σ' G' H' e t' o' => h σ' G' H' e (t.trans t' o) (o.trans t o')
  | ct ρ' => exact fun σ' G' H' e t' o' => h σ' G' H' e (t.trans t' o) (o.trans t o')
  | rt d ρ' => exact fun v σ' G' H' e t' o' => h v σ' G' H' e (t.trans t' o) (o.trans t o')
  | er x ρ' => exact fun C dd σ' G' H' e t' o' => h C dd σ' G' H' e (t.trans t' o) (o.trans t o')
  | bad => exact h
theorem GdS.bind {r : R α} {k : α → PEnv → FR} {Rel1 : Hp → α → β → Prop} {M : β → Hp → Prop} (h : GdS X c W D' ρ σ G H (r.bindS k))
    (hm : ∀ a ρ1 b G1 H1, ER X.K c ρ1 σ G1 H1 → Step (Own ρ σ) G H G1 H1 → OwnS ρ σ H ρ1 σ → Rel1 G1 a b → GdS X c W D' ρ1 σ G1 H1 (k a ρ1) → M b H1) : Gd X c W ρ σ G H r Rel1 M := by
  cases r with
  | ok a ρ' => exact fun b G' H' e t o rel => hm a ρ' b G' H' e t o rel (GdS.shift (show GdS X c W D' ρ σ G H (k a ρ') from h) t o)
  | er x ρ' => exact fun C dd G' H' e t o q => h C dd σ G' H' e t o q
  | bad => exact h
theorem GdS.bindL {r : R (List D)} {k : List D → PEnv → FR} {Q : VK} (h : GdS X c W D' ρ σ G H (r.bindS k))
    (hm : ∀ xs ρ1 p vs G1 H1, ER X.K c ρ1 σ G1 H1 → Step (Own ρ σ) G H G1 H1 → OwnS ρ σ H ρ1 σ → H p = none → H1 p = some (.lst vs) → G1 p = none → ¬ Own ρ1 σ p → Reps X.K G1 vs xs → GdS X c W D' ρ σ G H (k xs ρ1) → Q (.ref p) H1) : GdL X c W ρ σ G H r Q := by
  cases r with
  | ok xs ρ' => exact fun p vs G' H' e t o h0 hp hg no hr => hm xs ρ' p vs G' H' e t o h0 hp hg no hr h
  | er x ρ' => exact fun C dd G' H' e t o q => h C dd σ G' H' e t o q
  | bad => exact h
end
section
variable (X : Cx) (c : Cz) (W : WX)
def SX (st : Stmt) (g : GS) : Prop := ∃ t, PS X st t ∧ ∀ ρ σ G H D', ER X.K c ρ σ G H → GdS X c W D' ρ σ G H (g ρ) → t D' σ H
def SXs (st : List Stmt) (g : GS) : Prop := ∃ t, PSs X st t ∧ ∀ ρ σ G H D', ER X.K c ρ σ G H → GdS X c W D' ρ σ G H (g ρ) → t D' σ H
end
section
variable {X : Cx} {c : Cz} {W : WX} {e : Expr} {ge : GE D} {pos : Pos} {st : Stmt} {rest : List Stmt} {g g2 : GS}
def nopS : GS := fun ρ => .nx ρ
def seqS (g g2 : GS) : GS := fun ρ => match g ρ with
  | .nx ρ1 => g2 ρ1
  | r => r
theorem SXs.nil : SXs X c W [] nopS := ⟨_, pss_nil, fun ρ σ G H D' E h => h σ G H E (Step.refl _ _ _) (OwnS.refl _ _ _)⟩
theorem GdS.seq {D' : Ends} {ρ : PEnv} {σ : St} {G H : Hp} {u : TS} (h : GdS X c W D' ρ σ G H (seqS g g2 ρ)) (hu : ∀ ρ σ G H D', ER X.K c ρ σ G H → GdS X c W D' ρ σ G H (g2 ρ) → u D' σ H) : GdS X c W { D' with nx := u D' } ρ σ G H (g ρ) := by
  unfold seqS at h
  cases q : g ρ with
  | nx ρ1 => rw [q] at h; exact fun σ' G' H' e t o => hu ρ1 σ' G' H' D' e (GdS.shift h t o)
  | bk ρ1 => rw [q] at h; exact h
  | ct ρ1 => rw [q] at h; exact h
  | rt d ρ1 => rw [q] at h; exact h
  | er x ρ1 => rw [q] at h; exact h
  | bad => rw [q] at h; exact h
theorem SXs.cons (h1 : SX X c W st g) (h2 : SXs X c W rest g2) : SXs X c W (st :: rest) (seqS g g2) := by
  obtain ⟨t, p, q⟩ := h1
  obtain ⟨u, p2, q2⟩ := h2
  exact ⟨_, pss_cons p p2, fun ρ σ G H D' E h => q ρ σ G H _ E (h.seq q2)⟩
theorem SXs.one (h1 : SX X c W st g) : SXs X c W [st] g := by
  obtain ⟨t, p, q⟩ := h1
  exact ⟨_, pss_one p, q⟩
theorem SX.pass : SX X c W (.Pass pos) nopS := ⟨_, ps_pass, fun ρ σ G H D' E h => h σ G H E (Step.refl _ _ _) (OwnS.refl _ _ _)⟩
theorem SX.brk : SX X c W (.Break pos) FR.bk := ⟨_, ps_break, fun ρ σ G H D' E h => h σ G H E (Step.refl _ _ _) (OwnS.refl _ _ _)⟩
theorem SX.cnt : SX X c W (.Continue pos) FR.ct := ⟨_, ps_continue, fun ρ σ G H D' E h => h σ G H E (Step.refl _ _ _) (OwnS.refl _ _ _)⟩
def retS (g : GE D) : GS := fun ρ => (g ρ).bindS .rt
theorem SX.ret (h : EX X c W e ge) : SX X c W (.Return (some e) pos) (retS ge) := by
  obtain ⟨t, p, q⟩ := h
  exact ⟨_, ps_ret p, fun ρ σ G H D' E h => q ρ σ G H _ E (GdS.bind (Rel1 := RV X) h fun d ρ1 v G1 H1 E1 t1 o1 r1 h1 => h1 v σ G1 H1 E1 (Step.refl _ _ _) (OwnS.refl _ _ _) r1)⟩
def retNS : GS := fun ρ => .rt .non ρ
theorem SX.retN : SX X c W (.Return none pos) retNS := ⟨_, ps_retN, fun ρ σ G H D' E h => h .non σ G H E (Step.refl _ _ _) (OwnS.refl _ _ _) .non⟩
def dropS (g : GE D) : GS := fun ρ => (g ρ).bindS fun _ ρ1 => .nx ρ1
theorem SX.expr (h : EX X c W e ge) (hs : swapsWith e none pos.line X.env = pure false := by rfl) : SX X c W (.Expr e pos) (dropS ge) := by
  obtain ⟨t, p, q⟩ := h
  exact ⟨_, ps_expr p hs, fun ρ σ G H D' E h => q ρ σ G H _ E (GdS.bind (Rel1 := RV X) h fun d ρ1 v G1 H1 E1 t1 o1 r1 h1 => h1 σ G1 H1 E1 (Step.refl _ _ _) (OwnS.refl _ _ _))⟩
def ifS (t : GE Bool) (g g2 : GS) : GS := fun ρ => (t ρ).bindS fun b ρ1 => if b then g ρ1 else g2 ρ1
theorem SX.ifS {t : Expr} {ta : GE Bool} {a b : List Stmt} (ht : TX X c W t ta) (ha : SXs X c W a g) (hb : SXs X c W b g2) : SX X c W (.If t a b pos) (ifS ta g g2) := by
  obtain ⟨t, p, q⟩ := ht
  obtain ⟨t2, p2, q2⟩ := ha
  obtain ⟨t3, p3, q3⟩ := hb
  refine ⟨_, ps_if p p2 p3, fun ρ σ G H D' E h => q ρ σ G H _ E (GdS.bind (Rel1 := RB) h fun k ρ1 k' G1 H1 E1 t1 o1 r1 h1 => ?_)⟩
  subst r1
  cases k with
  | true => rw [if_pos rfl] at h1 ⊢; exact q2 ρ1 σ G1 H1 D' E1 h1
  | false => rw [if_neg (by decide)] at h1 ⊢; exact q3 ρ1 σ G1 H1 D' E1 h1
def asgS (g : GE D) (gt : D → PEnv → Option PEnv) : GS := fun ρ => (g ρ).bindS fun d ρ1 => match gt d ρ1 with
  | some ρ2 => .nx ρ2
  | none => .bad
theorem GdS.tgt {D' : Ends} {ρ : PEnv} {σ : St} {G H : Hp} {d : D} {v : V} {gt : D → PEnv → Option PEnv} {t : TG} (h : GdS X c W D' ρ σ G H (match gt d ρ with | some ρ2 => .nx ρ2 | none => .bad)) (E : ER X.K c ρ σ G H) (r : Rep X.K G v d)
    {ws : List Nat} (ht : ∀ ρ σ G H v d ρ' Q, ER X.K c ρ σ G H → Rep X.K G v d → gt d ρ = some ρ' → (∀ σ' G' H', ER X.K c ρ' σ' G' H' → Step (Own ρ σ) G H G' H' → OwnS ρ σ H ρ' σ' → Off ws σ σ' → Q σ' H') → t v σ H Q) : t v σ H D'.nx := by
  cases q : gt d ρ with
  | none => rw [q] at h; exact h.elim
  | some ρ2 => rw [q] at h; exact ht ρ σ G H v d ρ2 _ E r q fun σ' G' H' a b o _ => h σ' G' H' a b o
theorem SX.asg {tg : Expr} {gt : D → PEnv → Option PEnv} {ws : List Nat} (he : EX X c W e ge) (hg : TGX X c tg gt ws) (hs : swapsWithSole [tg] e pos.line X.env = pure false := by rfl) (hw : swappedStores [tg] e X.env = pure none := by rfl)
    (h1 : (assignEach [tg] X.env).map (·.2) = [assign tg X.env] := by rfl) : SX X c W (.Assign [tg] e pos) (asgS ge gt) := by
  obtain ⟨t, p, q⟩ := he
  obtain ⟨t2, p2, q2⟩ := hg
  exact ⟨_, ps_asg p p2 hs hw h1, fun ρ σ G H D' E h => q ρ σ G H _ E (GdS.bind (Rel1 := RV X) h fun d ρ1 v G1 H1 E1 t1 o1 r1 h1 => GdS.tgt h1 E1 r1 q2)⟩
/-- name = e, by ps_set -/
theorem SX.set {i : Nat} {x : Str} {pos' : Pos} (he : EX X c W e ge) (hio : ∀ p ∈ c.io, p.1 ≠ i) (hp : ∀ te, PE X e te → PS X (.Assign [.Name x pos'] e pos) (tAsg te (gName i))) : SX X c W (.Assign [.Name x pos'] e pos) (asgS ge (nameT i)) := by
  obtain ⟨t, p, q⟩ := he
  exact ⟨_, hp t p, fun ρ σ G H D' E h => q ρ σ G H _ E (GdS.bind (Rel1 := RV X) h fun d ρ1 v G1 H1 E1 t1 o1 r1 h1 => h1 _ G1 H1 (E1.setd r1 hio) (Step.refl _ _ _) fun a hh => .inl (own_set E1.len hh))⟩
def asgOwnS (g : GE (List D)) (i : Nat) : GS := fun ρ => (g ρ).bindS fun xs ρ1 => .nx (ρ1.set i (.own xs))
theorem SX.setOwn {i : Nat} {x : Str} {pos' : Pos} {gl : GE (List D)} (he : LX X c W e gl) (hio : ∀ p ∈ c.io, p.1 ≠ i) (hp : ∀ te, PE X e te → PS X (.Assign [.Name x pos'] e pos) (tAsg te (gName i))) : SX X c W (.Assign [.Name x pos'] e pos) (asgOwnS gl i) := by
  obtain ⟨t, p, q⟩ := he
  refine ⟨_, hp t p, fun ρ σ G H D' E h => q ρ σ G H _ E (GdS.bindL (Q := fun x H1 => gName i x σ H1 D'.nx) h fun xs ρ1 p vs G1 H1 E1 t1 o1 h0 hp hg no hr h1 => ?_)⟩
  refine h1 _ G1 H1 (E1.setown hp hg no hr hio) t1 fun a ha => ?_
  rcases own_setown E1.len ha with q | q
  · exact o1 a q
  · subst q; exact .inr h0
/-- x.append(e), x an own list -/
def isOwn : Option SV → Bool
  | some (.own _) => true | _ => false
def appendS (i : Nat) (g : GE D) : GS := fun ρ => if isOwn ρ[i]? then (g ρ).bindS fun d ρ1 => match ρ1[i]? with
  | some (.own xs) => if xs.length < lim then .nx (ρ1.set i (.own (xs ++ [d]))) else .bad
  | _ => .bad
  else .bad
theorem isOwn_of {o : Option SV} (h : isOwn o = true) : ∃ xs, o = some (.own xs) := by
  cases o with
  | none => cases h
  | some s => cases s <;> first | exact ⟨_, rfl⟩ | cases h
theorem SX.append {i : Nat} {x : Str} {p1 apos cpos : Pos} (he : EX X c W e ge)
    (hpe : ∀ te, PE X e te → PE X (.Call (.Attribute (.Name x p1) "append" apos) [e] [] cpos) (tBM X.K "list" rAppend (tVar i) (tCons te tNil))) (hs : swapsWith (.Call (.Attribute (.Name x p1) "append" apos) [e] [] cpos) none pos.line X.env = pure false := by rfl) :
    SX X c W (.Expr (.Call (.Attribute (.Name x p1) "append" apos) [e] [] cpos) pos) (appendS i ge) := by
  obtain ⟨t, p, q⟩ := he
  refine ⟨_, ps_expr (hpe t p) hs, fun ρ σ G H D' E h => ?_⟩
  unfold appendS at h
  cases ho : isOwn ρ[i]? with
  | false => rw [ho, if_neg (by decide)] at h; exact False.elim h
  | true =>
    rw [ho, if_pos rfl] at h
    obtain ⟨xs0, hx0⟩ := isOwn_of ho
    obtain ⟨a, vs0, e1, e2, e3, e4⟩ := slot_own E hx0
    refine ⟨.ref a, e1, .inl ⟨rfl, vs0, .inl (.inl e2)⟩, q ρ σ G H _ E (GdS.bind (Rel1 := RV X) h fun d ρ1 v G1 H1 E1 t1 o1 r1 h1 => ?_)⟩
    cases q1 : ρ1[i]? with
    | none => simp only [q1] at h1; exact False.elim h1
    | some s =>
      cases s with
      | un => simp only [q1] at h1; exact False.elim h1
      | d _ => simp only [q1] at h1; exact False.elim h1
      | own xs =>
        simp only [q1] at h1
        by_cases hl : xs.length < lim
        · rw [if_pos hl] at h1
          obtain ⟨b, vs, f1, f2, f3, f4⟩ := slot_own E1 q1
          have hab : a = b := by
            rw [e1] at f1
            cases f1
            rfl
          subst hab
          exact ⟨a, vs, v, rfl, rfl, f2, Nat.lt_of_lt_of_le (by rw [Reps.length f3]; exact hl) (by decide : lim ≤ sizeLine), h1 σ G1 _ (E1.write q1 f1 f2 f4 (f3.snoc r1)) (write_step q1 f1) fun x hx => .inl (own_write q1 hx)⟩
        · rw [if_neg hl] at h1; exact False.elim h1
/-! ### own lists in expressions -/
/-- len(x) -/
def lenOwnE (i : Nat) : GE D := fun ρ => match ρ[i]? with
  | some (.own xs) => .ok (.int xs.length) ρ
  | _ => .bad
theorem EX.lenOwn {i : Nat} {x fx : Str} {p1 p2 : Pos} (hpe : ∀ te, PE X (.Name x p1) te → PE X (.Call (.Name fx p2) [.Name x p1] [] pos) (tCB (rLenS X.K) (tCons te tNil))) (hp : PE X (.Name x p1) (tVar i)) : EX X c W (.Call (.Name fx p2) [.Name x p1] [] pos) (lenOwnE i) := by
  refine ⟨_, hpe _ hp, fun ρ σ G H Q E h => ?_⟩
  unfold lenOwnE at h
  cases q : ρ[i]? with
  | none => rw [q] at h; exact h.elim
  | some s =>
    rw [q] at h
    cases s with
    | un => exact h.elim
    | d _ => exact h.elim
    | own xs =>
      obtain ⟨a, vs, e1, e2, e3, e4⟩ := slot_own E q
      exact ⟨.ref a, e1, a, vs, rfl, .inl (.inl (.inl e2)), by rw [Reps.length e3]; exact Gd.here (Rel := RV X) h E (.int _)⟩
/-- x[..] -/
def ixOwnE (i : Nat) (g : GE D) : GE D := fun ρ => if isOwn ρ[i]? then (g ρ).bind fun d ρ1 => match ρ1[i]?, d with
  | some (.own xs), .int k => ofOpt (atI xs k) ρ1
  | _, _ => .bad
  else .bad
theorem EX.ixOwn {i : Nat} {x : Str} {p1 : Pos} {b : Expr} {gb : GE D} (hp : PE X (.Name x p1) (tVar i)) (hb : EX X c W b gb) (hs : PlainIx b := by exact (fun _ _ => rfl)) : EX X c W (.Subscript (.Name x p1) b pos) (ixOwnE i gb) := by
  obtain ⟨tb, pb, qb⟩ := hb
  refine ⟨_, pe_ix ix_list hp pb hs, fun ρ σ G H Q E h => ?_⟩
  unfold ixOwnE at h
  cases ho : isOwn ρ[i]? with
  | false => rw [ho, if_neg (by decide)] at h; exact False.elim h
  | true =>
    rw [ho, if_pos rfl] at h
    obtain ⟨xs0, hx0⟩ := isOwn_of ho
    obtain ⟨a, vs0, e1, e2, e3, e4⟩ := slot_own E hx0
    refine ⟨.ref a, e1, qb ρ σ G H _ E (Gd.bind h fun d ρ1 v G1 H1 E1 t1 r1 h1 => ?_)⟩
    cases q1 : ρ1[i]? with
    | none => simp only [q1] at h1; exact False.elim h1
    | some s =>
      cases s with
      | un => simp only [q1] at h1; exact False.elim h1
      | d _ => simp only [q1] at h1; exact False.elim h1
      | own xs =>
        cases r1 <;> first | (simp only [q1] at h1; exact False.elim h1) | skip
        rename_i k
        simp only [q1] at h1
        obtain ⟨b, vs, f1, f2, f3, f4⟩ := slot_own E1 q1
        have hab : a = b := by
          rw [e1] at f1
          cases f1
          rfl
        subst hab
        obtain ⟨d, e, kk⟩ := Gd.opt h1 E1
        obtain ⟨w, z1, z2⟩ := f3.atI e
        exact ⟨a, vs, k, w, rfl, rfl, .inl (.inl f2), z1, kk w G1 H1 (StepN.refl E1.sub) z2⟩
/-- x.pop(k) -/
def popOwnE (i : Nat) (g : GE D) : GE D := fun ρ => if isOwn ρ[i]? then (g ρ).bind fun d ρ1 => match ρ1[i]?, d with
  | some (.own xs), .int k => if -(2 ^ 63) ≤ k ∧ k < 2 ^ 63 then match seqIndex? k xs.length with
    | some j => match xs[j]? with
      | some y => .ok y (ρ1.set i (.own (xs.eraseIdx j)))
      | none => .bad
    | none => .bad
    else .bad
  | _, _ => .bad
  else .bad
theorem EX.popOwn {i : Nat} {x : Str} {p1 apos cpos : Pos} {b : Expr} {gb : GE D} (hb : EX X c W b gb)
    (hpe : ∀ te, PE X b te → PE X (.Call (.Attribute (.Name x p1) "pop" apos) [b] [] cpos) (tBM X.K "list" rPopAt (tVar i) (tCons te tNil))) : EX X c W (.Call (.Attribute (.Name x p1) "pop" apos) [b] [] cpos) (popOwnE i gb) := by
  obtain ⟨tb, pb, qb⟩ := hb
  refine ⟨_, hpe _ pb, fun ρ σ G H Q E h => ?_⟩
  unfold popOwnE at h
  cases ho : isOwn ρ[i]? with
  | false => rw [ho, if_neg (by decide)] at h; exact False.elim h
  | true =>
    rw [ho, if_pos rfl] at h
    obtain ⟨xs0, hx0⟩ := isOwn_of ho
    obtain ⟨a, vs0, e1, e2, e3, e4⟩ := slot_own E hx0
    refine ⟨.ref a, e1, .inl ⟨rfl, vs0, .inl (.inl e2)⟩, qb ρ σ G H _ E (Gd.bind h fun d ρ1 v G1 H1 E1 t1 r1 h1 => ?_)⟩
    cases q1 : ρ1[i]? with
    | none => simp only [q1] at h1; exact False.elim h1
    | some s =>
      cases s with
      | un => simp only [q1] at h1; exact False.elim h1
      | d _ => simp only [q1] at h1; exact False.elim h1
      | own xs =>
        cases r1 <;> first | (simp only [q1] at h1; exact False.elim h1) | skip
        rename_i k
        simp only [q1] at h1
        obtain ⟨b, vs, f1, f2, f3, f4⟩ := slot_own E1 q1
        have hab : a = b := by
          rw [e1] at f1
          cases f1
          rfl
        subst hab
        by_cases hk : -(2 ^ 63) ≤ k ∧ k < 2 ^ 63
        · rw [if_pos hk] at h1
          cases hj : seqIndex? k xs.length with
          | none => simp only [hj] at h1; exact False.elim h1
          | some j =>
            simp only [hj] at h1
            cases hy : xs[j]? with
            | none => simp only [hy] at h1; exact False.elim h1
            | some y =>
              simp only [hy] at h1
              obtain ⟨w, z1, z2⟩ := f3.get hy
              exact ⟨a, vs, k, j, w, rfl, rfl, f2, hk.1, hk.2, by rw [Reps.length f3]; exact hj, z1,
                h1 w G1 _ (E1.write q1 f1 f2 f4 (f3.eraseIdx j)) (write_step q1 f1) (fun x hx => .inl (own_write q1 hx)) z2⟩
        · rw [if_neg hk] at h1; exact False.elim h1
end
end PL
end L2
set_option Elab.async false
set_option linter.all false
set_option maxRecDepth 100000
namespace L2
namespace PL
open PySem PySem.Spec PyProof.Rows
section
variable {X : Cx} {c : Cz} {W : WX} {a b e tg iter : Expr} {ga gb gc : GE D} {pos : Pos} {K : PySem.W.Frag} {ρ ρ' : PEnv} {σ σ' : St} {G H G' H' : Hp}
/-! ### canonical readings -/
def tP (X : Cx) (c : Cz) (W : WX) (g : GE D) : TE := fun σ H Q => ∃ ρ G, ER X.K c ρ σ G H ∧ Gd X c W ρ σ G H (g ρ) (RV X) Q
theorem EX.pe (h : EX X c W e ga) : PE X e (tP X c W ga) := by
  obtain ⟨t, p, q⟩ := h
  exact ⟨fun pins s σ H Q I ⟨ρ, G, E, hq⟩ => p.run pins s σ H Q I (q ρ σ G H Q E hq)⟩
def tPT (X : Cx) (c : Cz) (W : WX) (g : GE Bool) : TT := fun σ H Q => ∃ ρ G, ER X.K c ρ σ G H ∧ Gd X c W ρ σ G H (g ρ) RB Q
theorem TX.pt {ta : GE Bool} (h : TX X c W e ta) : PT X e (tPT X c W ta) := by
  obtain ⟨t, p, q⟩ := h
  exact ⟨fun pins s σ H Q I ⟨ρ, G, E, hq⟩ => p.run pins s σ H Q I (q ρ σ G H Q E hq)⟩
def tPS (X : Cx) (c : Cz) (W : WX) (g : GS) : TS := fun D' σ H => ∃ ρ G, ER X.K c ρ σ G H ∧ GdS X c W D' ρ σ G H (g ρ)
theorem SXs.pss {st : List Stmt} {g : GS} (h : SXs X c W st g) : PSs X st (tPS X c W g) := by
  obtain ⟨t, p, q⟩ := h
  exact ⟨fun pins s σ H D' I ⟨ρ, G, E, hq⟩ => p.run pins s σ H D' I (q ρ σ G H D' E hq)⟩
/-! ### what is walked -/
def EnumOk (K : PySem.W.Frag) (J : It) (items : List D) (G : Hp) : Prop := ∀ (G' H' : Hp) (i : Nat), Sub G G' → Sub G' H' →
  (i < items.length → J.go i H' ∧ ∀ x H'', J.yld i H' x H'' → ∃ G'' d, StepN G' H' G'' H'' ∧ items[i]? = some d ∧ Rep K G'' x d) ∧ (items.length ≤ i → J.stop i H')
theorem EnumOk.sub {J : It} {items : List D} (h : EnumOk K J items G) (s : Sub G G') : EnumOk K J items G' := fun G2 H2 i a b => h G2 H2 i (s.trans a) b
def IX (X : Cx) (c : Cz) (W : WX) (tg iter : Expr) (gi : GE (List D)) : Prop := ∃ wi, PI X tg iter wi ∧ ∀ ρ σ G H R, ER X.K c ρ σ G H → Gd X c W ρ σ G H (gi ρ) (fun G' items J => EnumOk X.K J items G') R → wi σ H R
theorem enum_list {a : Addr} {xs : List V} {ds : List D} (h : G a = some (.lst xs)) (r : Reps K G xs ds) : EnumOk K (Itl K a) ds G := fun G' H' i s1 s2 => by
  have hl : SqL K H' a xs := (s1.trans s2).sqL h
  refine ⟨fun hi => ?_, fun hi => ⟨xs, hl, by rw [Reps.length r]; exact hi⟩⟩
  obtain ⟨v, e1, e2⟩ := r.get (List.getElem?_eq_getElem hi)
  exact ⟨⟨xs, v, hl, e1⟩, fun x H'' ⟨e, q⟩ => by
    subst e
    have := q xs hl
    rw [e1] at this
    cases this
    exact ⟨G', _, StepN.refl s2, List.getElem?_eq_getElem hi, Rep.sub s1 e2⟩⟩
theorem enum_tup {a : Addr} {xs : List V} {ds : List D} (h : SqT K G a xs) (r : Reps K G xs ds) : EnumOk K (Itt K a) ds G := fun G' H' i s1 s2 => by
  have hl : SqT K H' a xs := (s1.trans s2).sqT h
  refine ⟨fun hi => ?_, fun hi => ⟨xs, hl, by rw [Reps.length r]; exact hi⟩⟩
  obtain ⟨v, e1, e2⟩ := r.get (List.getElem?_eq_getElem hi)
  exact ⟨⟨xs, v, hl, e1⟩, fun x H'' ⟨e, q⟩ => by
    subst e
    have := q xs hl
    rw [e1] at this
    cases this
    exact ⟨G', _, StepN.refl s2, List.getElem?_eq_getElem hi, Rep.sub s1 e2⟩⟩
theorem enum_str {z : Str} : EnumOk K (Its z) (signs z) G := fun G' H' i s1 s2 => by
  have hlen : (signs z).length = z.cps.size := by unfold signs; rw [List.length_map, Array.length_toList]
  refine ⟨fun hi => ⟨by rw [hlen] at hi; exact hi, fun x H'' ⟨e, k, q1, q2⟩ => ?_⟩, fun hi => by rw [hlen] at hi; exact hi⟩
  subst e
  subst q2
  refine ⟨G', .str ⟨#[k]⟩, StepN.refl s2, ?_, .str _⟩
  unfold signs
  rw [List.getElem?_map, Array.getElem?_toList, q1]
  rfl
def rangeL (lo : Int) (n : Nat) : List D := (List.range n).map fun (i : Nat) => D.int (lo + (i : Int))
theorem enum_range {lo : Int} {n : Nat} : EnumOk K (Itr lo n) (rangeL lo n) G := fun G' H' i s1 s2 => by
  have hlen : (rangeL lo n).length = n := by unfold rangeL; rw [List.length_map, List.length_range]
  rw [hlen]
  refine ⟨fun hi => ⟨hi, fun x H'' ⟨e, q⟩ => ?_⟩, fun hi => hi⟩
  subst e
  subst q
  refine ⟨G', .int (lo + i), StepN.refl s2, ?_, .int _⟩
  unfold rangeL
  rw [List.getElem?_map, List.getElem?_range hi]
  rfl
def seqI (g : GE D) : GE (List D) := fun ρ => (g ρ).bind fun d ρ1 => match d with
  | .lst ds => .ok ds ρ1
  | .tup ds => .ok ds ρ1
  | .str z => .ok (signs z) ρ1
  | _ => .bad
theorem pi_or {w1 w2 : TI} (h1 : PI X tg iter w1) (h2 : PI X tg iter w2) : PI X tg iter (fun σ H R => w1 σ H R ∨ w2 σ H R) :=
  ⟨fun pins s σ H R I h => h.elim (h1.run pins s σ H R I) (h2.run pins s σ H R I)⟩
theorem IX.seq (h : EX X c W iter ga) : IX X c W tg iter (seqI ga) := by
  obtain ⟨t, p, q⟩ := h
  refine ⟨_, pi_or (pi_list p) (pi_or (pi_tup p) (pi_str p)), fun ρ σ G H R E hq => ?_⟩
  unfold seqI at hq
  cases hg : ga ρ with
  | bad => rw [hg] at hq; exact hq.elim
  | er x ρ1 =>
    rw [hg] at hq
    exact .inl (q ρ σ G H _ E (by rw [hg]; exact hq))
  | ok d ρ1 =>
    rw [hg] at hq
    cases d with
    | lst ds =>
      refine .inl (q ρ σ G H _ E ?_)
      rw [hg]
      intro v G1 H1 E1 t1 o1 r1
      cases r1 with
      | lst h2 h3 => exact ⟨_, rfl, ⟨_, E1.sub.sqL h2⟩, hq _ G1 H1 E1 t1 o1 (enum_list h2 h3)⟩
    | tup ds =>
      refine .inr (.inl (q ρ σ G H _ E ?_))
      rw [hg]
      intro v G1 H1 E1 t1 o1 r1
      cases r1 with
      | tup h2 h3 => exact ⟨_, rfl, ⟨_, E1.sub.sqT h2⟩, hq _ G1 H1 E1 t1 o1 (enum_tup h2 h3)⟩
    | str z =>
      refine .inr (.inr (q ρ σ G H _ E ?_))
      rw [hg]
      intro v G1 H1 E1 t1 o1 r1
      cases r1
      exact ⟨z, rfl, hq _ G1 H1 E1 t1 o1 enum_str⟩
    | non => exact hq.elim
    | bl _ => exact hq.elim
    | int _ => exact hq.elim
    | dct _ => exact hq.elim
    | fz _ => exact hq.elim
def range1I (gs : GE (List D)) : GE (List D) := fun ρ => (gs ρ).bind fun ds ρ1 => match ds with
  | [.int j] => if -(2 ^ 62) ≤ j ∧ j < 2 ^ 62 then .ok (rangeL 0 j.toNat) ρ1 else .bad
  | _ => .bad
theorem IX.range1 {gs : GE (List D)} {p : Pos} (ha : AX X c W [a] gs) (hm : X.mg "range" = none) (hg : Gl X "range" := by rfl) (hs : starEach [a] X.env = [(false, eval a X.env)] := by rfl) : IX X c W tg (.Call (.Name "range" p) [a] [] pos) (range1I gs) := by
  obtain ⟨t, pa, q⟩ := ha
  refine ⟨_, pi_range1 hg hm pa hs, fun ρ σ G H R E hq => q ρ σ G H _ E (Gd.bind hq fun ds ρ1 vs G1 H1 E1 t1 r1 h1 => ?_)⟩
  split at h1
  · rename_i j
    obtain ⟨v, rfl, r2⟩ := reps1 r1
    cases r2
    by_cases hj : -(2 ^ 62) ≤ j ∧ j < 2 ^ 62
    · rw [if_pos hj] at h1
      exact ⟨j, rfl, hj.1, hj.2, Gd.here (Rel := fun G' items J => EnumOk X.K J items G') h1 E1 enum_range⟩
    · rw [if_neg hj] at h1; exact h1.elim
  · exact h1.elim
def range2I (gs : GE (List D)) : GE (List D) := fun ρ => (gs ρ).bind fun ds ρ1 => match ds with
  | [.int i, .int j] => if -(2 ^ 62) ≤ i ∧ i < 2 ^ 62 ∧ -(2 ^ 62) ≤ j ∧ j < 2 ^ 62 then .ok (rangeL i (j - i).toNat) ρ1 else .bad
  | _ => .bad
theorem IX.range2 {gs : GE (List D)} {p : Pos} (ha : AX X c W [a, b] gs) (hm : X.mg "range" = none) (hg : Gl X "range" := by rfl) (hs : starEach [a, b] X.env = [(false, eval a X.env), (false, eval b X.env)] := by rfl) (hs2 : starEach [b] X.env = [(false, eval b X.env)] := by rfl) :
    IX X c W tg (.Call (.Name "range" p) [a, b] [] pos) (range2I gs) := by
  obtain ⟨t, pa, q⟩ := ha
  refine ⟨_, pi_range2 hg hm pa hs hs2, fun ρ σ G H R E hq => q ρ σ G H _ E (Gd.bind hq fun ds ρ1 vs G1 H1 E1 t1 r1 h1 => ?_)⟩
  split at h1
  · rename_i i j
    obtain ⟨v, w, rfl, r2, r3⟩ := reps2 r1
    cases r2
    cases r3
    by_cases hj : -(2 ^ 62) ≤ i ∧ i < 2 ^ 62 ∧ -(2 ^ 62) ≤ j ∧ j < 2 ^ 62
    · rw [if_pos hj] at h1
      exact ⟨i, j, rfl, hj, Gd.here (Rel := fun G' items J => EnumOk X.K J items G') h1 E1 enum_range⟩
    · rw [if_neg hj] at h1; exact h1.elim
  · exact h1.elim
def enumL : Nat → List D → List D
  | _, [] => []
  | i, d :: ds => .tup [.int i, d] :: enumL (i + 1) ds
theorem enumL_len : ∀ (k : Nat) (ds : List D), (enumL k ds).length = ds.length
  | _, [] => rfl
  | k, d :: ds => by rw [enumL, List.length_cons, enumL_len, List.length_cons]
theorem enumL_get : ∀ (k : Nat) (ds : List D) (i : Nat) (d : D), ds[i]? = some d → (enumL k ds)[i]? = some (.tup [.int ((k + i : Nat) : Int), d])
  | _, [], i, d, h => by simp at h
  | k, x :: ds, 0, d, h => by
    have e : x = d := by simpa using h
    subst e
    rfl
  | k, x :: ds, i + 1, d, h => by
    have := enumL_get (k + 1) ds i d (by simpa using h)
    rw [enumL, List.getElem?_cons_succ, this]
    congr 4
    omega
def enumI (gs : GE (List D)) : GE (List D) := fun ρ => (gs ρ).bind fun ds ρ1 => match ds with
  | [.lst ds] => .ok (enumL 0 ds) ρ1
  | _ => .bad
theorem enum_enum {a : Addr} {xs : List V} {ds : List D} (h : G a = some (.lst xs)) (r : Reps K G xs ds) : EnumOk K (Ite K a) (enumL 0 ds) G := fun G' H' i s1 s2 => by
  have hl : SqL K H' a xs := (s1.trans s2).sqL h
  rw [enumL_len]
  refine ⟨fun hi => ?_, fun hi => ⟨xs, hl, by rw [Reps.length r]; exact hi⟩⟩
  obtain ⟨v, e1, e2⟩ := r.get (List.getElem?_eq_getElem hi)
  refine ⟨⟨xs, v, hl, e1⟩, fun x H'' ⟨T, y, q1, q2, q3, q4⟩ => ?_⟩
  subst q1
  subst q3
  have := q4 xs hl
  rw [e1] at this
  cases this
  exact ⟨upd G' T (.tup [.int (i : Nat), v]), _, StepN.new s2 q2, enumL_get 0 ds i _ (List.getElem?_eq_getElem hi), .tup (.inl (.inl upd_same)) (.cons (by rw [Nat.zero_add]; exact .int _) (.cons (Rep.sub (s1.trans (StepN.new s2 q2).g) e2) .nil))⟩
theorem IX.enum {gs : GE (List D)} {p tpos : Pos} {elts : List Expr} {kk : Nat} (ha : AX X c W [a] gs) (hm : X.mg "enumerate" = none) (hg : Gl X "enumerate" := by rfl) (hs : starEach [a] X.env = [(false, eval a X.env)] := by rfl) : IX X c W (.Tuple elts kk tpos) (.Call (.Name "enumerate" p) [a] [] pos) (enumI gs) := by
  obtain ⟨t, pa, q⟩ := ha
  refine ⟨_, pi_enum hg hm pa hs, fun ρ σ G H R E hq => q ρ σ G H _ E (Gd.bind hq fun ds ρ1 vs G1 H1 E1 t1 r1 h1 => ?_)⟩
  split at h1
  · obtain ⟨v, rfl, r2⟩ := reps1 r1
    cases r2 with
    | lst h2 h3 => exact ⟨_, _, rfl, E1.sub.sqL h2, Gd.here (Rel := fun G' items J => EnumOk X.K J items G') h1 E1 (enum_enum h2 h3)⟩
  · exact h1.elim
/-! ### for -/
def forGo (gt : D → PEnv → Option PEnv) (gb : GS) : List D → GS
  | [], ρ => .nx ρ
  | d :: ds, ρ => match gt d ρ with
    | none => .bad
    | some ρ1 => match gb ρ1 with
      | .nx ρ2 => forGo gt gb ds ρ2
      | .ct ρ2 => forGo gt gb ds ρ2
      | .bk ρ2 => .nx ρ2
      | r => r
def forS (gi : GE (List D)) (gt : D → PEnv → Option PEnv) (gb : GS) : GS := fun ρ => (gi ρ).bindS fun ds ρ1 => forGo gt gb ds ρ1
theorem SX.for {gi : GE (List D)} {gt : D → PEnv → Option PEnv} {ws : List Nat} {gb : GS} {body : List Stmt} (hp : PassesOwn (model X.prog X.w) X.A X.env X.xe) (hc : X.calm = true) (hi : IX X c W tg iter gi) (hg : TGX X c tg gt ws) (hb : SXs X c W body gb)
    (hs : ∀ x, foldedSetIterable iter X.env x = pure x := by intro _; rfl) : SX X c W (.For tg iter body [] pos) (forS gi gt gb) := by
  obtain ⟨wi, p, q⟩ := hi
  obtain ⟨t, pg, qg⟩ := hg
  obtain ⟨u, pb, qb⟩ := hb
  refine ⟨_, ps_for hp hc p pg pb hs, fun ρ σ G H D' E h => q ρ σ G H _ E (GdS.bind h fun items ρ1 J G1 H1 E1 t1 o1 ek h1 => ?_)⟩
  refine ⟨fun i m σ' H' => m = items.length - i ∧ i ≤ items.length ∧ ∃ ρ' G', ER X.K c ρ' σ' G' H' ∧ Sub G1 G' ∧ GdS X c W D' ρ' σ' G' H' (forGo gt gb (items.drop i) ρ'),
    ⟨items.length, rfl, Nat.zero_le _, ρ1, G1, E1, Sub.refl _, h1⟩, ?_⟩
  rintro i m σ' H' ⟨rfl, hle, ρ', G', E', sg, hgd⟩
  obtain ⟨k1, k2⟩ := ek G' H' i sg E'.sub
  by_cases hlt : i < items.length
  · obtain ⟨go, yl⟩ := k1 hlt
    refine .inr ⟨go, fun σ2 H2 => ∃ ρ2 G2, ER X.K c ρ2 σ2 G2 H2 ∧ Sub G1 G2 ∧ GdS X c W D' ρ2 σ2 G2 H2 (forGo gt gb (items.drop (i + 1)) ρ2), fun σ2 H2 ⟨ρ2, G2, e2, s2, g2⟩ => ⟨items.length - (i + 1), by omega, rfl, hlt, ρ2, G2, e2, s2, g2⟩, fun x H'' hy => ?_⟩
    obtain ⟨G'', d, st, hd, rd⟩ := yl x H'' hy
    have hdrop : items.drop i = d :: items.drop (i + 1) := by
      obtain ⟨h1', e1'⟩ := List.getElem?_eq_some_iff.mp hd
      rw [List.drop_eq_getElem_cons h1', e1']
    rw [hdrop] at hgd
    have E2 := E'.stepN st
    have hgd2 := GdS.shift hgd (st.step (Own ρ' σ')) (OwnS.refl ρ' σ' H')
    unfold forGo at hgd2
    cases qd : gt d ρ' with
    | none => rw [qd] at hgd2; exact hgd2.elim
    | some ρ2 =>
      rw [qd] at hgd2
      refine qg ρ' σ' G'' H'' x d ρ2 _ E2 rd qd fun σ3 G3 H3 E3 s3 o3 _ => ?_
      have hgd3 := GdS.shift hgd2 s3 o3
      refine qb ρ2 σ3 G3 H3 _ E3 ?_
      have sg3 : Sub G1 G3 := (sg.trans st.g).trans s3.g
      cases qr : gb ρ2 with
      | nx ρ4 =>
        simp only [qr] at hgd3
        exact fun σ4 G4 H4 e4 s4 o4 => ⟨ρ4, G4, e4, sg3.trans s4.g, GdS.shift hgd3 s4 o4⟩
      | ct ρ4 =>
        simp only [qr] at hgd3
        exact fun σ4 G4 H4 e4 s4 o4 => ⟨ρ4, G4, e4, sg3.trans s4.g, GdS.shift hgd3 s4 o4⟩
      | bk ρ4 =>
        simp only [qr] at hgd3
        exact hgd3
      | rt d4 ρ4 =>
        simp only [qr] at hgd3
        exact hgd3
      | er y ρ4 =>
        simp only [qr] at hgd3
        exact hgd3
      | bad =>
        simp only [qr] at hgd3
        exact hgd3
  · have hi : i = items.length := by omega
    subst hi
    rw [List.drop_length] at hgd
    exact .inl ⟨k2 (Nat.le_refl _), hgd σ' G' H' E' (Step.refl _ _ _) (OwnS.refl _ _ _)⟩
end
end PL
end L2
set_option Elab.async false
set_option linter.all false
set_option maxRecDepth 100000
namespace L2
namespace PL
open PySem PySem.Spec PyProof.Rows
section
variable {X : Cx} {c : Cz} {W : WX} {K : PySem.W.Frag} {ρ ρ' ρ0 : PEnv} {σ σ' : St} {G H G' H' : Hp}
def wipeP (ρ : PEnv) : List Nat → PEnv
  | [] => ρ
  | v :: vs => (wipeP ρ vs).set v .un
def restore (ρ0 ρ : PEnv) : List Nat → PEnv
  | [] => ρ
  | v :: vs => (restore ρ0 ρ vs).set v (ρ0.getD v .un)
theorem ER.un {i : Nat} (E : ER K c ρ σ G H) (hio : ∀ p ∈ c.io, p.1 ≠ i) : ER K c (ρ.set i .un) (σ.set i none) G H where
  len := by rw [List.length_set, List.length_set]; exact E.len
  slot := fun j s e => by
    by_cases hj : j = i
    · subst hj
      have hlt : j < ρ.length := by
        have := (List.getElem?_eq_some_iff.mp e).1
        rw [List.length_set] at this; exact this
      rw [List.getElem?_set_self hlt] at e
      cases e
      trivial
    · rw [List.getElem?_set_ne (Ne.symm hj)] at e
      rw [List.getElem?_set_ne (Ne.symm hj)]
      exact E.slot j s e
  sub := E.sub
  nt := E.nt
  sep := fun j k ys zs b e1 e2 e3 e4 => by
    have f : ∀ (j : Nat) (ys : List D), (ρ.set i .un)[j]? = some (.own ys) → (σ.set i none)[j]? = some (some (.ref b)) → ρ[j]? = some (.own ys) ∧ σ[j]? = some (some (.ref b)) := fun j ys e e' => by
      by_cases hj : j = i
      · subst hj
        by_cases hlt : j < ρ.length
        · rw [List.getElem?_set_self hlt] at e; cases e
        · rw [List.set_eq_of_length_le (by omega)] at e
          rw [List.set_eq_of_length_le (by rw [← E.len]; omega)] at e'
          exact ⟨e, e'⟩
      · rw [List.getElem?_set_ne (Ne.symm hj)] at e e'
        exact ⟨e, e'⟩
    obtain ⟨q1, q2⟩ := f j ys e1 e3
    obtain ⟨q3, q4⟩ := f k zs e2 e4
    exact E.sep j k ys zs b q1 q3 q2 q4
  tabs := E.tabs
  io := fun p hp => by
    obtain ⟨q1, ys, q2⟩ := E.io p hp
    exact ⟨by rw [List.getElem?_set_ne (Ne.symm (hio p hp))]; exact q1, ys, by rw [List.getElem?_set_ne (Ne.symm (hio p hp))]; exact q2⟩
theorem own_un {i : Nat} {a : Addr} (hl : ρ.length = σ.length) (h : Own (ρ.set i .un) (σ.set i none) a) : Own ρ σ a := by
  obtain ⟨j, ys, e1, e2⟩ := h
  by_cases hj : j = i
  · subst hj
    by_cases hlt : j < ρ.length
    · rw [List.getElem?_set_self hlt] at e1; cases e1
    · rw [List.set_eq_of_length_le (by omega)] at e1 e2
      exact ⟨j, ys, e1, e2⟩
  · rw [List.getElem?_set_ne (Ne.symm hj)] at e1 e2
    exact ⟨j, ys, e1, e2⟩
theorem ER.wipe (E : ER K c ρ σ G H) : ∀ {vs : List Nat}, (∀ p ∈ c.io, p.1 ∉ vs) → ER K c (wipeP ρ vs) (wipe σ vs) G H ∧ ∀ a, Own (wipeP ρ vs) (wipe σ vs) a → Own ρ σ a
  | [], _ => ⟨E, fun _ h => h⟩
  | v :: vs, h => by
    obtain ⟨e, o⟩ := ER.wipe E (vs := vs) fun p hp hm => h p hp (List.mem_cons_of_mem _ hm)
    exact ⟨e.un fun p hp z => h p hp (by rw [z]; exact List.mem_cons_self), fun a ha => o a (own_un e.len ha)⟩
theorem restore_len (ρ0 ρ : PEnv) : ∀ vs : List Nat, (restore ρ0 ρ vs).length = ρ.length
  | [] => rfl
  | v :: vs => by unfold restore; rw [List.length_set, restore_len ρ0 ρ vs]
theorem restore_out {i : Nat} : ∀ {vs : List Nat}, i ∉ vs → (restore ρ0 ρ vs)[i]? = ρ[i]?
  | [], _ => rfl
  | v :: vs, h => by
    unfold restore
    rw [List.getElem?_set_ne (fun z => h (by rw [z]; exact List.mem_cons_self)), restore_out fun z => h (List.mem_cons_of_mem _ z)]
theorem restore_in {i : Nat} {s : SV} : ∀ {vs : List Nat}, i ∈ vs → (restore ρ0 ρ vs)[i]? = some s → s = ρ0.getD i .un
  | v :: vs, h, e => by
    unfold restore at e
    by_cases hv : v = i
    · subst hv
      by_cases hlt : v < (restore ρ0 ρ vs).length
      · rw [List.getElem?_set_self hlt] at e
        cases e
        rfl
      · rw [List.getElem?_eq_none (by rw [List.length_set]; omega)] at e
        cases e
    · rw [List.getElem?_set_ne hv] at e
      rcases List.mem_cons.mp h with z | z
      · exact absurd z.symm hv
      · exact restore_in z e
def noOwn (ρ : PEnv) (vs : List Nat) : Bool := vs.all fun v => !isOwn ρ[v]?
theorem ER.restore {G0 H0 : Hp} {vs : List Nat} (E0 : ER K c ρ0 σ G0 H0) (E : ER K c ρ (L2.wipe σ vs) G H) (s : Sub G0 G) (hno : noOwn ρ0 vs = true) (hio : ∀ p ∈ c.io, p.1 ∉ vs) : ER K c (PL.restore ρ0 ρ vs) σ G H ∧ ∀ a, Own (PL.restore ρ0 ρ vs) σ a → Own ρ (L2.wipe σ vs) a := by
  have nown : ∀ i xs, i ∈ vs → ρ0.getD i .un ≠ .own xs := fun i xs hi e => by
    have := List.all_eq_true.mp hno i hi
    rw [List.getD_eq_getElem?_getD] at e
    cases q : ρ0[i]? with
    | none => rw [q] at e; cases e
    | some s0 =>
      rw [q] at e this
      have e' : s0 = .own xs := e
      rw [e'] at this
      cases this
  have own_out : ∀ i xs, (PL.restore ρ0 ρ vs)[i]? = some (.own xs) → i ∉ vs ∧ ρ[i]? = some (.own xs) := fun i xs e => by
    by_cases hi : i ∈ vs
    · exact absurd (restore_in hi e).symm (nown i xs hi)
    · exact ⟨hi, by rw [restore_out hi] at e; exact e⟩
  refine ⟨⟨by rw [restore_len, E.len, wipe_length], fun i s' e => ?_, E.sub, E.nt, fun i j xs ys a e1 e2 e3 e4 => ?_, E.tabs, fun p hp => ?_⟩, fun a ⟨i, xs, e1, e2⟩ => ?_⟩
  · by_cases hi : i ∈ vs
    · have e' := restore_in hi e
      subst e'
      rw [List.getD_eq_getElem?_getD]
      cases q : ρ0[i]? with
      | none => trivial
      | some s0 =>
        have h0 := E0.slot i s0 q
        show SlotOk K G H s0 _
        cases s0 with
        | un => trivial
        | d x =>
          cases hs : (σ[i]?.getD none) with
          | none => rw [hs] at h0; exact h0.elim
          | some v => rw [hs] at h0; exact Rep.sub s h0
        | own xs =>
          refine absurd ?_ (nown i xs hi)
          rw [List.getD_eq_getElem?_getD, q]
          rfl
    · rw [restore_out hi] at e
      have := E.slot i s' e
      rw [wipe_out hi] at this
      exact this
  · obtain ⟨q1, q2⟩ := own_out i xs e1
    obtain ⟨q3, q4⟩ := own_out j ys e2
    exact E.sep i j xs ys a q2 q4 (by rw [wipe_out q1]; exact e3) (by rw [wipe_out q3]; exact e4)
  · obtain ⟨q1, xs, q2⟩ := E.io p hp
    exact ⟨by rw [wipe_out (hio p hp)] at q1; exact q1, xs, by rw [restore_out (hio p hp)]; exact q2⟩
  · obtain ⟨q1, q2⟩ := own_out i xs e1
    exact ⟨i, xs, q2, by rw [wipe_out q1]; exact e2⟩
/-- a list that no slot holds and that isn't on the ground changes -/
theorem ER.free {p : Addr} {vs ws : List V} (E : ER K c ρ σ G H) (hp : H p = some (.lst vs)) (hg : G p = none) (no : ¬ Own ρ σ p) : ER K c ρ σ G (upd H p (.lst ws)) where
  len := E.len
  slot := fun j s e => by
    have q := E.slot j s e
    cases s with
    | un => trivial
    | d x =>
      cases hs : (σ[j]?.getD none) with
      | none => rw [hs] at q; exact q.elim
      | some v => rw [hs] at q; exact q
    | own zs =>
      obtain ⟨b, us, q1, q2, q3, q4⟩ := slot_own E e
      have nb : b ≠ p := fun z => no (by rw [← z]; exact ⟨j, zs, e, q1⟩)
      rw [q1]
      exact ⟨b, us, rfl, by rw [upd_ne nb]; exact q2, q3, q4⟩
  sub := fun b o e => by
    have nb : b ≠ p := fun z => by rw [z, hg] at e; cases e
    rw [upd_ne nb]; exact E.sub b o e
  nt := E.nt
  sep := E.sep
  tabs := fun q hq => by
    obtain ⟨ps, h1, h2, h3⟩ := E.tabs q hq
    have np : ∀ {b : Addr} {o : HO}, H b = some o → (∀ l, o ≠ .lst l) → b ≠ p := fun {b o} e n z => by rw [z, hp] at e; exact n vs (Option.some.inj e).symm
    refine ⟨ps, by rw [upd_ne (np h1 fun l z => by cases z)]; exact h1, h2, fun pos cv hc => ?_⟩
    obtain ⟨c0, e1, e2⟩ := h3 pos cv hc
    exact ⟨c0, e1, by rw [upd_ne (np e2 fun l z => by cases z)]; exact e2⟩
  io := E.io
def W0 : WX := fun _ _ _ _ => False
def lcGo (vs : List Nat) (gt : D → PEnv → Option PEnv) (gtst : GE Bool) (ge : GE D) : List D → PEnv → List D → R (List D)
  | [], ρ, acc => .ok acc ρ
  | d :: ds, ρ, acc => match gt d ρ with
    | none => .bad
    | some ρ1 => match gtst ρ1 with
      | .ok true ρ2 => match ge ρ2 with
        | .ok y ρ3 => if acc.length < lim then lcGo vs gt gtst ge ds (wipeP ρ3 vs) (acc ++ [y]) else .bad
        | _ => .bad
      | .ok false ρ2 => lcGo vs gt gtst ge ds (wipeP ρ2 vs) acc
      | _ => .bad
def lcE (vs : List Nat) (gi : GE (List D)) (gt : D → PEnv → Option PEnv) (gtst : GE Bool) (ge : GE D) : GE (List D) := fun ρ => (gi ρ).bind fun items ρ1 => if noOwn ρ1 vs then (lcGo vs gt gtst ge items (wipeP ρ1 vs) []).bind fun acc ρ2 => .ok acc (restore ρ1 ρ2 vs) else .bad
def TXS (X : Cx) (c : Cz) (W : WX) (ifs : List Expr) (g : GE Bool) : Prop := ∃ t, PTs X ifs t ∧ ∀ ρ σ G H Q, ER X.K c ρ σ G H → Gd X c W ρ σ G H (g ρ) RB Q → t σ H Q
def yesT : GE Bool := fun ρ => .ok true ρ
theorem TXS.nil : TXS X c W [] yesT := ⟨_, pts_nil, fun ρ σ G H Q E h => Gd.here (Rel := RB) h E rfl⟩
theorem TXS.one {e : Expr} {g : GE Bool} (h : TX X c W e g) : TXS X c W [e] g := by
  obtain ⟨t, p, q⟩ := h
  exact ⟨_, pts_one p, q⟩
theorem TXS.pts {ifs : List Expr} {g : GE Bool} (h : TXS X c W ifs g) : PTs X ifs (tPT X c W g) := by
  obtain ⟨t, p, q⟩ := h
  exact ⟨fun pins s σ H Q I ⟨ρ, G, E, hq⟩ => p.run pins s σ H Q I (q ρ σ G H Q E hq)⟩
theorem wipe_off {ws vs : List Nat} {σ σ2 : St} (h : Off ws (wipe σ vs) σ2) (hw : ∀ j ∈ ws, j ∈ vs) : wipe σ2 vs = wipe σ vs := by
  have hl : σ2.length = σ.length := by rw [h.1, wipe_length]
  refine List.ext_getElem? fun j => ?_
  by_cases hj : j ∈ vs
  · -- both forgotten
    have key : ∀ (τ : St) (us : List Nat), j ∈ us → (wipe τ us)[j]? = if j < τ.length then some none else none := by
      intro τ us
      induction us with
      | nil => intro h; cases h
      | cons v us ih =>
        intro hm
        unfold wipe
        by_cases hv : v = j
        · subst hv
          by_cases hlt : v < τ.length
          · rw [List.getElem?_set_self (by rw [wipe_length]; exact hlt), if_pos hlt]
          · rw [List.getElem?_eq_none (by rw [List.length_set, wipe_length]; omega), if_neg hlt]
        · rw [List.getElem?_set_ne hv]
          rcases List.mem_cons.mp hm with z | z
          · exact absurd z.symm hv
          · exact ih z
    rw [key σ2 vs hj, key σ vs hj, hl]
  · rw [wipe_out hj, h.2 j fun z => hj (hw j z)]
/-- what a comprehension's reading asks -/
theorem lc_ok {wi : TI} {gi : GE (List D)} {gt : D → PEnv → Option PEnv} {ws vs : List Nat} {gtst : GE Bool} {ge : GE D} (q : ∀ ρ σ G H R, ER X.K c ρ σ G H → Gd X c W ρ σ G H (gi ρ) (fun G' items J => EnumOk X.K J items G') R → wi σ H R)
    (hio : ∀ p ∈ c.io, p.1 ∉ vs) (hw : ∀ j ∈ ws, j ∈ vs) : ∀ ρ σ G H Q, ER X.K c ρ σ G H → GdL X c W ρ σ G H (lcE vs gi gt gtst ge ρ) Q → tLc wi (tT X c gt ws) (tPT X c W0 gtst) (tP X c W0 ge) vs σ H Q := fun ρ σ G H Q E h => by
  refine q ρ σ G H _ E (GdL.bind h fun items ρ1 J G1 H1 E1 t1 ek h1 => ?_)
  intro Dl hDl
  cases hno : noOwn ρ1 vs with
  | false => rw [hno, if_neg (by decide)] at h1; exact h1.elim
  | true =>
  rw [hno, if_pos rfl] at h1
  generalize hr0 : lcGo vs gt gtst ge items (wipeP ρ1 vs) [] = r0 at h1
  obtain ⟨Ew, ow⟩ := E1.wipe hio
  have nG1 : G1 Dl = none := by
    cases z : G1 Dl with
    | none => rfl
    | some o => rw [E1.sub Dl o z] at hDl; cases hDl
  refine ⟨fun i m H' => m = items.length - i ∧ i ≤ items.length ∧ ∃ ρ' G' acc vacc, ER X.K c ρ' (wipe σ vs) G' H' ∧ Step (Own ρ1 σ) G1 H1 G' H' ∧ (∀ a, Own ρ' (wipe σ vs) a → Own ρ1 σ a ∨ (H1 a = none ∧ a ≠ Dl)) ∧ H' Dl = some (.lst vacc) ∧ Reps X.K G' vacc acc ∧ G' Dl = none ∧
      lcGo vs gt gtst ge (items.drop i) ρ' acc = r0,
    ⟨items.length, rfl, Nat.zero_le _, wipeP ρ1 vs, G1, [], [], ?_, ?_, fun a ha => .inl (ow a ha), upd_same, .nil, nG1, hr0⟩, ?_⟩
  · refine ⟨Ew.len, fun j s e => ?_, fun b o e => ?_, Ew.nt, Ew.sep, Ew.tabs.ext fun b o e => by rw [upd_ne (ne_of_none e hDl)]; exact e, Ew.io⟩
    · have z := Ew.slot j s e
      cases s with
      | un => trivial
      | d x =>
        cases hs : ((wipe σ vs)[j]?.getD none) with
        | none => rw [hs] at z; exact z.elim
        | some v => rw [hs] at z; exact z
      | own xs =>
        obtain ⟨a, us, q1, q2, q3, q4⟩ := slot_own Ew e
        rw [q1]
        exact ⟨a, us, rfl, by rw [upd_ne (ne_of_none q2 hDl)]; exact q2, q3, q4⟩
    · have z := Ew.sub b o e
      rw [upd_ne (ne_of_none z hDl)]; exact z
  · exact ⟨Sub.refl _, fun _ _ z => .inl z, fun b o e _ _ => by rw [upd_ne (ne_of_none e hDl)]; exact e, fun b e => by
      by_cases hb : b = Dl
      · rw [hb, upd_same] at e; cases e
      · rw [upd_ne hb] at e; exact e, id⟩
  · rintro i m H' ⟨rfl, hle, ρ', G', acc, vacc, E', st', ow', hD', hr', gD', hgo⟩
    obtain ⟨k1, k2⟩ := ek G' H' i st'.g E'.sub
    by_cases hlt : i < items.length
    · obtain ⟨go, yl⟩ := k1 hlt
      refine .inr ⟨go, fun H2 => ∃ ρ2 G2 acc2 vacc2, ER X.K c ρ2 (wipe σ vs) G2 H2 ∧ Step (Own ρ1 σ) G1 H1 G2 H2 ∧ (∀ a, Own ρ2 (wipe σ vs) a → Own ρ1 σ a ∨ (H1 a = none ∧ a ≠ Dl)) ∧ H2 Dl = some (.lst vacc2) ∧ Reps X.K G2 vacc2 acc2 ∧ G2 Dl = none ∧
        lcGo vs gt gtst ge (items.drop (i + 1)) ρ2 acc2 = r0, fun H2 hN => ⟨items.length - (i + 1), by omega, rfl, hlt, hN⟩, fun x H'' hy => ?_⟩
      obtain ⟨G'', d, st, hd, rd⟩ := yl x H'' hy
      have hdrop : items.drop i = d :: items.drop (i + 1) := by
        obtain ⟨h1', e1'⟩ := List.getElem?_eq_some_iff.mp hd
        rw [List.drop_eq_getElem_cons h1', e1']
      rw [hdrop] at hgo
      unfold lcGo at hgo
      -- the final answer is not bad
      have nb : r0 ≠ .bad := fun z => by rw [z] at h1; exact h1.elim
      have E2 := E'.stepN st
      have nD : ¬ Own ρ' (wipe σ vs) Dl := fun z => by
        rcases ow' Dl z with y | ⟨_, y⟩
        · obtain ⟨us, y1, _⟩ := own_tracked E1 y
          rw [hDl] at y1; cases y1
        · exact y rfl
      have hD2 : H'' Dl = some (.lst vacc) := st.k _ _ hD'
      have gD2 : G'' Dl = none := by
        cases z : G'' Dl with
        | none => rfl
        | some o =>
          rcases st.n Dl o z with y | y
          · rw [gD'] at y; cases y
          · rw [hD'] at y; cases y
      cases qd : gt d ρ' with
      | none => simp only [qd] at hgo; exact absurd hgo.symm nb
      | some ρ2 =>
        simp only [qd] at hgo
        refine ⟨ρ', G'', d, ρ2, E2, rd, qd, fun σ3 G3 H3 E3 s3 o3 f3 => ⟨wipe_off f3 hw, ?_⟩⟩
        have nD3 : ¬ Own ρ2 σ3 Dl := fun z => by
          rcases o3 Dl z with y | y
          · exact nD y
          · rw [hD2] at y; cases y
        have hD3 : H3 Dl = some (.lst vacc) := s3.k _ _ hD2 nD fun ps z => by cases z
        have gD3 : G3 Dl = none := by
          cases z : G3 Dl with
          | none => rfl
          | some o =>
            rcases s3.n Dl o z with y | y | y
            · rw [gD2] at y; cases y
            · rw [hD2] at y; cases y
            · exact absurd y nD
        -- the steps so far, from (G1, H1)
        have st3 : Step (Own ρ1 σ) G1 H1 G3 H3 := by
          refine (st'.trans (st.step (Own ρ' (wipe σ vs))) fun a ha => ?_).trans s3 fun a ha => ?_
          · rcases ow' a ha with y | ⟨y, _⟩
            · exact .inl y
            · exact .inr y
          · rcases ow' a ha with y | ⟨y, _⟩
            · exact .inl y
            · exact .inr y
        have ow3 : ∀ a, Own ρ2 σ3 a → Own ρ1 σ a ∨ (H1 a = none ∧ a ≠ Dl) := fun a ha => by
          rcases o3 a ha with y | y
          · exact ow' a y
          · refine .inr ⟨st'.d a ?_, fun z => by rw [z, hD2] at y; cases y⟩
            cases z : H' a with
            | none => rfl
            | some o => rw [st.k a o z] at y; cases y
        cases qt : gtst ρ2 with
        | bad => simp only [qt] at hgo; exact absurd hgo.symm nb
        | er y ρ3 => simp only [qt] at hgo; exact absurd hgo.symm nb
        | ok b ρ3 =>
          simp only [qt] at hgo
          refine ⟨ρ2, G3, E3, ?_⟩
          rw [qt]
          intro b' G4 H4 E4 s4 o4 rb
          subst rb
          have nD4 : ¬ Own ρ3 σ3 Dl := fun z => by
            rcases o4 Dl z with y | y
            · exact nD3 y
            · rw [hD3] at y; cases y
          have hD4 : H4 Dl = some (.lst vacc) := s4.k _ _ hD3 nD3 fun ps z => by cases z
          have gD4 : G4 Dl = none := by
            cases z : G4 Dl with
            | none => rfl
            | some o =>
              rcases s4.n Dl o z with y | y | y
              · rw [gD3] at y; cases y
              · rw [hD3] at y; cases y
              · exact absurd y nD3
          have st4 : Step (Own ρ1 σ) G1 H1 G4 H4 := st3.trans s4 fun a ha => by
            rcases ow3 a ha with y | ⟨y, _⟩
            · exact .inl y
            · exact .inr y
          have ow4 : ∀ a, Own ρ3 σ3 a → Own ρ1 σ a ∨ (H1 a = none ∧ a ≠ Dl) := fun a ha => by
            rcases o4 a ha with y | y
            · exact ow3 a y
            · exact .inr ⟨st3.d a y, fun z => by rw [z, hD3] at y; cases y⟩
          cases b with
          | false =>
            simp only at hgo
            rw [if_neg (by decide)]
            obtain ⟨Ew4, oww4⟩ := E4.wipe hio
            rw [wipe_off f3 hw] at Ew4 oww4
            exact ⟨wipeP ρ3 vs, G4, acc, vacc, Ew4, st4, fun a ha => ow4 a (oww4 a ha), hD4, Reps.sub ((st.g.trans s3.g).trans s4.g) hr', gD4, hgo⟩
          | true =>
            simp only at hgo
            rw [if_pos rfl]
            cases qe : ge ρ3 with
            | bad => simp only [qe] at hgo; exact absurd hgo.symm nb
            | er y ρ5 => simp only [qe] at hgo; exact absurd hgo.symm nb
            | ok y ρ5 =>
              simp only [qe] at hgo
              by_cases hl : acc.length < lim
              · rw [if_pos hl] at hgo
                refine ⟨ρ3, G4, E4, ?_⟩
                rw [qe]
                intro v G5 H5 E5 s5 o5 r5
                have nD5 : ¬ Own ρ5 σ3 Dl := fun z => by
                  rcases o5 Dl z with y | y
                  · exact nD4 y
                  · rw [hD4] at y; cases y
                have hD5 : H5 Dl = some (.lst vacc) := s5.k _ _ hD4 nD4 fun ps z => by cases z
                have gD5 : G5 Dl = none := by
                  cases z : G5 Dl with
                  | none => rfl
                  | some o =>
                    rcases s5.n Dl o z with y | y | y
                    · rw [gD4] at y; cases y
                    · rw [hD4] at y; cases y
                    · exact absurd y nD4
                have st5 : Step (Own ρ1 σ) G1 H1 G5 H5 := st4.trans s5 fun a ha => by
                  rcases ow4 a ha with y | ⟨y, _⟩
                  · exact .inl y
                  · exact .inr y
                have ow5 : ∀ a, Own ρ5 σ3 a → Own ρ1 σ a ∨ (H1 a = none ∧ a ≠ Dl) := fun a ha => by
                  rcases o5 a ha with y | y
                  · exact ow4 a y
                  · exact .inr ⟨st4.d a y, fun z => by rw [z, hD4] at y; cases y⟩
                have hr5 : Reps X.K G5 vacc acc := Reps.sub (((st.g.trans s3.g).trans s4.g).trans s5.g) hr'
                refine ⟨vacc, hD5, Nat.lt_of_lt_of_le (by rw [Reps.length hr5]; exact hl) (by decide : lim ≤ sizeLine), ?_⟩
                obtain ⟨Ew5, oww5⟩ := (E5.free (ws := vacc ++ [v]) hD5 gD5 nD5).wipe hio
                rw [wipe_off f3 hw] at Ew5 oww5
                refine ⟨wipeP ρ5 vs, G5, acc ++ [y], vacc ++ [v], Ew5, ⟨st5.g, st5.n, fun b o e no nt => ?_, fun b e => ?_, st5.t⟩, fun a ha => ow5 a (oww5 a ha), upd_same, hr5.snoc r5, gD5, hgo⟩
                · rw [upd_ne (ne_of_none e hDl)]; exact st5.k b o e no nt
                · by_cases hb : b = Dl
                  · rw [hb, upd_same] at e; cases e
                  · rw [upd_ne hb] at e; exact st5.d b e
              · rw [if_neg hl] at hgo; exact absurd hgo.symm nb
    · have hi : i = items.length := by omega
      subst hi
      rw [List.drop_length] at hgo
      unfold lcGo at hgo
      rw [← hgo] at h1
      obtain ⟨Er, orr⟩ := ER.restore E1 E' st'.g hno hio
      have nD : ¬ Own (PL.restore ρ1 ρ' vs) σ Dl := fun z => by
        rcases ow' Dl (orr Dl z) with y | ⟨_, y⟩
        · obtain ⟨us, y1, _⟩ := own_tracked E1 y
          rw [hDl] at y1; cases y1
        · exact y rfl
      refine .inl ⟨k2 (Nat.le_refl _), h1 Dl vacc G' H' Er st' (fun a ha => ?_) hDl hD' gD' nD hr'⟩
      rcases ow' a (orr a ha) with y | ⟨y, _⟩
      · exact .inl y
      · exact .inr y
variable {elt tg iter : Expr} {ifs : List Expr} {scope : Scope} {own : List (Str × Nat)} {pos : Pos} {gi : GE (List D)} {gt : D → PEnv → Option PEnv} {ws : List Nat} {gtst : GE Bool} {ge : GE D}
theorem LX.lc (hc : X.calm = true) (hN : X.N.Nodup) (hi : IX X c W tg iter gi) (ok : BlkOk X.N X.env.scope scope own) (hio : ∀ p ∈ c.io, p.1 ∉ own.map (·.2)) (hw : ∀ j ∈ ws, j ∈ own.map (·.2))
    (hg : ∀ (s : Shared) (H : Hp) (C : Addr) (cl : List (Str × Addr)) (fp : List Addr), TGX (X.blk s H scope (compEnvC scope cl C X.env) fp) c tg gt ws)
    (ht : ∀ (s : Shared) (H : Hp) (C : Addr) (cl : List (Str × Addr)) (fp : List Addr), TXS (X.blk s H scope (compEnvC scope cl C X.env) fp) c W0 ifs gtst)
    (he : ∀ (s : Shared) (H : Hp) (C : Addr) (cl : List (Str × Addr)) (fp : List Addr), EX (X.blk s H scope (compEnvC scope cl C X.env) fp) c W0 elt ge) (hs : ∀ x, foldedSetIterable iter X.env x = pure x := by intro _; rfl) :
    LX X c W (.ListComp elt [⟨tg, iter, ifs, 0⟩] scope pos) (lcE (own.map (·.2)) gi gt gtst ge) := by
  obtain ⟨wi, p, q⟩ := hi
  exact LX.mk (pe_lc hc hN p ok (g := tT X c gt ws) (tt := tPT X c W0 gtst) (te := tP X c W0 ge) (fun s H C cl fp => (hg s H C cl fp).pg) (fun s H C cl fp => (ht s H C cl fp).pts) (fun s H C cl fp => (he s H C cl fp).pe) hs) (lc_ok q hio hw)
/-- y = [.. for ..] -/
theorem SX.setLc {i : Nat} {y : Str} {py spos : Pos} (hc : X.calm = true) (hN : X.N.Nodup) (hy : X.N[i]? = some y) (hyl : X.env.scope.names.lookup y = some .local) (hsw : swapsWith (.ListComp elt [⟨tg, iter, ifs, 0⟩] scope pos) (some (.Name y py)) spos.line X.env = pure true)
    (hi : IX X c W tg iter gi) (ok : BlkOk X.N X.env.scope scope own) (hio : ∀ p ∈ c.io, p.1 ∉ own.map (·.2)) (hioi : ∀ p ∈ c.io, p.1 ≠ i) (hw : ∀ j ∈ ws, j ∈ own.map (·.2))
    (hg : ∀ (s : Shared) (H : Hp) (C : Addr) (cl : List (Str × Addr)) (fp : List Addr), TGX (X.blk s H scope (compEnvC scope cl C X.env) fp) c tg gt ws)
    (ht : ∀ (s : Shared) (H : Hp) (C : Addr) (cl : List (Str × Addr)) (fp : List Addr), TXS (X.blk s H scope (compEnvC scope cl C X.env) fp) c W0 ifs gtst)
    (he : ∀ (s : Shared) (H : Hp) (C : Addr) (cl : List (Str × Addr)) (fp : List Addr), EX (X.blk s H scope (compEnvC scope cl C X.env) fp) c W0 elt ge) (hs : ∀ x, foldedSetIterable iter X.env x = pure x := by intro _; rfl) :
    SX X c W (.Assign [.Name y py] (.ListComp elt [⟨tg, iter, ifs, 0⟩] scope pos) spos) (asgOwnS (lcE (own.map (·.2)) gi gt gtst ge) i) := by
  obtain ⟨wi, p, q⟩ := hi
  refine ⟨_, ps_setLc hc hN hy hyl hsw p ok (g := tT X c gt ws) (tt := tPT X c W0 gtst) (te := tP X c W0 ge) (fun s H C cl fp => (hg s H C cl fp).pg) (fun s H C cl fp => (ht s H C cl fp).pts) (fun s H C cl fp => (he s H C cl fp).pe) hs, fun ρ σ G H D' E h => lc_ok q hio hw ρ σ G H _ E (GdS.bindL (Q := fun x H1 => gName i x σ H1 D'.nx) h fun xs ρ1 p vs G1 H1 E1 t1 o1 h0 hp hg no hr h1 => ?_)⟩
  refine h1 _ G1 H1 (E1.setown hp hg no hr hioi) t1 fun a ha => ?_
  rcases own_setown E1.len ha with q | q
  · exact o1 a q
  · subst q; exact .inr h0
end
end PL
end L2
set_option Elab.async false
set_option linter.all false
set_option maxRecDepth 100000
namespace L2
namespace PL
open PySem PySem.Spec PyProof.Rows
/-! ### what a def is worth -/
inductive Rs where
  | ok (d : D) | er (x : Exn) | bad
section
variable (K : PySem.W.Frag) (mg : Str → Option Value) (T : List (Addr × Str))
/-- a def that changes nothing: f tells its answer -/
def spP (n : Nat) (f : List D → Rs) : Sp := fun vs H Q E => vs.length = n ∧ ∃ G ds, Sub G H ∧ NT G ∧ LamX.Tabs T H ∧ Reps K G vs ds ∧ match f ds with
  | .ok d => ∀ v G' H', Step (fun _ => False) G H G' H' → Sub G' H' → LamX.Tabs T H' → Rep K G' v d → Q v H'
  | .er x => ∀ C dd G' H', Step (fun _ => False) G H G' H' → Sub G' H' → LamX.Tabs T H' → XR K mg x C dd G' H' → E (.ref C) (some dd) H'
  | .bad => False
/-- a def that changes the list that its first parameter is -/
def spIO (n : Nat) (f : List D → List D → Rs × List D) : Sp := fun vs H Q E => vs.length = n ∧ ∃ G a us xs vs' ds, vs = .ref a :: vs' ∧ H a = some (.lst us) ∧ G a = none ∧ Reps K G us xs ∧ Sub G H ∧ NT G ∧ LamX.Tabs T H ∧ Reps K G vs' ds ∧ match f xs ds with
  | (.ok d, ys) => ∀ v G' H' us', Step (fun b => b = a) G H G' H' → Sub G' H' → LamX.Tabs T H' → H' a = some (.lst us') → G' a = none → Reps K G' us' ys → Rep K G' v d → Q v H'
  | (.er x, ys) => ∀ C dd G' H' us', Step (fun b => b = a) G H G' H' → Sub G' H' → LamX.Tabs T H' → H' a = some (.lst us') → G' a = none → Reps K G' us' ys → XR K mg x C dd G' H' → E (.ref C) (some dd) H'
  | (.bad, _) => False
end
/-- as FnOk, where nothing is being shown (repr) around -/
structure FnG (P : Program) (w : World) (K : PySem.W.Frag) (mg : Str → Option Value) (base : Heap) (k : Nat) (f : Addr) (fd : FuncData) (ps : List Str) (sp : Sp) : Prop where
  len : ∀ vs H Q E, sp vs H Q E → vs.length = ps.length
  go : ∀ (A : Around) (outer : List Env) (s : Shared) (H : Hp) (args : Args) (us : List Value) (vs : List V) (Q : VK) (E : XK), Room k A → A.guards = some [] → Env0 P w K mg base A outer s H → BindsTo s fd args (ps.zip us) → Vals vs us → sp vs H Q E →
    codeAny (model P w) A (.call (.ref f) args) (CR (L2.CX P w) outer P w H s Q E) s
section
variable {P : Program} {w : World} {K : PySem.W.Frag} {mg : Str → Option Value} {base : Heap} {k : Nat} {f : Addr} {fd : FuncData} {ps : List Str} {sp : Sp}
theorem FnG.of (F : FnOk P w K mg base (L2.CX P w) k f fd ps sp) : FnG P w K mg base k f fd ps sp := ⟨F.len, fun A outer s H args us vs Q E hr _ => F.run A outer s H args us vs Q E hr⟩
theorem FnG.mono {j : Nat} (F : FnG P w K mg base j f fd ps sp) (h : j ≤ k) : FnG P w K mg base k f fd ps sp := ⟨F.len, fun A outer s H args us vs Q E hr => F.go A outer s H args us vs Q E (hr.mono h)⟩
/-- a def of the text, by its body -/
theorem fnG_of {x qual : Str} {st : Stmt} {N : List Str} (F : Fun K x qual st f fd) (S : FnScope N ps (defScope st)) (len : ∀ vs H Q E, sp vs H Q E → vs.length = ps.length)
    (hbody : ∀ (cdv : Value) (A : Around) (outer : List Env) (s : Shared) (H : Hp) (vs : List V) (Q : VK) (E : XK), Room k (A.deeper (envOfC qual (defScope st) s.heap.objs.size f cdv)) → A.guards = some [] → sp vs H Q E →
      ∃ t, PSs (cxOf (L2.CX P w) P w K mg base N qual (defScope st) f cdv A outer s H E) (defBody st) t ∧ t { nx := fun _ H' => Q .non H', rt := Q } (start N vs) H) : FnG P w K mg base (k + 1) f fd ps sp := by
  obtain ⟨oc, od, kV, doc, pm, an, cdv, ct, osl, e, lk, hcd⟩ := F.ex
  refine ⟨len, fun A outer s H args us vs Q E hr hgd e0 hb r hsp => ?_⟩
  have key := LamX.run_ofS (CX := L2.CX P w) (P := P) (w := w) (mg := mg) (base := base) (k := k) (N := N) (ps := ps) (A := A) (outer := outer) (s := s) (H := H) (args := args) (us := us) (vs := vs) (Q := Q) (E := E) (e ▸ lk) hcd S hr e0 (e ▸ hb) r (len vs H Q E hsp) fun hr2 => hbody cdv A outer s H vs Q E hr2 hgd hsp
  exact key
end
/-! ### the body's run as a function -/
def rsOf : FR → Rs
  | .rt d _ => .ok d
  | .nx _ => .ok .non
  | .er x _ => .er x
  | _ => .bad
def runP (g : GS) (m : Nat) (ds : List D) : Rs := rsOf (g (ds.map .d ++ List.replicate m .un))
def own0 (ρ : PEnv) : List D := match ρ[(0 : Nat)]? with
  | some (.own ys) => ys
  | _ => []
def rsIO : FR → Rs × List D
  | .rt d ρ => (.ok d, own0 ρ)
  | .nx ρ => (.ok .non, own0 ρ)
  | .er x ρ => (.er x, own0 ρ)
  | _ => (.bad, [])
def runIO (g : GS) (m : Nat) (xs ds : List D) : Rs × List D := rsIO (g (.own xs :: (ds.map .d ++ List.replicate m .un)))
def czP (T : List (Addr × Str)) : Cz := ⟨T, []⟩
def czIO (T : List (Addr × Str)) (a : Addr) : Cz := ⟨T, [(0, a)]⟩
def wE (E : XK) : WX := fun cls d _ H => E cls d H
theorem start_slots {K : PySem.W.Frag} {G H : Hp} : ∀ {ds : List D} {vs : List V} {m : Nat}, Reps K G vs ds → ∀ (i : Nat) (s : SV), (ds.map SV.d ++ List.replicate m SV.un)[i]? = some s → SlotOk K G H s ((vs.map some ++ List.replicate m none)[i]?.getD none)
  | [], _, m, h, i, s, e => by
    cases h
    rw [List.map_nil, List.nil_append, List.getElem?_replicate] at e
    split at e
    · cases e; trivial
    · cases e
  | d :: ds, _, m, h, 0, s, e => by
    cases h with
    | cons h1 h2 => cases e; exact h1
  | d :: ds, _, m, h, i + 1, s, e => by
    cases h with
    | cons h1 h2 => exact start_slots h2 i s e
theorem no_own_start {ds : List D} {m i : Nat} {xs : List D} : (ds.map SV.d ++ List.replicate m SV.un)[i]? ≠ some (.own xs) := fun e => by
  by_cases h : i < ds.length
  · rw [List.getElem?_append_left (by rw [List.length_map]; exact h), List.getElem?_map, List.getElem?_eq_getElem h] at e
    cases e
  · rw [List.getElem?_append_right (by rw [List.length_map]; omega), List.getElem?_replicate] at e
    split at e <;> cases e
theorem ER.start {K : PySem.W.Frag} {T : List (Addr × Str)} {G H : Hp} {vs : List V} {ds : List D} {m : Nat} (s : Sub G H) (nt : NT G) (t : LamX.Tabs T H) (r : Reps K G vs ds) : ER K (czP T) (ds.map .d ++ List.replicate m .un) (vs.map some ++ List.replicate m none) G H where
  len := by simp [Reps.length r]
  slot := start_slots r
  sub := s
  nt := nt
  sep := fun i j xs ys a e => absurd e no_own_start
  tabs := t
  io := fun p hp => by cases hp
theorem not_own_start {ds : List D} {m : Nat} {σ : St} {a : Addr} : ¬ Own (ds.map SV.d ++ List.replicate m SV.un) σ a := fun ⟨_, _, e, _⟩ => no_own_start e
theorem ER.startIO {K : PySem.W.Frag} {T : List (Addr × Str)} {G H : Hp} {vs us : List V} {xs ds : List D} {m : Nat} {a : Addr} (ha : H a = some (.lst us)) (hg : G a = none) (rx : Reps K G us xs) (s : Sub G H) (nt : NT G) (t : LamX.Tabs T H) (r : Reps K G vs ds) :
    ER K (czIO T a) (.own xs :: (ds.map .d ++ List.replicate m .un)) ((V.ref a :: vs).map some ++ List.replicate m none) G H where
  len := by simp [Reps.length r]
  slot := fun i s e => by
    cases i with
    | zero => cases e; exact ⟨a, us, rfl, ha, rx, hg⟩
    | succ i => exact start_slots r i s e
  sub := s
  nt := nt
  sep := fun i j ys zs b e1 e2 _ _ => by
    cases i with
    | zero =>
      cases j with
      | zero => rfl
      | succ j => exact absurd e2 no_own_start
    | succ i => exact absurd e1 no_own_start
  tabs := t
  io := fun p hp => by
    have e : p = (0, a) := List.mem_singleton.mp hp
    subst e
    exact ⟨rfl, xs, rfl⟩
theorem own_startIO {xs ds : List D} {m : Nat} {vs : List V} {a b : Addr} (h : Own (.own xs :: (ds.map SV.d ++ List.replicate m SV.un)) ((V.ref a :: vs).map some ++ List.replicate m none) b) : b = a := by
  obtain ⟨i, ys, e1, e2⟩ := h
  cases i with
  | zero => cases e2; rfl
  | succ i => exact absurd e1 no_own_start
section
variable {P : Program} {w : World} {K : PySem.W.Frag} {mg : Str → Option Value} {base : Heap} {k : Nat} {f : Addr} {fd : FuncData} {ps N : List Str} {x qual : Str} {st : Stmt} {T : List (Addr × Str)} {n m : Nat} {g : GS}
theorem start_eq {vs : List V} (hN : N.length = n + m) (hl : vs.length = n) : start N vs = vs.map some ++ List.replicate m none := by
  unfold start
  rw [hN, hl, Nat.add_sub_cancel_left]
theorem body_P {X : Cx} {E : XK} {st : List Stmt} (h : SXs X (czP T) (wE E) st g) {vs : List V} {H : Hp} {Q : VK} (hN : N.length = n + m) (hsp : spP X.K X.mg T n (runP g m) vs H Q E) :
    ∃ t, PSs X st t ∧ t { nx := fun _ H' => Q .non H', rt := Q } (start N vs) H := by
  obtain ⟨hl, G, ds, sb, nt, tb, rd, q⟩ := hsp
  obtain ⟨t, p, ht⟩ := h
  refine ⟨t, p, ?_⟩
  rw [start_eq hN hl]
  refine ht _ _ G H _ (ER.start sb nt tb rd) ?_
  unfold runP at q
  have nO : ∀ {G' H' : Hp}, Step (Own (ds.map SV.d ++ List.replicate m SV.un) (vs.map some ++ List.replicate m none)) G H G' H' → Step (fun _ => False) G H G' H' := fun s => s.mono fun a ha => absurd ha not_own_start
  cases e : g (ds.map .d ++ List.replicate m .un) with
  | nx ρ' => rw [e] at q; exact fun σ' G' H' E' s o => q .non G' H' (nO s) E'.sub E'.tabs .non
  | rt d ρ' => rw [e] at q; exact fun v σ' G' H' E' s o r => q v G' H' (nO s) E'.sub E'.tabs r
  | er y ρ' => rw [e] at q; exact fun C dd σ' G' H' E' s o r => q C dd G' H' (nO s) E'.sub E'.tabs r
  | bk ρ' => rw [e] at q; exact q.elim
  | ct ρ' => rw [e] at q; exact q.elim
  | bad => rw [e] at q; exact q.elim
theorem pure_G (F : Fun K x qual st f fd) (S : FnScope N ps (defScope st)) (hn : ps.length = n) (hN : N.length = n + m)
    (hg : ∀ (cdv : Value) (A : Around) (outer : List Env) (s : Shared) (H : Hp) (E : XK), Room k (A.deeper (envOfC qual (defScope st) s.heap.objs.size f cdv)) → A.guards = some [] → SXs (cxOf (L2.CX P w) P w K mg base N qual (defScope st) f cdv A outer s H E) (czP T) (wE E) (defBody st) g) :
    FnG P w K mg base (k + 1) f fd ps (spP K mg T n (runP g m)) :=
  fnG_of F S (fun vs H Q E h => h.1.trans hn.symm) fun cdv A outer s H vs Q E hr hgd hsp => body_P (X := cxOf (L2.CX P w) P w K mg base N qual (defScope st) f cdv A outer s H E) (hg cdv A outer s H E hr hgd) hN hsp
theorem pure_Ok (F : Fun K x qual st f fd) (S : FnScope N ps (defScope st)) (hn : ps.length = n) (hN : N.length = n + m)
    (hg : ∀ (cdv : Value) (A : Around) (outer : List Env) (s : Shared) (H : Hp) (E : XK), Room k (A.deeper (envOfC qual (defScope st) s.heap.objs.size f cdv)) → SXs (cxOf (L2.CX P w) P w K mg base N qual (defScope st) f cdv A outer s H E) (czP T) (wE E) (defBody st) g) :
    FnOk P w K mg base (L2.CX P w) (k + 1) f fd ps (spP K mg T n (runP g m)) :=
  F.okX S (fun vs H Q E h => h.1.trans hn.symm) fun cdv A outer s H vs Q E hr hsp => body_P (X := cxOf (L2.CX P w) P w K mg base N qual (defScope st) f cdv A outer s H E) (hg cdv A outer s H E hr) hN hsp
theorem own0_of {ρ : PEnv} {ys : List D} (h : ρ[(0 : Nat)]? = some (.own ys)) : own0 ρ = ys := by unfold own0; rw [h]
theorem body_IO {X : Cx} {E : XK} {st : List Stmt} (h : ∀ a, SXs X (czIO T a) (wE E) st g) {vs : List V} {H : Hp} {Q : VK} (hN : N.length = n + m) (hsp : spIO X.K X.mg T n (runIO g m) vs H Q E) :
    ∃ t, PSs X st t ∧ t { nx := fun _ H' => Q .non H', rt := Q } (start N vs) H := by
  obtain ⟨hl, G, a, us, xs, vs', ds, e, ha, hga, rx, sb, nt, tb, rd, q⟩ := hsp
  obtain ⟨t, p, ht⟩ := h a
  refine ⟨t, p, ?_⟩
  rw [start_eq hN hl]
  subst e
  refine ht _ _ G H _ (ER.startIO ha hga rx sb nt tb rd) ?_
  unfold runIO at q
  have nO : ∀ {G' H' : Hp}, Step (Own (.own xs :: (ds.map SV.d ++ List.replicate m SV.un)) ((V.ref a :: vs').map some ++ List.replicate m none)) G H G' H' → Step (fun b => b = a) G H G' H' := fun s => s.mono fun b hb => .inl (own_startIO hb)
  have fin : ∀ {ρ' : PEnv} {σ' : St} {G' H' : Hp}, ER X.K (czIO T a) ρ' σ' G' H' → ∃ us', H' a = some (.lst us') ∧ G' a = none ∧ Reps X.K G' us' (own0 ρ') := fun {ρ' σ' G' H'} E' => by
    obtain ⟨z1, ys, z2⟩ := E'.io (0, a) List.mem_cons_self
    obtain ⟨b, us', y1, y2, y3, y4⟩ := slot_own E' z2
    rw [z1] at y1
    cases y1
    exact ⟨us', y2, y4, by rw [own0_of z2]; exact y3⟩
  cases e : g (.own xs :: (ds.map .d ++ List.replicate m .un)) with
  | nx ρ' =>
    rw [e] at q
    exact fun σ' G' H' E' s o => by
      obtain ⟨us', y2, y4, y3⟩ := fin E'
      exact q .non G' H' us' (nO s) E'.sub E'.tabs y2 y4 y3 .non
  | rt d ρ' =>
    rw [e] at q
    exact fun v σ' G' H' E' s o r => by
      obtain ⟨us', y2, y4, y3⟩ := fin E'
      exact q v G' H' us' (nO s) E'.sub E'.tabs y2 y4 y3 r
  | er y ρ' =>
    rw [e] at q
    exact fun C dd σ' G' H' E' s o r => by
      obtain ⟨us', y2, y4, y3⟩ := fin E'
      exact q C dd G' H' us' (nO s) E'.sub E'.tabs y2 y4 y3 r
  | bk ρ' => rw [e] at q; exact q.elim
  | ct ρ' => rw [e] at q; exact q.elim
  | bad => rw [e] at q; exact q.elim
theorem io_G (F : Fun K x qual st f fd) (S : FnScope N ps (defScope st)) (hn : ps.length = n) (hN : N.length = n + m)
    (hg : ∀ (cdv : Value) (A : Around) (outer : List Env) (s : Shared) (H : Hp) (E : XK) (a : Addr), Room k (A.deeper (envOfC qual (defScope st) s.heap.objs.size f cdv)) → A.guards = some [] → SXs (cxOf (L2.CX P w) P w K mg base N qual (defScope st) f cdv A outer s H E) (czIO T a) (wE E) (defBody st) g) :
    FnG P w K mg base (k + 1) f fd ps (spIO K mg T n (runIO g m)) :=
  fnG_of F S (fun vs H Q E h => h.1.trans hn.symm) fun cdv A outer s H vs Q E hr hgd hsp => body_IO (X := cxOf (L2.CX P w) P w K mg base N qual (defScope st) f cdv A outer s H E) (fun a => hg cdv A outer s H E a hr hgd) hN hsp
end
end PL
end L2
set_option Elab.async false
set_option linter.all false
set_option maxRecDepth 100000
namespace L2
namespace PL
open PySem PySem.Spec PyProof.Rows
section
variable {X : Cx} {c : Cz} {W : WX} {K : PySem.W.Frag} {ρ ρ' : PEnv} {σ σ' : St} {G H G' H' : Hp}
theorem pass_W0 (σ : St) : PassesAt (L2.CX X.prog X.w) X σ (WE W0 σ) := fun _ _ _ _ _ _ h => by
  obtain ⟨_, _, _, _, _, _, _, _, _, _, _, _, z⟩ := h
  exact z.elim
/-! ### calls of defs -/
variable {k : Nat} {f : Addr} {fd : FuncData} {ps : List Str} {sp : Sp} {E : St → XK} {x : Str} {p pos : Pos} {e : Expr} {es : List Expr} {t : TA}
theorem run_fnG {pins : List (Addr × Obj)} {s : Shared} {Q : VK} {us : List Value} {vs : List V} {args : Args} (F : FnG X.prog X.w X.K X.mg X.base k f fd ps sp) (hr : Room k X.A) (hgd : X.A.guards = some []) (hb : BindsTo s fd args (ps.zip us)) (hx : PassesAt (L2.CX X.prog X.w) X σ (E σ))
    (I : Inv X pins σ H s) (r : Vals vs us) (h : sp vs H Q (E σ)) : wpAny (model X.prog X.w) X.A (call (.ref f) args.pos args.kw) (EP X pins σ Q) X.xe s :=
  wpAny_call (codeAny_mono (F.go X.A X.stack s H args us vs Q (E σ) hr hgd I.env0 hb r h) fun r s' hq => by
    match r, hq with
    | .error er, hq => exact hx pins H s er s' I hq
    | .ok (.ret u), hq => exact I.after hq
    | .ok .next, hq => exact (show False from hq).elim
    | .ok .brk, hq => exact (show False from hq).elim
    | .ok .cont, hq => exact (show False from hq).elim)
theorem pe_callG (F : FnG X.prog X.w X.K X.mg X.base k f fd ps sp) (hr : Room k X.A) (hgd : X.A.guards = some []) (hg : Gl X x) (hm : X.mg x = some (.ref f)) (hk : PySem.W.keepIn X.K (.ref f) = true) (hb : Binds X.K fd ps []) (hx : ∀ σ, PassesAt (L2.CX X.prog X.w) X σ (E σ))
    (ha : PA X (e :: es) t) (hdb : (x == ("__debug__" : Str)) = false := by decide) (he : starEach (e :: es) X.env = (false, eval e X.env) :: starEach es X.env := by rfl) (hpl : (backTo pos (starEach es X.env)).any (·.1) = false := by rfl) :
    PE X (.Call (.Name x p) (e :: es) [] pos) (tCallS sp E t) := by
  constructor
  intro pins s σ H Q I h
  apply wpAny_Call_Name_kw
  apply ld_glob I hg hm _ hdb
  apply PySem.W.callWith_K (h₀ := X.base) I.ok.mod.kin hk _ he hpl
  apply thn (ha.run pos pins s σ H _ I h)
  intro us s1 ⟨vs, H1, I1, r, q⟩
  refine ⟨I1.kIn, ?_⟩
  have hl : us.length = ps.length := by rw [← r.length]; exact F.len _ _ _ _ q
  have b := hb s1 us I1.kIn (by rw [List.append_nil]; exact hl)
  rw [List.append_nil] at b
  exact run_fnG (args := ⟨us, []⟩) F hr hgd b (hx σ) I1 r q
/-- f(x = .., y = ..): all by keywords, in the parameters' order -/
def BindsKw (K : PySem.W.Frag) (fd : FuncData) (ps : List Str) : Prop := ∀ (s : Shared) (us : List Value), K.In s.heap → us.length = ps.length → BindsTo s fd ⟨[], ps.zip us⟩ (ps.zip us)
theorem pe_callKG {kws : List Keyword} (F : FnG X.prog X.w X.K X.mg X.base k f fd ps sp) (hr : Room k X.A) (hgd : X.A.guards = some []) (hg : Gl X x) (hm : X.mg x = some (.ref f)) (hk : PySem.W.keepIn X.K (.ref f) = true) (hb : BindsKw X.K fd ps) (hx : ∀ σ, PassesAt (L2.CX X.prog X.w) X σ (E σ))
    (hkw : PK X kws t) (hall : (backToKw pos (keywordEach kws X.env)).all (·.1.isSome) = true := by rfl) (hks : (backToKw pos (keywordEach kws X.env)).filterMap (·.1) = ps := by rfl)
    (hdb : (x == ("__debug__" : Str)) = false := by decide) (hpl : ((backTo pos (starEach [] X.env)).any (·.1) || (backToKw pos (keywordEach kws X.env)).any (·.1.isNone)) = false := by rfl) :
    PE X (.Call (.Name x p) [] kws pos) (tCallS sp E t) := by
  constructor
  intro pins s σ H Q I h
  apply wpAny_Call_Name_kw
  apply ld_glob I hg hm _ hdb
  apply PySem.W.callWith_KW0 (h₀ := X.base) I.ok.mod.kin hk hall _ hpl
  apply thn (hkw.run pos pins s σ H _ I h)
  intro us s1 ⟨vs, H1, I1, r, q⟩
  refine ⟨I1.kIn, ?_⟩
  rw [hks]
  have hl : us.length = ps.length := by rw [← r.length]; exact F.len _ _ _ _ q
  exact run_fnG (args := ⟨[], ps.zip us⟩) F hr hgd (hb s1 us I1.kIn hl) (hx σ) I1 r q
/-! the same on data -/
def callE (n : Nat) (f : List D → Rs) (gs : GE (List D)) : GE D := fun ρ => (gs ρ).bind fun ds ρ1 => if ds.length = n then (match f ds with
  | .ok d => .ok d ρ1
  | .er x => .er x ρ1
  | .bad => .bad) else .bad
variable {n : Nat} {fP : List D → Rs} {gs : GE (List D)}
theorem ER.stepF {O : Addr → Prop} (E : ER K c ρ σ G H) (t : Step O G H G' H') (no : ∀ a, ¬ O a) (s : Sub G' H') (tb : LamX.Tabs c.T H') : ER K c ρ σ G' H' where
  len := E.len
  slot := fun i s e => by
    have q := E.slot i s e
    cases s with
    | un => trivial
    | d x =>
      cases hσ : (σ[i]?.getD none) with
      | none => rw [hσ] at q; exact q.elim
      | some v => rw [hσ] at q; exact Rep.sub t.g q
    | own xs =>
      obtain ⟨a, vs, e1, e2, e3, e4⟩ := slot_own E e
      rw [e1]
      refine ⟨a, vs, rfl, t.k _ _ e2 (no a) (fun ps z => by cases z), Reps.sub t.g e3, ?_⟩
      cases z : G' a with
      | none => rfl
      | some o =>
        rcases t.n a o z with y | y | y
        · rw [e4] at y; cases y
        · rw [e2] at y; cases y
        · exact absurd y (no a)
  sub := s
  nt := t.t E.nt
  sep := E.sep
  tabs := tb
  io := E.io
theorem call_ok {vs : List V} {ds : List D} {Q : VK} (h : Gd X c W ρ σ G H (if ds.length = n then (match fP ds with | .ok d => R.ok d ρ | .er x => .er x ρ | .bad => .bad) else .bad) (RV X) Q) (E : ER X.K c ρ σ G H) (r : Reps X.K G vs ds) : spP X.K X.mg c.T n fP vs H Q (WE W σ) := by
  by_cases hn : ds.length = n
  · rw [if_pos hn] at h
    refine ⟨by rw [Reps.length r]; exact hn, G, ds, E.sub, E.nt, E.tabs, r, ?_⟩
    cases e : fP ds with
    | ok d =>
      rw [e] at h
      exact fun v G' H' t s tb rd => h v G' H' (E.stepF t (fun _ => id) s tb) (t.mono fun _ z => z.elim) (OwnS.refl _ _ _) rd
    | er y =>
      rw [e] at h
      exact fun C dd G' H' t s tb rd => h C dd G' H' (E.stepF t (fun _ => id) s tb) (t.mono fun _ z => z.elim) (OwnS.refl _ _ _) rd
    | bad => rw [e] at h; exact h
  · rw [if_neg hn] at h; exact h.elim
theorem EX.callOf (hpe : ∀ t, PA X (e :: es) t → PE X (.Call (.Name x p) (e :: es) [] pos) (tCallS (spP X.K X.mg c.T n fP) (WE W) t)) (ha : AX X c W (e :: es) gs) : EX X c W (.Call (.Name x p) (e :: es) [] pos) (callE n fP gs) := by
  obtain ⟨t, pa, q⟩ := ha
  exact ⟨_, hpe t pa, fun ρ σ G H Q E hq => q ρ σ G H _ E (Gd.bind hq fun ds ρ1 vs G1 H1 E1 t1 r1 h1 => call_ok h1 E1 r1)⟩
/-- f(..), f told by fP -/
theorem EX.call (F : FnG X.prog X.w X.K X.mg X.base k f fd ps (spP X.K X.mg c.T n fP)) (hr : Room k X.A) (hgd : X.A.guards = some []) (hm : X.mg x = some (.ref f)) (hk : PySem.W.keepIn X.K (.ref f) = true) (hb : Binds X.K fd ps []) (hx : ∀ σ, PassesAt (L2.CX X.prog X.w) X σ (WE W σ)) (ha : AX X c W (e :: es) gs)
    (hg : Gl X x := by rfl) (hdb : (x == ("__debug__" : Str)) = false := by decide) (he : starEach (e :: es) X.env = (false, eval e X.env) :: starEach es X.env := by rfl) (hpl : (backTo pos (starEach es X.env)).any (·.1) = false := by rfl) :
    EX X c W (.Call (.Name x p) (e :: es) [] pos) (callE n fP gs) := EX.callOf (fun t pa => pe_callG F hr hgd hg hm hk hb hx pa hdb he hpl) ha
/-- .. where nothing is known of what is being shown around -/
theorem EX.callN (F : FnOk X.prog X.w X.K X.mg X.base (L2.CX X.prog X.w) k f fd ps (spP X.K X.mg c.T n fP)) (hr : Room k X.A) (hm : X.mg x = some (.ref f)) (hk : PySem.W.keepIn X.K (.ref f) = true) (hb : Binds X.K fd ps []) (hx : ∀ σ, PassesAt (L2.CX X.prog X.w) X σ (WE W σ)) (ha : AX X c W (e :: es) gs)
    (hg : Gl X x := by rfl) (hdb : (x == ("__debug__" : Str)) = false := by decide) (he : starEach (e :: es) X.env = (false, eval e X.env) :: starEach es X.env := by rfl) (hpl : (backTo pos (starEach es X.env)).any (·.1) = false := by rfl) :
    EX X c W (.Call (.Name x p) (e :: es) [] pos) (callE n fP gs) := EX.callOf (fun t pa => pe_callS F hr hg hm hk hb hx pa hdb he hpl) ha
/-! keywords -/
def AKX (X : Cx) (c : Cz) (W : WX) (kws : List Keyword) (g : GE (List D)) : Prop := ∃ t, PK X kws t ∧ ∀ ρ σ G H Q, ER X.K c ρ σ G H → Gd X c W ρ σ G H (g ρ) (RVs X) Q → t σ H Q
theorem AKX.nil : AKX X c W [] nilA := ⟨_, pk_nil, fun ρ σ G H Q E hq => hq.here E .nil⟩
theorem AKX.cons {kws : List Keyword} {nm : Option Str} {kp : Pos} {ga : GE D} {gr : GE (List D)} (ha : EX X c W e ga) (hr : AKX X c W kws gr) : AKX X c W (⟨nm, e, kp⟩ :: kws) (consA ga gr) := by
  obtain ⟨ta, pa, qa⟩ := ha
  obtain ⟨tr, pr, qr⟩ := hr
  exact ⟨_, pk_cons pa pr, fun ρ σ G H Q E hq => qa ρ σ G H _ E (Gd.bind hq fun x ρ1 v G1 H1 E1 t1 r1 h1 => qr ρ1 σ G1 H1 _ E1 (Gd.bind h1 fun xs ρ2 vs G2 H2 E2 t2 r2 h2 => Gd.here (Rel := RVs X) h2 E2 (.cons (Rep.sub t2.g r1) r2)))⟩
theorem EX.callK {kws : List Keyword} (F : FnG X.prog X.w X.K X.mg X.base k f fd ps (spP X.K X.mg c.T n fP)) (hr : Room k X.A) (hgd : X.A.guards = some []) (hm : X.mg x = some (.ref f)) (hk : PySem.W.keepIn X.K (.ref f) = true) (hb : BindsKw X.K fd ps) (hx : ∀ σ, PassesAt (L2.CX X.prog X.w) X σ (WE W σ)) (ha : AKX X c W kws gs)
    (hg : Gl X x := by rfl) (hall : (backToKw pos (keywordEach kws X.env)).all (·.1.isSome) = true := by rfl) (hks : (backToKw pos (keywordEach kws X.env)).filterMap (·.1) = ps := by rfl)
    (hdb : (x == ("__debug__" : Str)) = false := by decide) (hpl : ((backTo pos (starEach [] X.env)).any (·.1) || (backToKw pos (keywordEach kws X.env)).any (·.1.isNone)) = false := by rfl) :
    EX X c W (.Call (.Name x p) [] kws pos) (callE n fP gs) := by
  obtain ⟨t, pa, q⟩ := ha
  exact ⟨_, pe_callKG F hr hgd hg hm hk hb hx pa hall hks hdb hpl, fun ρ σ G H Q E hq => q ρ σ G H _ E (Gd.bind hq fun ds ρ1 vs G1 H1 E1 t1 r1 h1 => call_ok h1 E1 r1)⟩
/-! a def that changes its first argument, an own list -/
def callIO (i n : Nat) (f : List D → List D → Rs × List D) (gs : GE (List D)) : GE D := fun ρ => if isOwn ρ[i]? then (gs ρ).bind fun ds ρ1 => match ρ1[i]? with
  | some (.own xs) => if ds.length + 1 = n then (match f xs ds with
    | (.ok d, ys) => .ok d (ρ1.set i (.own ys))
    | (.er x, ys) => .er x (ρ1.set i (.own ys))
    | (.bad, _) => .bad) else .bad
  | _ => .bad
  else .bad
theorem ER.io' {i : Nat} {xs ys : List D} {a : Addr} {us' : List V} (E : ER K c ρ σ G H) (hρ : ρ[i]? = some (.own xs)) (hσ : σ[i]? = some (some (.ref a))) (t : Step (fun b => b = a) G H G' H') (s : Sub G' H') (tb : LamX.Tabs c.T H') (ha : H' a = some (.lst us')) (hg : G' a = none) (r : Reps K G' us' ys) :
    ER K c (ρ.set i (.own ys)) σ G' H' where
  len := by rw [List.length_set]; exact E.len
  slot := fun j s e => by
    by_cases hj : j = i
    · subst hj
      have hlt : j < ρ.length := (List.getElem?_eq_some_iff.mp hρ).1
      rw [List.getElem?_set_self hlt] at e
      cases e
      rw [hσ]
      exact ⟨a, us', rfl, ha, r, hg⟩
    · rw [List.getElem?_set_ne (Ne.symm hj)] at e
      have q := E.slot j s e
      cases s with
      | un => trivial
      | d x =>
        cases hs : (σ[j]?.getD none) with
        | none => rw [hs] at q; exact q.elim
        | some v => rw [hs] at q; exact Rep.sub t.g q
      | own zs =>
        obtain ⟨b, us, q1, q2, q3, q4⟩ := slot_own E e
        have nb : b ≠ a := fun z => hj (E.sep j i zs xs b e hρ q1 (by rw [z]; exact hσ))
        rw [q1]
        refine ⟨b, us, rfl, t.k _ _ q2 nb (fun ps z => by cases z), Reps.sub t.g q3, ?_⟩
        cases z : G' b with
        | none => rfl
        | some o =>
          rcases t.n b o z with y | y | y
          · rw [q4] at y; cases y
          · rw [q2] at y; cases y
          · exact absurd y nb
  sub := s
  nt := t.t E.nt
  sep := fun j k zs us b e1 e2 e3 e4 => by
    have f : ∀ (j : Nat) (zs : List D), (ρ.set i (.own ys))[j]? = some (.own zs) → ∃ zs', ρ[j]? = some (.own zs') := fun j zs e => by
      by_cases hj : j = i
      · subst hj; exact ⟨xs, hρ⟩
      · rw [List.getElem?_set_ne (Ne.symm hj)] at e; exact ⟨zs, e⟩
    obtain ⟨z1, q1⟩ := f j zs e1
    obtain ⟨z2, q2⟩ := f k us e2
    exact E.sep j k z1 z2 b q1 q2 e3 e4
  tabs := tb
  io := fun q hq => by
    obtain ⟨q1, zs, q2⟩ := E.io q hq
    refine ⟨q1, ?_⟩
    by_cases hj : q.1 = i
    · have hlt : i < ρ.length := (List.getElem?_eq_some_iff.mp hρ).1
      exact ⟨ys, by rw [hj, List.getElem?_set_self hlt]⟩
    · exact ⟨zs, by rw [List.getElem?_set_ne (Ne.symm hj)]; exact q2⟩
theorem EX.callIO {i : Nat} {y : Str} {py : Pos} {fIO : List D → List D → Rs × List D} (F : FnG X.prog X.w X.K X.mg X.base k f fd ps (spIO X.K X.mg c.T n fIO)) (hr : Room k X.A) (hgd : X.A.guards = some []) (hm : X.mg x = some (.ref f)) (hk : PySem.W.keepIn X.K (.ref f) = true) (hb : Binds X.K fd ps []) (hx : ∀ σ, PassesAt (L2.CX X.prog X.w) X σ (WE W σ))
    (hp : PE X (.Name y py) (tVar i)) (ha : AX X c W es gs) (hg : Gl X x := by rfl) (hdb : (x == ("__debug__" : Str)) = false := by decide) (he : starEach (.Name y py :: es) X.env = (false, eval (.Name y py) X.env) :: starEach es X.env := by rfl) (hpl : (backTo pos (starEach es X.env)).any (·.1) = false := by rfl) :
    EX X c W (.Call (.Name x p) (.Name y py :: es) [] pos) (callIO i n fIO gs) := by
  obtain ⟨t, pa, q⟩ := ha
  refine ⟨_, pe_callG F hr hgd hg hm hk hb hx (pa_cons hp pa he) hdb he hpl, fun ρ σ G H Q E h => ?_⟩
  unfold PL.callIO at h
  cases ho : isOwn ρ[i]? with
  | false => rw [ho, if_neg (by decide)] at h; exact False.elim h
  | true =>
    rw [ho, if_pos rfl] at h
    obtain ⟨xs0, hx0⟩ := isOwn_of ho
    obtain ⟨a, vs0, e1, e2, e3, e4⟩ := slot_own E hx0
    refine ⟨.ref a, e1, q ρ σ G H _ E (Gd.bind h fun ds ρ1 vs G1 H1 E1 t1 r1 h1 => ?_)⟩
    cases q1 : ρ1[i]? with
    | none => simp only [q1] at h1; exact False.elim h1
    | some s =>
      cases s with
      | un => simp only [q1] at h1; exact False.elim h1
      | d _ => simp only [q1] at h1; exact False.elim h1
      | own xs =>
        simp only [q1] at h1
        obtain ⟨b, us, f1, f2, f3, f4⟩ := slot_own E1 q1
        have hab : a = b := by
          rw [e1] at f1
          cases f1
          rfl
        subst hab
        by_cases hn : ds.length + 1 = n
        · rw [if_pos hn] at h1
          refine ⟨by rw [List.length_cons, Reps.length r1]; exact hn, G1, a, us, xs, vs, ds, rfl, f2, f4, f3, E1.sub, E1.nt, E1.tabs, r1, ?_⟩
          cases ef : fIO xs ds with
          | mk rr ys =>
            rw [ef] at h1
            cases rr with
            | ok d => exact fun v G' H' us' st s tb ha' hg' rys rd => h1 v G' H' (E1.io' q1 f1 st s tb ha' hg' rys) (st.mono fun z hz => .inl (by rw [hz]; exact ⟨i, xs, q1, f1⟩)) (fun z hz => .inl (own_write q1 hz)) rd
            | er y => exact fun C dd G' H' us' st s tb ha' hg' rys rd => h1 C dd G' H' (E1.io' q1 f1 st s tb ha' hg' rys) (st.mono fun z hz => .inl (by rw [hz]; exact ⟨i, xs, q1, f1⟩)) (fun z hz => .inl (own_write q1 hz)) rd
            | bad => exact h1
        · rw [if_neg hn] at h1; exact False.elim h1
end
end PL
end L2
set_option Elab.async false
set_option linter.all false
set_option maxRecDepth 100000
namespace L2
namespace PL
open PySem PySem.Spec PyProof.Rows
theorem ioP {T : List (Addr × Str)} {i : Nat} : ∀ p ∈ (czP T).io, p.1 ≠ i := fun p hp => by cases hp
theorem ioX {T : List (Addr × Str)} {a : Addr} {i : Nat} (h : 0 ≠ i) : ∀ p ∈ (czIO T a).io, p.1 ≠ i := fun p hp => by
  have e : p = (0, a) := List.mem_singleton.mp hp
  subst e
  exact h
theorem ioPs {T : List (Addr × Str)} {vs : List Nat} : ∀ p ∈ (czP T).io, p.1 ∉ vs := fun p hp => by cases hp
theorem ioXs {T : List (Addr × Str)} {a : Addr} {vs : List Nat} (h : 0 ∉ vs) : ∀ p ∈ (czIO T a).io, p.1 ∉ vs := fun p hp => by
  have e : p = (0, a) := List.mem_singleton.mp hp
  subst e
  exact h
section
variable {P : Program} {w : World} {K : PySem.W.Frag} {mg : Str → Option Value} {base : Heap} {N : List Str} {qual : Str} {scope : Scope} {f : Addr} {cd : Value} {A : Around} {outer : List Env} {s : Shared} {H : Hp} {E : XK}
theorem takes_cx : Takes (cxOf (L2.CX P w) P w K mg base N qual scope f cd A outer s H E) (wE E) := takes_of rfl rfl rfl rfl
theorem pass_cx : ∀ σ, PassesAt (L2.CX P w) (cxOf (L2.CX P w) P w K mg base N qual scope f cd A outer s H E) σ (WE (wE E) σ) := passAt takes_cx
theorem own_cx : PassesOwn (model P w) (cxOf (L2.CX P w) P w K mg base N qual scope f cd A outer s H E).A (cxOf (L2.CX P w) P w K mg base N qual scope f cd A outer s H E).env (cxOf (L2.CX P w) P w K mg base N qual scope f cd A outer s H E).xe := passes_of rfl
end
section
variable {X : Cx} {c : Cz} {W : WX} {a b e : Expr} {ga gb ge : GE D} {la lb : GE (List D)} {K : PySem.W.Frag} {ρ ρ' : PEnv} {σ σ' : St} {G H G' H' : Hp}
/-! ### a, b = x, y (two local names) -/
def parS (i j : Nat) (ga gb : GE D) : GS := fun ρ => (ga ρ).bindS fun x ρ1 => (gb ρ1).bindS fun y ρ2 => .nx ((ρ2.set i (.d x)).set j (.d y))
theorem SX.par {i j : Nat} {st : Stmt} (hioi : ∀ p ∈ c.io, p.1 ≠ i) (hioj : ∀ p ∈ c.io, p.1 ≠ j) (hp : ∀ ta, PA X [a, b] ta → PS X st (tPar i j ta)) (ha : EX X c W a ga) (hb : EX X c W b gb)
    (hs : starEach (a :: [b]) X.env = (false, eval a X.env) :: starEach [b] X.env := by rfl) (hs2 : starEach (b :: []) X.env = (false, eval b X.env) :: starEach [] X.env := by rfl) : SX X c W st (parS i j ga gb) := by
  obtain ⟨ta, pa, qa⟩ := ha
  obtain ⟨tb, pb, qb⟩ := hb
  refine ⟨_, hp _ (pa_cons pa (pa_cons pb pa_nil hs2) hs), fun ρ σ G H D' E h => qa ρ σ G H _ E (GdS.bind (Rel1 := RV X) h fun x ρ1 v G1 H1 E1 t1 o1 r1 h1 => qb ρ1 σ G1 H1 _ E1 (GdS.bind (Rel1 := RV X) h1 fun y ρ2 u G2 H2 E2 t2 o2 r2 h2 => ?_))⟩
  refine ⟨v, u, rfl, h2 _ G2 H2 ((E2.setd (Rep.sub t2.g r1) hioi).setd r2 hioj) (Step.refl _ _ _) fun z hz => .inl (own_set E2.len (own_set (by rw [List.length_set, List.length_set]; exact E2.len) hz))⟩
/-- both new lists of their own -/
def parOwnS (i j : Nat) (la lb : GE (List D)) : GS := fun ρ => (la ρ).bindS fun xs ρ1 => match lb ρ1 with
  | .ok ys ρ2 => .nx ((ρ2.set i (.own xs)).set j (.own ys))
  | _ => .bad
theorem SX.parOwn {i j : Nat} {st : Stmt} (hij : i ≠ j) (hioi : ∀ p ∈ c.io, p.1 ≠ i) (hioj : ∀ p ∈ c.io, p.1 ≠ j) (hp : ∀ ta, PA X [a, b] ta → PS X st (tPar i j ta)) (ha : LX X c W a la) (hb : LX X c W b lb)
    (hs : starEach (a :: [b]) X.env = (false, eval a X.env) :: starEach [b] X.env := by rfl) (hs2 : starEach (b :: []) X.env = (false, eval b X.env) :: starEach [] X.env := by rfl) : SX X c W st (parOwnS i j la lb) := by
  obtain ⟨ta, pa, qa⟩ := ha
  obtain ⟨tb, pb, qb⟩ := hb
  refine ⟨_, hp _ (pa_cons pa (pa_cons pb pa_nil hs2) hs), fun ρ σ G H D' E h => qa ρ σ G H _ E (GdS.bindL (Q := fun x H1 => tCons tb tNil σ H1 fun xs H2 => ∃ v w, x :: xs = [v, w] ∧ D'.nx ((σ.set i (some v)).set j (some w)) H2) h fun xs ρ1 p vs G1 H1 E1 t1 o1 h0 hp1 hg1 no1 hr1 h1 => ?_)⟩
  refine qb ρ1 σ G1 H1 _ E1 ?_
  cases q : lb ρ1 with
  | bad => simp only [q] at h1; exact h1
  | er y ρ2 => simp only [q] at h1; exact h1.elim
  | ok ys ρ2 =>
    simp only [q] at h1
    intro p2 ws G2 H2 E2 t2 o2 h02 hp2 hg2 no2 hr2
    have hp1' : H2 p = some (.lst vs) := t2.k _ _ hp1 no1 fun ps z => by cases z
    have hg1' : G2 p = none := by
      cases z : G2 p with
      | none => rfl
      | some o =>
        rcases t2.n p o z with y | y | y
        · rw [hg1] at y; cases y
        · rw [hp1] at y; cases y
        · exact absurd y no1
    have no1' : ¬ Own ρ2 σ p := fun z => by
      rcases o2 p z with y | y
      · exact no1 y
      · rw [hp1] at y; cases y
    have E3 := E2.setown hp1' hg1' no1' (Reps.sub t2.g hr1) hioi
    have npp : p2 ≠ p := fun z => by rw [z, hp1] at h02; cases h02
    have no3 : ¬ Own (ρ2.set i (.own xs)) (σ.set i (some (.ref p))) p2 := fun z => by
      rcases own_setown E2.len z with y | y
      · exact no2 y
      · exact npp y
    refine ⟨.ref p, .ref p2, rfl, h1 _ G2 H2 (E3.setown hp2 hg2 no3 hr2 hioj) (t1.trans t2 o1) fun z hz => ?_⟩
    rcases own_setown E3.len hz with y | y
    · rcases own_setown E2.len y with y2 | y2
      · rcases o2 z y2 with y3 | y3
        · exact o1 z y3
        · exact .inr (t1.d z y3)
      · subst y2; exact .inr h0
    · subst y; exact .inr (t1.d _ h02)
/-! ### raise C(e), C an own exception class whose __init__ keeps its argument as a field -/
/-- __init__(self, v): self.f = v -/
def spInit (K : PySem.W.Frag) (fl : Str) : Sp := fun vs H Q _ => ∃ (a C : Addr) (v : V), vs = [.ref a, v] ∧ OexC K C ∧ PySem.W.findIn K (.ref C) fl = some none ∧ H a = some (exo a C none) ∧ ∀ dx, H dx = none → dx ≠ a → Q .non (upd (upd H dx (exd dx [(fl, v)])) a (exo a C (some dx)))
theorem init_ok {P : Program} {w : World} {mg : Str → Option Value} {base : Heap} {x qual fl : Str} {st : Stmt} {f : Addr} {fd : FuncData} {N ps : List Str} {p1 p2 p3 p4 : Pos} {nv : Str} {dvs : List V} {kws : List (Str × V)} (F : FunD K x qual (defArgs st) (defBody st) (defScope st) dvs kws f fd) (S : FnScope N ps (defScope st)) (hps : ps.length = 2) (hN2 : N.length = 2) (hb : defBody st = [.Assign [.Attribute (.Name "self" p1) fl p2] (.Name nv p3) p4])
    (h0 : N[0]? = some ("self" : Str)) (h1 : N[1]? = some nv) (v0 : Vis (defScope st) "self") (v1 : Vis (defScope st) nv) (hd : (nv == ("__debug__" : Str)) = false) (hcd : (nv == ("__classdict__" : Str)) = false) : FnOk P w K mg base CX0 1 f fd ps (spInit K fl) := by
  refine F.ok S (fun vs H Q E h => ?_) (fun cdv A outer s H vs Q E hr h => ?_)
  · obtain ⟨a, C, v, rfl, _⟩ := h
    rw [hps]; rfl
  · obtain ⟨a, C, v, rfl, T, hno, ha, q⟩ := h
    rw [hb]
    refine ⟨_, pss_one (ps_ost (pe_var (i := 0) h0 v0) (pe_var (i := 1) h1 v1 hd hcd)), ?_⟩
    have es : start N [V.ref a, v] = [some (.ref a), some v] := by unfold start; rw [hN2]; rfl
    rw [es]
    exact ⟨v, rfl, .ref a, rfl, a, C, rfl, T, hno, .inl ⟨ha, fun dx n ne => q dx n ne⟩⟩
def raiseS (cls fl : Str) (ge : GE D) : GS := fun ρ => (ge ρ).bindS fun d ρ1 => .er ⟨cls, [(fl, d)]⟩ ρ1
theorem SX.raise {x fl : Str} {C fI : Addr} {k : Nat} {fd : FuncData} {ps : List Str} {p pos pos2 : Pos} (hc : X.calm = true) (tk : Takes X W) (T : OexC X.K C) (hno : PySem.W.findIn X.K (.ref C) fl = some none) (iC : PySem.W.findIn X.K (.ref C) "__init__" = some (some (.ref fI))) (tI : PySem.W.typeIn X.K (.ref fI) = some (.type "function"))
    (F1 : FnOk X.prog X.w X.K X.mg X.base CX0 k fI fd ps (spInit X.K fl)) (hr : Room (k + 1) X.A) (hb : Binds X.K fd ps []) (hm : X.mg x = some (.ref C)) (he : EX X c W e ge) (hg : Gl X x := by rfl)
    (hdb : (x == ("__debug__" : Str)) = false := by decide) (hst : starEach (e :: []) X.env = (false, eval e X.env) :: starEach [] X.env := by rfl) (hpl : (backTo pos (starEach [] X.env)).any (·.1) = false := by rfl) :
    SX X c W (.Raise (some (.Call (.Name x p) [e] [] pos)) none pos2) (raiseS x fl ge) := by
  obtain ⟨t, pe, q⟩ := he
  refine ⟨_, ps_raise hc tk (pmk_oex T iC tI F1 hr hb .nil pass0 hg hm (pa_cons pe pa_nil hst) hdb hst hpl), fun ρ σ G H D' E h => q ρ σ G H _ E (GdS.bind (Rel1 := RV X) h fun d ρ1 v G1 H1 E1 t1 o1 r1 h1 => ?_)⟩
  refine ⟨by show 1 ≤ 1000; decide, fun a ha => ⟨a, C, v, rfl, T, hno, upd_same, fun dx hdx hne => ⟨rfl, dx, [(fl, v)], upd_same, ?_, ?_, ?_⟩⟩⟩
  · rw [upd_ne hne, upd_same]
  · rw [upd_ne hne] at hdx
    exact hdx
  · rw [upd_ne hne] at hdx
    have agree : ∀ b o, H1 b = some o → (upd (del (upd (upd (upd H1 a (exo a C none)) dx (exd dx [(fl, v)])) a (exo a C (some dx))) a) dx (.xd [(fl, v)])) b = some o := fun b o e => by
      have n1 : b ≠ dx := ne_of_none e hdx
      have n2 : b ≠ a := ne_of_none e ha
      rw [upd_ne n1, del_ne n2, upd_ne n2, upd_ne n1, upd_ne n2]
      exact e
    have st : StepN G1 H1 G1 (upd (del (upd (upd (upd H1 a (exo a C none)) dx (exd dx [(fl, v)])) a (exo a C (some dx))) a) dx (.xd [(fl, v)])) := ⟨Sub.refl _, fun _ _ z => .inl z, agree, fun b o z => agree b o (E1.sub b o z), id⟩
    exact h1 C dx σ G1 _ (E1.stepN st) (st.step _) (OwnS.refl _ _ _) ⟨hm, [(fl, v)], upd_same, .cons ⟨rfl, r1⟩ .nil⟩
end
end PL
end L2
namespace L2
namespace PL
open PySem PySem.Spec PyProof.Rows
theorem room100 {A : Around} {k : Nat} (hr : Room k A) : A.units + 100 < cLine := by have := hr.un; omega
def negF : D → Option D
  | .int i => some (.int (-i))
  | _ => none
theorem o1_neg {X : Cx} : Op1 X (rU fun i => .int (-i)) negF := fun G H x dx d Q s r e k => by
  cases r <;> first | (simp only [negF, reduceCtorEq] at e; done) | skip
  cases e
  exact ⟨_, rfl, k _ G H (StepN.refl s) (.int _)⟩
end PL
end L2
namespace L2
namespace PL
open PySem PySem.Spec PyProof.Rows
theorem EX.gint {X : Cx} {c : Cz} {W : WX} {x : Str} {i : Int} {pos : Pos} (hm : ∃ t, X.mg x = some (.int i t)) (hg : Gl X x := by rfl) (hd : (x == ("__debug__" : Str)) = false := by decide) : EX X c W (.Name x pos) (cE (.int i)) := by
  obtain ⟨t, e⟩ := hm
  exact EX.const (pe_glob (v := .int i) hg e ⟨t, rfl⟩ hd) fun _ => .int _
theorem EX.gstr {X : Cx} {c : Cz} {W : WX} {x y : Str} {pos : Pos} (hm : ∃ t, X.mg x = some (.str y t)) (hg : Gl X x := by rfl) (hd : (x == ("__debug__" : Str)) = false := by decide) : EX X c W (.Name x pos) (cE (.str y)) := by
  obtain ⟨t, e⟩ := hm
  exact EX.const (pe_glob (v := .str y) hg e ⟨t, rfl⟩ hd) fun _ => .str _
theorem EX.gref {X : Cx} {c : Cz} {W : WX} {x : Str} {u : Addr} {d : D} {pos : Pos} (hm : X.mg x = some (.ref u)) (hr : ∀ G, Rep X.K G (.ref u) d) (hg : Gl X x := by rfl) (hd : (x == ("__debug__" : Str)) = false := by decide) : EX X c W (.Name x pos) (cE d) :=
  EX.const (pe_glob (v := .ref u) hg hm rfl hd) hr
end PL
end L2
set_option Elab.async false
set_option linter.all false
set_option maxRecDepth 100000
set_option maxHeartbeats 2000000
namespace L2
namespace PL
open PySem PySem.Spec PyProof.Rows
/-! ### {k: v, ..}[e], texts told as keys of whole numbers -/
def disK (kvs : List (Str × Int)) : List (Key × V) := kvs.map fun p => (Sum.inr p.1, V.int p.2)
def dictF (kvs : List (Str × Int)) : D → Option D
  | .str x => match valV (mergeK [] (disK kvs)) (Sum.inr x) with
    | some (.int i) => some (.int i)
    | _ => none
  | _ => none
def trsOf (kvs : List (Str × Int)) : List (TE × TE) := kvs.map fun p => (tC (.str p.1), tC (.int p.2))
theorem tPairs_of {σ : St} {H : Hp} : ∀ {kvs : List (Str × Int)} {Q : List (V × V) → Hp → Prop}, Q ((disK kvs).map fun kv => (kV kv.1, kv.2)) H → tPairs (trsOf kvs) σ H Q
  | [], Q, h => h
  | p :: r, Q, h => tPairs_of (kvs := r) (Q := fun ps H3 => Q ((V.str p.1, V.int p.2) :: ps) H3) h
theorem EX.dictIx {X : Cx} {c : Cz} {W : WX} {keys : List (Option Expr)} {values : List Expr} {e : Expr} {g : GE D} {pos pos' : Pos} {kvs : List (Str × Int)} (hu : X.A.units + 64 < cLine) (hp : PPs X pos keys values (trsOf kvs)) (hl15 : kvs.length ≤ 15) (hall : keys.all (·.isSome) = true) (hl : keys.length = values.length) (h0 : keys ≠ [])
    (h15 : keys.length ≤ 15) (he : EX X c W e g) (hs : NoSl e := by exact (fun _ _ => rfl)) : EX X c W (.Subscript (.Dict keys values pos) e pos') (unE (dictF kvs) g) := by
  obtain ⟨t, pe, q⟩ := he
  refine ⟨_, pe_dget (by omega) (pe_disp hp hall hl h0 h15) pe hs, fun ρ σ G H Q E hq => fun p hp0 => tPairs_of ⟨upd_same, disK kvs, rfl, by unfold disK; rw [List.length_map]; exact hl15, ?_⟩⟩
  have hpG : G p = none := by
    cases z : G p with
    | none => rfl
    | some o => rw [E.sub p o z] at hp0; cases hp0
  have eu : upd (upd H p (.dK [])) p (.dK (mergeK [] (disK kvs))) = upd H p (.dK (mergeK [] (disK kvs))) := by
    funext b
    by_cases hb : b = p
    · rw [hb, upd_same, upd_same]
    · rw [upd_ne hb, upd_ne hb, upd_ne hb]
  rw [eu]
  have st : StepN G H (upd G p (.dK (mergeK [] (disK kvs)))) (upd H p (.dK (mergeK [] (disK kvs)))) := StepN.new E.sub hp0
  refine q ρ σ _ _ _ (E.stepN st) (Gd.bind (Gd.shift hq (st.step _) (OwnS.refl _ _ _)) fun d ρ1 v G1 H1 E1 t1 r1 h1 => ?_)
  obtain ⟨d', e1, k⟩ := Gd.opt h1 E1
  have hd : H1 p = some (.dK (mergeK [] (disK kvs))) := E1.sub _ _ (t1.g _ _ upd_same)
  cases r1 with
  | str x =>
    unfold dictF at e1
    cases z : valV (mergeK [] (disK kvs)) (Sum.inr x) with
    | none => simp only [z] at e1; cases e1
    | some u =>
      cases u with
      | int i =>
        simp only [z] at e1
        cases e1
        refine ⟨p, .int i, rfl, ?_, k _ _ _ (StepN.refl E1.sub) (.int i)⟩
        have w := DGet.k (k := Sum.inr x) hd
        rw [z] at w
        exact w
      | _ => simp only [z] at e1; cases e1
  | _ => cases e1
end PL
end L2
set_option Elab.async false
set_option linter.all false
set_option maxRecDepth 100000
set_option maxHeartbeats 4000000
namespace L2
namespace PL
open PySem PySem.Spec PyProof.Rows
/-! ### try: body / except x as n: suite / except y as n: suite .. (one name n, slot i) -/
def wAsM (K : PySem.W.Frag) (i : Nat) (Wout : WX) (D' : Ends) : List (Value × (Addr → Value → Option Addr → TS)) → WX
  | [] => Wout
  | (k, ts) :: r => fun cls d σ H => ∃ b, PySem.W.exmOne K cls k = some b ∧
      (b = true → ∀ a, H a = none → ts a cls d ⟨fun σ' H' => D'.nx (σ'.set i none) H', D'.rt, fun σ' H' => D'.bk (σ'.set i none) H', fun σ' H' => D'.ct (σ'.set i none) H'⟩ (σ.set i (some (.ref a))) H) ∧
      (b = false → wAsM K i Wout D' r cls d σ H)
inductive HdsAs (X : Cx) (n : Str) : List ExceptHandler → List (Value × (Addr → Value → Option Addr → TS)) → Prop
  | nil : HdsAs X n [] []
  | cons {x : Str} {k : Value} {ts : Addr → Value → Option Addr → TS} {b₀ : Stmt} {suite : List Stmt} {np hp : Pos} {hds : List ExceptHandler} {l : List (Value × (Addr → Value → Option Addr → TS))} (hc : Names X x k)
      (su : ∀ (a : Addr) (oe : Obj) (cls : Value) (d : Option Addr) (pn : List (Addr × Obj)), Zc cls d oe → (∃ vs, oe.data = .fields vs) → PSs (X.suite a ((a, oe) :: pn)) (b₀ :: suite) (ts a cls d))
      (r : HdsAs X n hds l) : HdsAs X n (.ExceptHandler (some (.Name x np)) (some n) (b₀ :: suite) hp :: hds) ((k, ts) :: l)
section
variable {X : Cx} {n : Str} {i : Nat} {body : List Stmt} {hd0 : ExceptHandler} {hds : List ExceptHandler} {l : List (Value × (Addr → Value → Option Addr → TS))} {pos : Pos} {tb : WX → TS} {Wout : WX}
theorem ps_tryAs (hs : X.stack = X.env :: X.outer) (hf : X.env.frame = some X.env.locals) (hN : X.N.Nodup) (hi : X.N[i]? = some n) (hln : X.env.kindOf n = some .local) (tk : Takes X Wout)
    (hb : ∀ (W : WX) (pn : List (Addr × Obj)) (xe : Value → Shared → Prop), Takes (X.tr pn xe) W → PassesOwn (model X.prog X.w) X.A X.env xe → PSs (X.tr pn xe) body (tb W))
    (hh : HdsAs X n (hd0 :: hds) l) : PS X (.Try body (hd0 :: hds) [] [] pos) (fun D' σ H => tb (wAsM X.K i Wout D' l) D' σ H) := by
  constructor
  intro pins s σ H D' I h
  have hok := I.ok
  have hfr : X.A.frames = some (X.env :: X.outer) := hs ▸ hok.frames
  have hlc : Loc X.env.scope n := Or.inl hln
  apply wpAny_Try_except
  apply wpAny_mono ((hb (wAsM X.K i Wout D' l) (X.pn ++ pins)
    (fun e s1 => wpAny (model X.prog X.w) X.A (noteFrame e X.env) (fun _ s2 => wpAny (model X.prog X.w) X.A (setFlight e none)
      (fun _ s3 => wpAny (model X.prog X.w) X.A (handleBy e X.env (hd0 :: hds)) (SP X pins D') X.xe s3) X.xe s2) X.xe s1) ?caught PassesOwn.looking).run [] s σ H D' (I.toTry _) h) ?after (fun _ _ z => z)
  case after =>
    intro fl s1 z
    cases fl with
    | next => exact let ⟨σ2, H2, J2, q⟩ := z; wpAny_execs_nil ⟨σ2, H2, J2.ofTry hok, q⟩
    | brk => exact let ⟨σ2, H2, J2, q⟩ := z; ⟨σ2, H2, J2.ofTry hok, q⟩
    | cont => exact let ⟨σ2, H2, J2, q⟩ := z; ⟨σ2, H2, J2.ofTry hok, q⟩
    | ret u => exact let ⟨v, σ2, H2, J2, r, q⟩ := z; ⟨v, σ2, H2, J2.ofTry hok, r, q⟩
  case caught =>
    intro u s' z
    obtain ⟨a, B, sI, pins2, σ2, H2, cls, d, rfl, J0, nb, up, sky, na, os, ag, w⟩ := z
    have J : Inv X pins σ2 H2 sI := J0.ofTry hok
    have sky2 : Sky B (X.env :: X.outer) a (Zc cls d) X.env.locals s'.heap := hs ▸ sky
    show wpAny (model X.prog X.w) X.A (noteFrame (.ref a) X.env) _ _ _
    refine Sky.land Zc.steady hfr hf sky2 fun g3 fl3 up3 => ?_
    have J3 : Inv X pins σ2 H2 { s' with heap := g3 } := J.landed nb fl3.1 (up.trans up3) os ag
    obtain ⟨oe, vs, he, hz, hdat⟩ := fl3.there
    have offFr : a ∉ frs (X.env :: X.outer) := fun hm => by
      obtain ⟨_, o2, e2, hn⟩ := fl3.2.2.1.mem hm
      rw [he] at e2
      cases e2
      exact hn _ hdat
    have offL : a ≠ X.env.locals := fun z => offFr (List.mem_filterMap.mpr ⟨X.env, List.mem_cons_self, by rw [hf, z]⟩)
    have offS : a ∉ X.fs := fun hm => by
      obtain ⟨e1, k1, k2⟩ := List.mem_filterMap.mp hm
      exact offFr (List.mem_filterMap.mpr ⟨e1, List.mem_cons_of_mem _ k1, k2⟩)
    have S3 := J3.suite he hdat na offL offS
    have LT : PySem.W.Looks (model X.prog X.w) g3 (typeOf (.ref a)) cls := fun _ _ _ _ k q => wpAny_typeOf_ref (k _ _ he) (hz.1 ▸ q)
    have all : ∀ {hds2 : List ExceptHandler} {l2 : List (Value × (Addr → Value → Option Addr → TS))}, HdsAs X n hds2 l2 → wAsM X.K i Wout D' l2 cls d σ2 H2 →
        wpAny (model X.prog X.w) X.A (handleBy (.ref a) X.env hds2) (SP X pins D') X.xe { s' with heap := g3 } := by
      intro hds2 l2 hk
      induction hk with
      | nil =>
        intro w
        apply wpAny_handleBy_nil
        obtain ⟨_, _, _, oe2, vs2, Tb, _, _, he2, _, hd2, hv1, _⟩ := id fl3
        unfold PySem.passOn
        refine wpAny_bind (wpAny_field he2 hd2 hv1 ?_)
        rw [if_neg (show ¬ ((Value.ref Tb == Value.none) = true) by simp)]
        have out : wpAny (model X.prog X.w) X.A (setFlight (.ref a) X.env.frame)
            (fun _ s4 => wpAny (model X.prog X.w) X.A (throw (.ref a) : Sem Flow) (SP X pins D') X.xe s4) X.xe { s' with heap := g3 } := by
          rw [hf]
          refine HandSPX.setFlight_upZ fl3 fun g4 hh4 up4 => wpAny_throw (tk _ _ ?_)
          refine ⟨a, B, sI, pins, σ2, H2, cls, d, rfl, J, nb, (up.trans up3).trans up4, .inr (.inr ?_), na, os, ag, w⟩
          exact hs ▸ hh4
        first
          | exact wpAny_bind (wpAny_pure (wpAny_bind out))
          | exact wpAny_bind out
      | @cons x k ts b₀ suite np hp hds3 l3 hc su r ih =>
        intro w
        obtain ⟨b, m, yes, no⟩ := w
        refine wpAny_handleBy_cons (codeAny_handlers_test ?_) (fun q => by cases q)
        have LM := PySem.W.exm_one (M := model X.prog X.w) J3.kIn LT m
        have asked : ∀ {Q : Value → Shared → Prop} {E : Value → Shared → Prop}, Q k { s' with heap := g3 } →
            wpAny (model X.prog X.w) (X.A.mark (some (.ref a))) (eval (.Name x np) X.env) Q E { s' with heap := g3 } := fun {Q E} q => by
          obtain ⟨hg, hdb, hm | ⟨hm, hv, hnn⟩⟩ := hc
          · exact ld_glob (X := X.suite a ((a, oe) :: (X.pn ++ pins))) S3 hg hm q hdb
          · exact ld_blt (X := X.suite a ((a, oe) :: (X.pn ++ pins))) S3 hg hm hv q hnn hdb
        refine asked (LM.here ?_)
        cases b with
        | false => exact ih (no rfl)
        | true =>
          apply codeAny_handlers_suite_as
          refine HandSPX.lands_againZ fl3 fun g4 fl4 up4 => ?_
          have J4 : Inv X pins σ2 H2 { s' with heap := g4 } := J.landed nb fl4.1 ((up.trans up3).trans up4) os ag
          obtain ⟨oe4, vs4, he4, hz4, hdat4⟩ := fl4.there
          refine store_ok (X := X.suite a ((a, oe4) :: (X.pn ++ pins))) (v := .ref a) (J4.suite he4 hdat4 na offL offS) hN hi hlc rfl (fun s5 S5 => ?_) (Or.inr hln)
          refine wpAny_mono ((su a oe4 cls d (X.pn ++ pins) hz4 ⟨_, hdat4⟩).run [] s5 _ H2 _ S5 (yes rfl a na)) (fun fl s6 z => ?_) (fun _ _ z => z.elim)
          have fin : ∀ {σ6 : St} {H6 : Hp} {Q : Shared → Prop}, Inv (X.suite a ((a, oe4) :: (X.pn ++ pins))) [] σ6 H6 s6 → (∀ s7, Inv X pins (σ6.set i none) H6 s7 → Q s7) →
              wpAny (model X.prog X.w) X.A (do bindName X.env n .none; unbindBehindTheSuite X.env n hp) (fun _ s7 => Q s7) X.xe s6 :=
            fun S6 q => gone_ok (S6.unsuite hok) hN hi hln q
          cases fl with
          | next => exact let ⟨_, _, S6, q6⟩ := z; fin S6 fun _ J7 => ⟨_, _, J7, q6⟩
          | brk => exact let ⟨_, _, S6, q6⟩ := z; fin S6 fun _ J7 => ⟨_, _, J7, q6⟩
          | cont => exact let ⟨_, _, S6, q6⟩ := z; fin S6 fun _ J7 => ⟨_, _, J7, q6⟩
          | ret u => exact let ⟨_, _, _, S6, r6, q6⟩ := z; fin S6 fun _ J7 => ⟨_, _, _, J7, r6, q6⟩
    exact all hh w
end
/-! ### isinstance(e, C), the answer True -/
def rIsP (K : PySem.W.Frag) (a C : Addr) : List V → Hp → VK → Prop := fun xs H Q => ∃ (k : V) (B : Addr), xs = [.ref a, k] ∧ (∀ u, RelV k u → u = .ref B) ∧ PySem.W.isIn K (.ref C) B = true ∧ Q (.bl true) H
theorem call_isP {X : Cx} {a C : Addr} {oe : Obj} {d : Option Addr} {pn : List (Addr × Obj)} (hz : Zc (.ref C) d oe) : CallR (X.suite a ((a, oe) :: pn)) (.builtin "isinstance") (rIsP X.K a C) := by
  intro pins s σ H xs us Q I r h
  obtain ⟨k, B, rfl, hk, e, q⟩ := h
  cases r with
  | cons rx rr =>
    cases rr with
    | cons rt rr =>
      cases rr
      cases rx
      have ek := hk _ rt
      subst ek
      obtain ⟨hget, _⟩ := I.pin (a, oe) (List.mem_append.mpr (.inl List.mem_cons_self))
      have ty : ∀ M : Model, PySem.W.Looks M s.heap (typeOf (.ref a)) (.ref C) := fun M A Q E s k q => wpAny_typeOf_ref (k _ _ hget) (hz.1 ▸ q)
      exact PySem.call_isinstance (S := fun _ R s' => s' = s ∧ R (.ok (.ret (.bool true))) s)
        (fun prog w A R s' hs => by
          obtain ⟨hs1, hs2⟩ := hs
          subst hs1
          exact PySem.isinstance_outer (PySem.W.isi_nested I.kIn (ty _) e hs2) (by intro z; cases z))
        ⟨rfl, ⟨.bl true, H, I, rfl, q⟩⟩
end PL
end L2
set_option Elab.async false
set_option linter.all false
set_option maxRecDepth 100000
set_option maxHeartbeats 4000000
namespace L2
namespace PL
open PySem PySem.Spec PyProof.Rows LamX
/-! ### a lambda is made: nothing else changes -/
def MadeT (P : Addr) (q : Str) (H H1 : Hp) : Prop := H1 = H ∨ ∃ (c' : Addr) (ps ps' : Array Value), H P = some (.tbl ps) ∧ H c' = none ∧ H1 = upd (upd H P (.tbl ps')) c' (CodeO c' q)
section
variable {X : Cx} {pins : List (Addr × Obj)} {σ : L2.St} {H : Hp} {s : Shared}
theorem lam_make3 {T : List (Addr × Str)} {c P : Addr} {params : Arguments} {body : Expr} {scope : Scope} {pos : Pos} {E : Value → Shared → Prop} {Q : Value → Shared → Prop} (I : Inv X pins σ H s) (TB : TabB X.base X.mg c P) (hc : X.env.code = .ref c)
    (hm : (P, X.env.qual ++ "<lambda>") ∈ T) (hu : ∀ p ∈ T, p.1 = P → p.2 = X.env.qual ++ "<lambda>") (hT : Tabs T H) (hdef : defaultsOf params X.env = ([], [])) (hfr : ∀ y ∈ scope.names, y.2 = .free → ∃ c, X.env.cells.lookup y.1 = some c)
    (k : ∀ (f c' : Addr) (pm ctv : Value) (H1 : Hp) (s1 : Shared), Inv X pins σ H1 s1 → MadeT P (X.env.qual ++ "<lambda>") H H1 → Tabs T H1 →
      s1.heap.get? f = some (PySem.W.kla_obj "<lambda>" (X.env.qual ++ "<lambda>") params body scope (cloFrom X.env.cells scope.names []) pm c' ctv) →
      H1 f = none → f ∉ frs X.stack → H1 c' = some (CodeO c' (X.env.qual ++ "<lambda>")) → Q (.ref f) s1) :
    wpAny (model X.prog X.w) X.A (eval (.Lambda params body scope pos) X.env) Q E s := by
  obtain ⟨ps, hP, hok, hall⟩ := hT _ hm
  apply PySem.W.kla_eval hdef
  have obP : s.heap.get? P = some { cls := .none, data := .fields ps } := I.hok P _ hP
  have far : ∀ f, s.heap.objs.size ≤ f → f ∉ frs X.stack := fun f hf z => (List.mem_cons.mp (I.stkSub _ z)).elim (fun e => by
    have z1 := I.lt
    rw [← e] at z1
    exact absurd (Nat.lt_of_lt_of_le z1 hf) (Nat.lt_irrefl _)) fun e => I.nofs hf e
  cases hfind : codeAmong pos ps.toList with
  | some cv =>
    obtain ⟨c', e, hco⟩ := hall pos cv hfind
    subst e
    refine PySem.W.kla_makeFunctionHit (mg := X.mg) (c := c) (P := P) (ps := ps) (closure_ok hfr) I.ok.glob (I.mod.glob.keeps I.bk) hc (TB.code.keeps I.bk) obP hok hfind (TB.bm.keeps I.bk) fun ctv h' tk hx hsz => ?_
    refine k h'.objs.size c' ((X.mg "__name__").getD .none) ctv H _ (I.kept (t' := tk) fun b o e => Heap.get?_push_of_some _ (hx b o e)) (.inl rfl) hT (Heap.get?_push_size _ rfl) (I.hok.fresh hsz) (far _ hsz) hco
  | none =>
    refine PySem.W.kla_makeFunction (mg := X.mg) (c := c) (P := P) (ps := ps) (closure_ok hfr) I.ok.glob (I.mod.glob.keeps I.bk) hc (TB.code.keeps I.bk) obP hok hfind TB.gP (TB.bm.keeps I.bk) fun c' ctv h' tk hx hge hlt hrec htb => ?_
    obtain ⟨c2, oc, vs, t, e2, hoc, hdat, hname⟩ := hrec
    cases e2
    have hsz : s.heap.objs.size ≤ h'.objs.size := by omega
    have n0 : H c' = none := I.hok.fresh hge
    have I1 := inv_table (t' := tk) (more := #[rawInt pos.line, rawInt pos.col, .ref c'])
      (h' := h'.push (PySem.W.kla_obj "<lambda>" (X.env.qual ++ "<lambda>") params body scope (cloFrom X.env.cells scope.names []) ((X.mg "__name__").getD .none) c' ctv)) I hP
      (fun b o hb e => Heap.get?_push_of_some _ (hx b o hb e)) (Heap.get?_push_of_some _ htb) hge ⟨oc, vs, t, Heap.get?_push_of_some _ hoc, hdat, hname⟩
    have lst : (ps ++ #[rawInt pos.line, rawInt pos.col, .ref c']).toList = ps.toList ++ [rawInt pos.line, rawInt pos.col, .ref c'] := by simp
    have still : ∀ b o, H b = some o → (∀ qs, o ≠ .tbl qs) → upd (upd H P (.tbl (ps ++ #[rawInt pos.line, rawInt pos.col, .ref c']))) c' (CodeO c' (X.env.qual ++ "<lambda>")) b = some o := fun b o e n => by
      rw [upd_ne (ne_of_none e n0), upd_ne (fun z => n ps (Option.some.inj (e.symm.trans (by rw [z]; exact hP))))]
      exact e
    refine k h'.objs.size c' ((X.mg "__name__").getD .none) ctv _ _ I1 (.inr ⟨c', ps, _, hP, n0, rfl⟩) (fun p hp => ?_) (Heap.get?_push_size _ rfl) ?_ (far _ hsz) upd_same
    · by_cases hb : p.1 = P
      · rw [hu p hp hb, hb]
        refine ⟨_, by rw [upd_ne (ne_of_none hP n0), upd_same], by rw [lst]; exact PySem.TriplesOk_snoc _ _ _ _ hok, fun p2 cv hcv => ?_⟩
        rw [lst] at hcv
        rcases among_app _ hok hcv with z | z
        · obtain ⟨c0, e1, e2⟩ := hall p2 cv z
          exact ⟨c0, e1, still _ _ e2 codeO_ne⟩
        · exact ⟨c', z, upd_same⟩
      · obtain ⟨qs, a1, a2, a3⟩ := hT p hp
        refine ⟨qs, by rw [upd_ne (ne_of_none a1 n0), upd_ne hb]; exact a1, a2, fun p2 cv hcv => ?_⟩
        obtain ⟨c0, e1, e2⟩ := a3 p2 cv hcv
        exact ⟨c0, e1, still _ _ e2 codeO_ne⟩
    · have hPs : P < s.heap.objs.size := Heap.lt_size obP
      rw [upd_ne (Nat.ne_of_gt hlt : h'.objs.size ≠ c'), upd_ne (Nat.ne_of_gt (Nat.lt_of_lt_of_le hPs hsz) : h'.objs.size ≠ P)]
      exact I.hok.fresh hsz
end
def tLamT (T : List (Addr × Str)) (P : Addr) (q : Str) (TT : (XK → Hp → VK → Prop) → Hp → VK → Prop) (t : XK → TE) : TE := fun σ H Q => Tabs T H ∧ ∀ H1, MadeT P q H H1 → Tabs T H1 → TT (fun E H' Q' => t E σ H' Q') H1 Q
/-- x(lambda: body) -/
theorem pe_lamT {X : Cx} {T : List (Addr × Str)} {TT : (XK → Hp → VK → Prop) → Hp → VK → Prop} {x a : Str} {g c P : Addr} {k : Nat} {pg : Arguments} {bg : List Stmt} {sg : Scope} {dV kV doc pm cdv ct oc : Value} {an od : Option Addr} {osl : Array (Option Value)} {Ng : List Str}
    {params : Arguments} {body : Expr} {scope : Scope} {t : XK → TE} {p lpos pos : Pos} (hg : Gl X x) (hm : X.mg x = some (.ref g)) (hk : PySem.W.keepIn X.K (.ref g) = true)
    (lk : X.K.lookup g = some ⟨oc, od, .func (PySem.W.fnOf x x pg bg sg dV kV doc pm an cdv ct), osl⟩) (hcg : PySem.W.codeIn X.K cdv x = true) (hb : L2.Binds X.K (PySem.W.fnOf x x pg bg sg dV kV doc pm an cdv ct) [a] []) (Sg : FnScope Ng [a] sg) (hNg : Ng[0]? = some a) (hva : Vis sg a)
    (hG : GivesTo X Ng x sg g cdv bg a (X.env.qual ++ "<lambda>") TT)
    (TB : TabB X.base X.mg c P) (hcode : X.env.code = .ref c) (hmT : (P, X.env.qual ++ "<lambda>") ∈ T) (hu : ∀ p ∈ T, p.1 = P → p.2 = X.env.qual ++ "<lambda>") (hr : Room (k + 2) X.A) (L : LamS X.env.scope scope) (hdef : defaultsOf params X.env = ([], []))
    (hbind : ∀ (q : Str) (cl : List (Str × Addr)) (pm cv ctv : Value), bindArgs (PySem.W.kla_fn "<lambda>" q params body scope cl pm cv ctv) ⟨[], []⟩ = pure [])
    (hbody : ∀ (A : Around) (outer : List Env) (s : Shared) (H : Hp) (E : XK) (f c' : Addr), Room k (A.deeper (lamEnv X scope s.heap.objs.size f c')) → PE (lamCx X A outer s H E scope f c') body (t E))
    (hdb : (x == ("__debug__" : Str)) = false := by decide) (hd : (a == ("__debug__" : Str)) = false := by decide) (hcd : (a == ("__classdict__" : Str)) = false := by decide) :
    PE X (.Call (.Name x p) [.Lambda params body scope lpos] [] pos) (tLamT T P (X.env.qual ++ "<lambda>") TT t) := by
  constructor
  intro pins s σ H Q I h
  obtain ⟨hT, h⟩ := h
  apply wpAny_Call_Name_kw
  apply ld_glob I hg hm _ hdb
  refine PySem.W.callWith_K (h₀ := X.base) I.ok.mod.kin hk ?_ (by rfl) (by rfl)
  show wpAny _ _ (spliced ((false, eval (.Lambda params body scope lpos) X.env) :: backTo pos (starEach [] X.env))) _ _ s
  refine Calls.spliced_cons (lam_make3 I TB hcode hmT hu hT hdef (L.has I.ok) fun f c' pm' ctv H1 s1 I1 mT T1 hf hfn hfr hco => Calls.spliced_nil ⟨I1.kIn, ?_⟩)
  refine wpAny_call (codeAny_mono (run_ofS (CX := C8.CX0) (Q := Q) (E := C8.E0) (N := Ng) (ps := [a]) (us := [.ref f]) (vs := [.ref f]) lk hcg Sg hr I1.env0 (hb s1 [.ref f] I1.kIn rfl) (.cons rfl .nil) rfl fun hr' => ?_) fun r s2 hq => ?_)
  · obtain ⟨t', ht', hq'⟩ := hG f c' s1 H1 Q (fun E H' Q' => t E σ H' Q')
      (fun W pn xe E p1 p2 tk hW => pe_act (i := 0) I1 L hf hfn hfr (hbind _ _ _ _ _) tk hW hr' (fun A outer s H hr2 => hbody A outer s H E f c' hr2) hNg hva hd hcd) hco (h H1 mT T1)
    exact ⟨t', ht'.nox, hq'⟩
  · cases r with
    | error e => exact (show False from hq).elim
    | ok fl =>
      cases fl with
      | ret u => exact I1.after hq
      | next => exact False.elim hq
      | brk => exact False.elim hq
      | cont => exact False.elim hq
theorem ER.madeT {K : PySem.W.Frag} {c : Cz} {ρ : PEnv} {σ : St} {G H H1 : Hp} {P : Addr} {q : Str} (E : ER K c ρ σ G H) (m : MadeT P q H H1) (tb : Tabs c.T H1) : ER K c ρ σ G H1 ∧ Step (fun _ => False) G H G H1 := by
  rcases m with e | ⟨c', ps, ps', hP, hc, e⟩
  · subst e
    exact ⟨E, Step.refl _ _ _⟩
  · have keep : ∀ b o, H b = some o → (∀ qs, o ≠ .tbl qs) → H1 b = some o := fun b o z n => by
      rw [e, upd_ne (ne_of_none z hc), upd_ne (fun y => n ps (Option.some.inj (z.symm.trans (by rw [y]; exact hP))))]
      exact z
    refine ⟨⟨E.len, fun i s z => ?_, fun b o z => keep b o (E.sub b o z) fun qs y => E.nt b qs (by rw [z, y]), E.nt, E.sep, tb, E.io⟩, Sub.refl _, fun _ _ z => .inl z, fun b o z _ n => keep b o z n, fun b z => ?_, id⟩
    · have y := E.slot i s z
      cases s with
      | un => trivial
      | d x =>
        cases hs : (σ[i]?.getD none) with
        | none => rw [hs] at y; exact y.elim
        | some v => rw [hs] at y; exact y
      | own xs =>
        obtain ⟨a, us, q1, q2, q3, q4⟩ := slot_own E z
        rw [q1]
        exact ⟨a, us, rfl, keep _ _ q2 (fun qs y => by cases y), q3, q4⟩
    · by_cases hb : b = c'
      · rw [hb, e, upd_same] at z; cases z
      · rw [e, upd_ne hb] at z
        by_cases hb2 : b = P
        · rw [hb2, upd_same] at z; cases z
        · rw [upd_ne hb2] at z; exact z
end PL
end L2
set_option Elab.async false
set_option linter.all false
set_option maxRecDepth 100000
set_option maxHeartbeats 4000000
namespace L2
namespace PL
open PySem PySem.Spec PyProof.Rows LamX
/-! ### what a suite says of the exception it holds: slot 2 -/
theorem StepN.trans {G H G1 H1 G2 H2 : Hp} (a : StepN G H G1 H1) (b : StepN G1 H1 G2 H2) : StepN G H G2 H2 where
  g := a.g.trans b.g
  n := fun x o e => by
    rcases b.n x o e with h | h
    · exact a.n x o h
    · cases z : H x with
      | none => exact .inr rfl
      | some u => rw [a.k x u z] at h; cases h
  k := a.k.trans b.k
  s := b.s
  t := fun h => b.t (a.t h)
theorem XR.step {K : PySem.W.Frag} {mg : Str → Option Value} {y : Exn} {C dd : Addr} {G H G' H' : Hp} (x : XR K mg y C dd G H) (t : StepN G H G' H') : XR K mg y C dd G' H' := by
  obtain ⟨h1, fs, h2, h3⟩ := x
  exact ⟨h1, fs, t.k _ _ h2, Paired.mapP h3 fun _ _ z => ⟨z.1, Rep.sub t.g z.2⟩⟩
theorem XR.field {K : PySem.W.Frag} {mg : Str → Option Value} {y : Exn} {C dd : Addr} {G H : Hp} {fl : Str} {d : D} (x : XR K mg y C dd G H) (e : y.fs.lookup fl = some d) : ∃ fs v, H dd = some (.xd fs) ∧ fs.lookup fl = some v ∧ Rep K G v d := by
  obtain ⟨h1, fs, h2, h3⟩ := x
  suffices ∀ {l : List (Str × V)} {m : List (Str × D)}, Paired (fun (p : Str × V) (q : Str × D) => p.1 = q.1 ∧ Rep K G p.2 q.2) l m → m.lookup fl = some d → ∃ v, l.lookup fl = some v ∧ Rep K G v d by
    obtain ⟨v, e1, e2⟩ := this h3 e
    exact ⟨fs, v, h2, e1, e2⟩
  intro l m p
  induction p with
  | nil => intro z; cases z
  | @cons a b as bs hab t ih =>
    intro z
    obtain ⟨a1, a2⟩ := a
    obtain ⟨b1, b2⟩ := b
    obtain ⟨e1, e2⟩ := hab
    have e1' : a1 = b1 := e1
    subst e1'
    rw [List.lookup_cons] at z ⊢
    cases q : fl == a1 with
    | true => rw [q] at z; cases z; exact ⟨a2, rfl, e2⟩
    | false => rw [q] at z; exact ih z
abbrev ZH (X : Cx) (Ng : List Str) (x : Str) (sg : Scope) (g : Addr) (cdg : Value) (s : Shared) (H : Hp) : Cx := (cxOf C8.CX0 X.prog X.w X.K X.mg X.base Ng x sg g cdg X.A X.stack s H C8.E0).nox
section
variable {X : Cx} {Ng : List Str} {x : Str} {sg : Scope} {g : Addr} {cdg : Value} {C : Addr}
variable (X Ng x sg g cdg C) in
def IT (e : Expr) (f : Exn → Option D) : Prop := ∃ t : Addr → Addr → TE,
  (∀ s H a dd oe pn, Zc (.ref C) (some dd) oe → (∃ vs, oe.data = .fields vs) → PE ((ZH X Ng x sg g cdg s H).suite a ((a, oe) :: pn)) e (t a dd)) ∧
  ∀ a dd y σ G H d Q, f y = some d → Sub G H → σ[2]? = some (some (.ref a)) → XR X.K X.mg y C dd G H → (∀ v G' H', StepN G H G' H' → Rep X.K G' v d → Q v H') → t a dd σ H Q
variable (X Ng x sg g cdg C) in
def ITs (es : List Expr) (f : Exn → Option (List D)) : Prop := ∃ t : Addr → Addr → TA,
  (∀ s H a dd oe pn, Zc (.ref C) (some dd) oe → (∃ vs, oe.data = .fields vs) → PA ((ZH X Ng x sg g cdg s H).suite a ((a, oe) :: pn)) es (t a dd)) ∧
  ∀ a dd y σ G H d Q, f y = some d → Sub G H → σ[2]? = some (some (.ref a)) → XR X.K X.mg y C dd G H → (∀ v G' H', StepN G H G' H' → Reps X.K G' v d → Q v H') → t a dd σ H Q
def itC (d : D) : Exn → Option D := fun _ => some d
def itF (fl : Str) : Exn → Option D := fun y => y.fs.lookup fl
def itR (f : Exn → Option D) : Exn → Option D := fun y => (f y).bind fun d => reprF [d]
def itNil : Exn → Option (List D) := fun _ => some []
def itCons (f : Exn → Option D) (r : Exn → Option (List D)) : Exn → Option (List D) := fun y => (f y).bind fun d => (r y).bind fun ds => some (d :: ds)
def itL (r : Exn → Option (List D)) : Exn → Option D := fun y => (r y).bind fun ds => if ds.length ≤ lim then some (.lst ds) else none
def itTup (r : Exn → Option (List D)) : Exn → Option D := fun y => (r y).bind tupF
theorem IT.const {e : Expr} {v : V} {d : D} (hp : ∀ Y : Cx, PE Y e (tC v)) (hd : ∀ G, Rep X.K G v d) : IT X Ng x sg g cdg C e (itC d) :=
  ⟨fun _ _ => tC v, fun _ _ _ _ _ _ _ _ => hp _, fun a dd y σ G H d' Q e s _ _ k => by cases e; exact k v G H (StepN.refl s) (hd G)⟩
theorem IT.str {w : Str} {j : Nat} {pos : Pos} : IT X Ng x sg g cdg C (.Constant (.str w) j pos) (itC (.str w)) := IT.const (fun _ => pe_str) fun _ => .str w
theorem IT.fld {n fl : Str} {p pos : Pos} (T : XfC X.K C) (hno : PySem.W.findIn X.K (.ref C) fl = some none) (hN : Ng[2]? = some n) (hv : Vis sg n) (hd : (n == ("__debug__" : Str)) = false := by decide) (hcd : (n == ("__classdict__" : Str)) = false := by decide)
    (hb : ∀ s H, attributeBase (.Name n p) fl (ZH X Ng x sg g cdg s H).env (eval (.Name n p) (ZH X Ng x sg g cdg s H).env) = eval (.Name n p) (ZH X Ng x sg g cdg s H).env := by exact (fun _ _ => rfl)) : IT X Ng x sg g cdg C (.Attribute (.Name n p) fl pos) (itF fl) :=
  ⟨fun a dd => tXf a (.ref C) (some dd) C fl (tVar 2), fun s H a dd oe pn hz hf => pe_xf (X := ZH X Ng x sg g cdg s H) T hno hz hf (pe_var (i := 2) hN hv hd hcd) (hb s H), fun a dd y σ G H d Q e s hs xr k => by
    obtain ⟨fs, v, e1, e2, e3⟩ := XR.field xr e
    exact ⟨.ref a, hs, rfl, rfl, dd, fs, v, rfl, e1, e2, k v G H (StepN.refl s) e3⟩⟩
theorem ITs.nil : ITs X Ng x sg g cdg C [] itNil := ⟨fun _ _ => tNil, fun _ _ _ _ _ _ _ _ => pa_nil, fun a dd y σ G H d Q e s _ _ k => by cases e; exact k [] G H (StepN.refl s) .nil⟩
theorem ITs.cons {e : Expr} {es : List Expr} {f : Exn → Option D} {r : Exn → Option (List D)} (h : IT X Ng x sg g cdg C e f) (hr : ITs X Ng x sg g cdg C es r) (hst : ∀ env : Env, starEach (e :: es) env = (false, eval e env) :: starEach es env := by exact (fun _ => rfl)) : ITs X Ng x sg g cdg C (e :: es) (itCons f r) := by
  obtain ⟨t, p, q⟩ := h
  obtain ⟨u, p2, q2⟩ := hr
  refine ⟨fun a dd => tCons (t a dd) (u a dd), fun s H a dd oe pn hz hf => pa_cons (p s H a dd oe pn hz hf) (p2 s H a dd oe pn hz hf) (hst _), fun a dd y σ G H d Q e s hs xr k => ?_⟩
  unfold itCons at e
  obtain ⟨d1, e1, e⟩ := Option.bind_eq_some_iff.mp e
  obtain ⟨ds, e2, e⟩ := Option.bind_eq_some_iff.mp e
  cases e
  exact q a dd y σ G H d1 _ e1 s hs xr fun v G1 H1 t1 r1 => q2 a dd y σ G1 H1 ds _ e2 t1.s hs (xr.step t1) fun vs G2 H2 t2 r2 => k _ G2 H2 (t1.trans t2) (.cons (Rep.sub t2.g r1) r2)
theorem IT.lst {es : List Expr} {r : Exn → Option (List D)} {pos : Pos} (h : ITs X Ng x sg g cdg C es r) : IT X Ng x sg g cdg C (.List es pos) (itL r) := by
  obtain ⟨t, p, q⟩ := h
  refine ⟨fun a dd => tLst (t a dd), fun s H a dd oe pn hz hf => pe_lst (p s H a dd oe pn hz hf), fun a dd y σ G H d Q e s hs xr k => ?_⟩
  unfold itL at e
  obtain ⟨ds, e1, e⟩ := Option.bind_eq_some_iff.mp e
  by_cases hl : ds.length ≤ lim
  · rw [if_pos hl] at e
    cases e
    exact q a dd y σ G H ds _ e1 s hs xr fun vs G1 H1 t1 r1 => ⟨by rw [Reps.length r1]; exact lim_ok hl, fun p hp => k _ _ _ (t1.trans (StepN.new t1.s hp)) (.lst upd_same (Reps.sub (StepN.new t1.s hp (o := .lst vs)).g r1))⟩
  · rw [if_neg hl] at e; cases e
theorem IT.tup {es : List Expr} {r : Exn → Option (List D)} {j : Nat} {pos : Pos} (h : ITs X Ng x sg g cdg C es r) : IT X Ng x sg g cdg C (.Tuple es j pos) (itTup r) := by
  obtain ⟨t, p, q⟩ := h
  refine ⟨fun a dd => tTup (t a dd), fun s H a dd oe pn hz hf => pe_tup (p s H a dd oe pn hz hf), fun a dd y σ G H d Q e s hs xr k => ?_⟩
  unfold itTup tupF at e
  obtain ⟨ds, e1, e⟩ := Option.bind_eq_some_iff.mp e
  by_cases hl : ds.length ≤ lim
  · rw [if_pos hl] at e
    cases e
    exact q a dd y σ G H ds _ e1 s hs xr fun vs G1 H1 t1 r1 => ⟨by rw [Reps.length r1]; exact lim_ok hl, fun p hp => k _ _ _ (t1.trans (StepN.new t1.s hp)) (.tup (.inl (.inl upd_same)) (Reps.sub (StepN.new t1.s hp (o := .tup vs)).g r1))⟩
  · rw [if_neg hl] at e; cases e
theorem IT.repr {e : Expr} {f : Exn → Option D} {p pos : Pos} (hgd : X.A.guards = some []) (hu : X.A.units + 103 < cLine) (hgl : sg.names.lookup ("repr" : Str) = some .globalImplicit) (hm : X.mg "repr" = none) (h : IT X Ng x sg g cdg C e f)
    (he : ∀ env : Env, starEach (e :: []) env = (false, eval e env) :: starEach [] env := by exact (fun _ => rfl)) : IT X Ng x sg g cdg C (.Call (.Name "repr" p) [e] [] pos) (itR f) := by
  obtain ⟨t, pe, q⟩ := h
  refine ⟨fun a dd => tCB (rRepr X.K) (tCons (t a dd) tNil), fun s H a dd oe pn hz hf => ?_, fun a dd y σ G H d Q e s hs xr k => ?_⟩
  · exact pe_callB (X := (ZH X Ng x sg g cdg s H).suite a ((a, oe) :: pn)) (cr_repr (X := (ZH X Ng x sg g cdg s H).suite a ((a, oe) :: pn)) hgd (show X.A.units + 3 + 100 < cLine by omega)) hgl hm (by decide +kernel) (pa_cons (pe s H a dd oe pn hz hf) pa_nil (he _)) (by decide) (by decide) (he _) rfl
  · unfold itR at e
    obtain ⟨d1, e1, e⟩ := Option.bind_eq_some_iff.mp e
    exact q a dd y σ G H d1 _ e1 s hs xr fun v G1 H1 t1 r1 => ol_repr (X := X) G1 H1 [v] [d1] d Q t1.s (.cons r1 .nil) e fun w G2 H2 t2 r2 => k w G2 H2 (t1.trans t2) r2
theorem IT.isi {n b : Str} {B : Addr} {p1 p2 p3 pos : Pos} (hin : PySem.W.isIn X.K (.ref C) B = true) (hmb : X.mg b = some (.ref B)) (hgb : sg.names.lookup b = some .globalImplicit) (hN : Ng[2]? = some n) (hv : Vis sg n) (hgl : sg.names.lookup ("isinstance" : Str) = some .globalImplicit) (hm : X.mg "isinstance" = none)
    (hd : (n == ("__debug__" : Str)) = false := by decide) (hcd : (n == ("__classdict__" : Str)) = false := by decide) (hdb : (b == ("__debug__" : Str)) = false := by decide) :
    IT X Ng x sg g cdg C (.Call (.Name "isinstance" p1) [.Name n p2, .Name b p3] [] pos) (itC (.bl true)) := by
  refine ⟨fun a dd => tCB (rIsP X.K a C) (tCons (tVar 2) (tCons (tC (.ref B)) tNil)), fun s H a dd oe pn hz hf => ?_, fun a dd y σ G H d Q e s hs xr k => ?_⟩
  · exact pe_callB (X := (ZH X Ng x sg g cdg s H).suite a ((a, oe) :: pn)) (call_isP (X := ZH X Ng x sg g cdg s H) hz) hgl hm (by decide +kernel) (pa_cons (pe_var (i := 2) hN hv hd hcd) (pa_cons (pe_glob (v := .ref B) hgb hmb rfl hdb) pa_nil rfl) rfl) (by decide) (by decide) rfl rfl
  · cases e
    exact ⟨.ref a, hs, .ref B, B, rfl, fun u z => z, hin, k _ G H (StepN.refl s) (.bl true)⟩
end
end PL
end L2
set_option Elab.async false
set_option linter.all false
set_option maxRecDepth 100000
set_option maxHeartbeats 4000000
namespace L2
namespace PL
open PySem PySem.Spec PyProof.Rows LamX
section
variable {X : Cx} {Ng : List Str} {x : Str} {sg : Scope} {g : Addr} {cdg : Value}
/-- a clause's name, its class, what its suite tells -/
abbrev Cl := Str × Addr × (Exn → Option D)
def hdF : List (Str × (Exn → Option D)) → Exn → Option D
  | [], _ => none
  | (n, f) :: r, y => if y.cls = n then f y else hdF r y
def strip (l : List Cl) : List (Str × (Exn → Option D)) := l.map fun p => (p.1, p.2.2)
abbrev TRd := Addr × (Addr → Addr → TE)
def TRok (K : PySem.W.Frag) (mg : Str → Option Value) (p : TRd) (q : Cl) : Prop := p.1 = q.2.1 ∧ mg q.1 = some (.ref q.2.1) ∧
  ∀ a dd y σ G H d Q, q.2.2 y = some d → Sub G H → σ[2]? = some (some (.ref a)) → XR K mg y q.2.1 dd G H → (∀ v G' H', StepN G H G' H' → Rep K G' v d → Q v H') → p.2 a dd σ H Q
def tsC (p : TRd) : Addr → Value → Option Addr → TS := fun a cls d D' σ H => cls = .ref p.1 ∧ ∃ dd, d = some dd ∧ tAsg (p.2 a dd) (gName 1) D' σ H
variable (X Ng x sg g cdg) in
inductive HC (n tn : Str) : List ExceptHandler → List Cl → Prop
  | nil : HC n tn [] []
  | cons {xn : Str} {C : Addr} {e : Expr} {f : Exn → Option D} {hds : List ExceptHandler} {l : List Cl} {np hp p1 p2 : Pos} (hm : X.mg xn = some (.ref C)) (hg : sg.names.lookup xn = some .globalImplicit) (hdb : (xn == ("__debug__" : Str)) = false) (it : IT X Ng x sg g cdg C e f)
      (hs : ∀ env : Env, swapsWith e (some (.Name tn p1)) p2.line env = pure false) (r : HC n tn hds l) : HC n tn (.ExceptHandler (some (.Name xn np)) (some n) [.Assign [.Name tn p1] e p2] hp :: hds) ((xn, C, f) :: l)
theorem HC.pick {n tn : Str} (hN : Ng.Nodup) (h1 : Ng[1]? = some tn) (hl1 : sg.names.lookup tn = some .local) {hds : List ExceptHandler} {l : List Cl} (h : HC X Ng x sg g cdg n tn hds l) :
    ∃ lt : List TRd, (∀ s H, HdsAs (ZH X Ng x sg g cdg s H) n hds (lt.map fun p => (.ref p.1, tsC p))) ∧ Paired (TRok X.K X.mg) lt l := by
  induction h with
  | nil => exact ⟨[], fun _ _ => .nil, .nil⟩
  | @cons xn C e f hds l np hp p1 p2 hm hg hdb it hs r ih =>
    obtain ⟨lt, q1, q2⟩ := ih
    obtain ⟨t, pt, qt⟩ := it
    refine ⟨(C, t) :: lt, fun s H => .cons ⟨hg, hdb, .inl hm⟩ (fun a oe cls d pn hz hf => ?_) (q1 s H), .cons ⟨rfl, hm, fun a dd y σ G H d Q e1 s hs xr k => qt a dd y σ G H d Q e1 s hs xr k⟩ q2⟩
    refine ⟨fun pins s' σ H' D' I hh => ?_⟩
    obtain ⟨ec, dd, ed, hh⟩ := hh
    have ec' : cls = .ref C := ec
    subst ec'
    subst ed
    exact (pss_one (ps_set (X := (ZH X Ng x sg g cdg s H).suite a ((a, oe) :: pn)) (i := 1) hN h1 (.inl hl1) (pt s H a dd oe pn hz hf) (hs _) (.inr hl1))).run pins s' σ H' D' I hh
/-! ### told first, told of the call -/
inductive IniE : Expr → Option Str → Prop
  | non {j : Nat} {p : Pos} : IniE (.Constant .none j p) none
  | lst {w : Str} {j : Nat} {p q : Pos} : IniE (.List [.Constant (.str w) j p] q) (some w)
def tIni : Option Str → TE
  | none => tC .non
  | some w => tLst (tCons (tC (.str w)) tNil)
theorem IniE.pe {e : Expr} {i : Option Str} (h : IniE e i) (Y : Cx) : PE Y e (tIni i) := by
  cases h with
  | non => exact pe_non
  | lst => exact pe_lst (pa_cons pe_str pa_nil rfl)
inductive WrapE (a : Str) : Expr → Option Str → Prop
  | call {p1 p2 : Pos} : WrapE a (.Call (.Name a p1) [] [] p2) none
  | lst {w : Str} {j : Nat} {p p1 p2 q : Pos} : WrapE a (.List [.Constant (.str w) j p, .Call (.Name a p1) [] [] p2] q) (some w)
def tWrap (t : TE) : Option Str → TE
  | none => t
  | some w => tLst (tCons (tC (.str w)) (tCons t tNil))
theorem WrapE.pe {a : Str} {e : Expr} {i : Option Str} (h : WrapE a e i) (Y : Cx) {t : TE} (ht : ∀ p1 p2, PE Y (.Call (.Name a p1) [] [] p2) t) : PE Y e (tWrap t i) := by
  cases h with
  | call => exact ht _ _
  | lst => exact pe_lst (pa_cons pe_str (pa_cons (ht _ _) pa_nil rfl) rfl)
def iniP (i : Option Str) (H : Hp) (k : V → Hp → Prop) : Prop := match i with
  | none => k .non H
  | some w => ∀ p, H p = none → k (.ref p) (upd H p (.lst [.str w]))
def wrapP (i : Option Str) (v : V) (H : Hp) (Q : VK) : Prop := match i with
  | none => Q v H
  | some w => ∀ p, H p = none → Q (.ref p) (upd H p (.lst [.str w, v]))
def EHx (K : PySem.W.Frag) (Q : VK) : List TRd → XK
  | [] => fun _ _ _ => False
  | p :: r => fun cls d H => ∃ b, PySem.W.exmOne K cls (.ref p.1) = some b ∧ (b = true → cls = .ref p.1 ∧ ∃ dd, d = some dd ∧ ∀ a, H a = none → ∀ (σ : St) (Q' : VK), σ[2]? = some (some (.ref a)) → (∀ v H', Q v H' → Q' v H') → p.2 a dd σ H Q') ∧ (b = false → EHx K Q r cls d H)
def TTh (K : PySem.W.Frag) (ini wr : Option Str) (lt : List TRd) : (XK → Hp → VK → Prop) → Hp → VK → Prop := fun tl H Q =>
  iniP ini H fun _ H0 => ∀ Q' : VK, (∀ v H1, wrapP wr v H1 Q → Q' v H1) → tl (EHx K Q lt) H0 Q'
theorem EHx.was {K : PySem.W.Frag} {Q : VK} {D' : Ends} (hD : ∀ (σ : St) (v : V) (H : Hp), σ.length = 3 → Q v H → D'.nx ((σ.set 1 (some v)).set 2 none) H) : ∀ {lt : List TRd} {cls : Value} {d : Option Addr} {σ : St} {H : Hp}, σ.length = 3 → EHx K Q lt cls d H →
    wAsM K 2 (fun _ _ _ _ => False) D' (lt.map fun p => (.ref p.1, tsC p)) cls d σ H
  | [], _, _, _, _, _, h => h
  | p :: r, cls, d, σ, H, hl, h => by
    obtain ⟨b, e, yes, no⟩ := h
    refine ⟨b, e, fun hb a na => ?_, fun hb => EHx.was hD hl (no hb)⟩
    obtain ⟨h1, dd, h2, h3⟩ := yes hb
    refine ⟨h1, dd, h2, h3 a na _ _ (List.getElem?_set_self (by omega)) fun v H' q => ?_⟩
    exact hD _ v H' (by rw [List.length_set]; exact hl) q
theorem takes_len {Y : Cx} {W : WX} (t : Takes Y W) : Takes Y (fun cls d σ H => σ.length = Y.N.length → W cls d σ H) := fun u s' ⟨a, B, sI, pins, σ, H, cls, d, e, I, nb, up, sky, na, os, ag, w⟩ =>
  t u s' ⟨a, B, sI, pins, σ, H, cls, d, e, I, nb, up, sky, na, os, ag, w I.len⟩
theorem heard_gives {a tn n q : Str} {ei ew : Expr} {ini wr : Option Str} {h0 : ExceptHandler} {hds : List ExceptHandler} {lt : List TRd} {pa pb pc pd pt pr pr2 : Pos} (hN : Ng.Nodup) (hl3 : Ng.length = 3) (h1 : Ng[1]? = some tn) (h2 : Ng[2]? = some n) (l1 : sg.names.lookup tn = some .local) (l2 : sg.names.lookup n = some .local)
    (d1 : (tn == ("__debug__" : Str)) = false) (d2 : (tn == ("__classdict__" : Str)) = false) (hi : IniE ei ini) (hw : WrapE a ew wr) (hh : ∀ s H, HdsAs (ZH X Ng x sg g cdg s H) n (h0 :: hds) (lt.map fun p => (.ref p.1, tsC p)))
    (hs1 : ∀ env : Env, swapsWith ei (some (.Name tn pa)) pb.line env = pure false) (hs2 : ∀ env : Env, swapsWith ew (some (.Name tn pc)) pd.line env = pure false) :
    GivesTo X Ng x sg g cdg [.Assign [.Name tn pa] ei pb, .Try [.Assign [.Name tn pc] ew pd] (h0 :: hds) [] [] pt, .Return (some (.Name tn pr)) pr2] a q (TTh X.K ini wr lt) := by
  intro f c' s H Q tl act hc h
  have hst : L2.start Ng [V.ref f] = [some (.ref f), none, none] := by
    unfold L2.start
    rw [hl3]
    rfl
  refine ⟨_, pss_cons (ps_set (X := ZH X Ng x sg g cdg s H) (i := 1) hN h1 (.inl l1) (hi.pe _) (hs1 _) (.inr l1)) (pss_cons (ps_tryAs (X := ZH X Ng x sg g cdg s H) (n := n) (i := 2)
    (tb := fun W D σ H => (∀ cls d σ' H', σ'.length = 3 → EHx X.K Q lt cls d H' → W cls d σ' H') ∧ tAsg (tWrap (fun σZ HZ Q' => σZ[0]? = some (some (.ref f)) ∧ HZ c' = some (CodeO c' q) ∧ tl (EHx X.K Q lt) HZ Q') wr) (gName 1) D σ H)
    rfl rfl hN h2 l2 takes0 (fun W pn xe tk _ => ?_) (hh s H)) (pss_one (ps_ret (pe_var (i := 1) h1 (.inl l1) d1 d2)))), ?_⟩
  · refine ⟨fun pins s' σ H' D' I hh' => ?_⟩
    obtain ⟨hW, h3⟩ := hh'
    have hp := fun p1 p2 => act _ pn xe (EHx X.K Q lt) p1 p2 (takes_len tk) (fun cls d σ' H' e hl => hW cls d σ' H' (hl.trans hl3) e)
    exact (pss_one (ps_set (X := (ZH X Ng x sg g cdg s H).tr pn xe) (i := 1) hN h1 (.inl l1) (hw.pe _ hp) (hs2 _) (.inr l1))).run pins s' σ H' D' I h3
  · rw [hst]
    have hD : ∀ (σ : St) (v : V) (H : Hp), σ.length = 3 → Q v H → ∃ v', ((σ.set 1 (some v)).set 2 none)[1]? = some (some v') ∧ Q v' H := fun σ v H hl q => ⟨v, by rw [List.getElem?_set_ne (by decide), List.getElem?_set_self (by omega)], q⟩
    have tl_ok : ∀ (v0 : V) (H0 : Hp), H0 c' = some (CodeO c' q) → (∀ Q' : VK, (∀ v H1, wrapP wr v H1 Q → Q' v H1) → tl (EHx X.K Q lt) H0 Q') → ∀ D' : Ends, D'.nx = (fun σ H => ∃ v, σ[1]? = some (some v) ∧ Q v H) →
        (∀ cls d σ' H', σ'.length = 3 → EHx X.K Q lt cls d H' → wAsM X.K 2 (fun _ _ _ _ => False) D' (lt.map fun p => (.ref p.1, tsC p)) cls d σ' H') ∧ tAsg (tWrap (fun σZ HZ Q' => σZ[0]? = some (some (.ref f)) ∧ HZ c' = some (CodeO c' q) ∧ tl (EHx X.K Q lt) HZ Q') wr) (gName 1) D' [some (.ref f), some v0, none] H0 := fun v0 H0 hc0 k D' eD => by
      refine ⟨fun cls d σ' H' hl e => EHx.was (fun σ v H hl q => by rw [eD]; exact hD σ v H hl q) hl e, ?_⟩
      unfold tAsg gName
      rw [eD]
      cases wr with
      | none => exact ⟨rfl, hc0, k _ fun v H1 q => ⟨v, rfl, q⟩⟩
      | some w => exact ⟨rfl, hc0, k _ fun v H1 q => ⟨show 2 ≤ sizeLine by decide, fun p hp => ⟨_, rfl, q p hp⟩⟩⟩
    cases ini with
    | none => exact tl_ok .non H hc h _ rfl
    | some w => exact ⟨show 1 ≤ sizeLine by decide, fun p hp => tl_ok (.ref p) _ (by rw [upd_ne (ne_of_none hc hp)]; exact hc) (h p hp) _ rfl⟩
end
/-! ### heard(lambda: e) at the caller -/
def wrapF : Option Str → D → D
  | none, d => d
  | some w, d => .lst [.str w, d]
def heardE (wr : Option Str) (hd : List (Str × (Exn → Option D))) (g : GE D) : GE D := fun ρ => match g ρ with
  | .ok d ρ1 => .ok (wrapF wr d) ρ1
  | .er y ρ1 => ofOpt (hdF hd y) ρ1
  | .bad => .bad
end PL
end L2
set_option Elab.async false
set_option linter.all false
set_option maxRecDepth 100000
set_option maxHeartbeats 4000000
namespace L2
namespace PL
open PySem PySem.Spec PyProof.Rows LamX
section
variable {K : PySem.W.Frag} {mg : Str → Option Value}
def ExM (K : PySem.W.Frag) (l : List Cl) : Prop := ∀ a ∈ l, ∀ b ∈ l, PySem.W.exmOne K (.ref a.2.1) (.ref b.2.1) = some (decide (b.1 = a.1))
theorem hdF_mem : ∀ {l : List Cl} {y : Exn} {d : D}, hdF (strip l) y = some d → ∃ a ∈ l, a.1 = y.cls
  | [], _, _, h => by cases h
  | q :: l, y, d, h => by
    have h' : (if y.cls = q.1 then q.2.2 y else hdF (strip l) y) = some d := h
    by_cases e : y.cls = q.1
    · exact ⟨q, List.mem_cons_self, e.symm⟩
    · rw [if_neg e] at h'
      obtain ⟨a, h1, h2⟩ := hdF_mem h'
      exact ⟨a, List.mem_cons_of_mem _ h1, h2⟩
theorem EHx.of {y : Exn} {d : D} {C dd : Addr} {G H : Hp} {Q : VK} (sb : Sub G H) (xr : XR K mg y C dd G H) (k : ∀ v G' H', StepN G H G' H' → Rep K G' v d → Q v H') : ∀ {lt : List TRd} {l : List Cl}, Paired (TRok K mg) lt l → hdF (strip l) y = some d →
    (∀ q ∈ l, PySem.W.exmOne K (.ref C) (.ref q.2.1) = some (decide (q.1 = y.cls))) → EHx K Q lt (.ref C) (some dd) H := by
  intro lt l p
  induction p with
  | nil => intro h; cases h
  | @cons p q ps qs h t ih =>
    intro e hM
    have e' : (if y.cls = q.1 then q.2.2 y else hdF (strip qs) y) = some d := e
    obtain ⟨h1, h2, h3⟩ := h
    refine ⟨decide (q.1 = y.cls), by rw [h1]; exact hM q List.mem_cons_self, fun hb => ?_, fun hb => ?_⟩
    · have eq : q.1 = y.cls := of_decide_eq_true hb
      rw [if_pos eq.symm] at e'
      have eC : C = q.2.1 := by
        have z := xr.1
        rw [← eq, h2] at z
        exact (Value.ref.inj (Option.some.inj z)).symm
      rw [eC] at xr
      exact ⟨by rw [h1, eC], dd, rfl, fun a na σ Q' hs hQ => h3 a dd y σ G H d Q' e' sb hs xr fun v G' H' st r => hQ v H' (k v G' H' st r)⟩
    · have ne : ¬ q.1 = y.cls := of_decide_eq_false hb
      rw [if_neg (fun z => ne z.symm)] at e'
      exact ih e' fun q hq => hM q (List.mem_cons_of_mem _ hq)
end
section
variable {X : Cx} {c : Cz} {W : WX}
theorem heard_sem {P : Addr} {q : Str} {ini wr : Option Str} {lt : List TRd} {l : List Cl} {ge : GE D} (hP : Paired (TRok X.K X.mg) lt l) (hM : ExM X.K l) (hmg : ∀ a ∈ l, X.mg a.1 = some (.ref a.2.1)) : ∀ ρ σ G H Q, ER X.K c ρ σ G H → Gd X c W ρ σ G H (heardE wr (strip l) ge ρ) (RV X) Q →
    tLamT c.T P q (TTh X.K ini wr lt) (fun E => tP X c (wE E) ge) σ H Q := fun ρ σ G H Q E hq => by
  refine ⟨E.tabs, fun H1 m tb => ?_⟩
  obtain ⟨E1, st1⟩ := E.madeT m tb
  have hq1 : Gd X c W ρ σ G H1 (heardE wr (strip l) ge ρ) (RV X) Q := Gd.shift hq (st1.mono fun _ z => z.elim) (OwnS.refl _ _ _)
  -- from any state that goes on from there
  have main : ∀ H0, ER X.K c ρ σ G H0 → Gd X c W ρ σ G H0 (heardE wr (strip l) ge ρ) (RV X) Q → ∀ Q' : VK, (∀ v H1, wrapP wr v H1 Q → Q' v H1) → tP X c (wE (EHx X.K Q lt)) ge σ H0 Q' := fun H0 E0 h Q' hQ => by
    refine ⟨ρ, G, E0, ?_⟩
    unfold heardE at h
    cases eg : ge ρ with
    | bad => rw [eg] at h; exact h
    | ok d ρ1 =>
      rw [eg] at h
      intro v G' H' E' st ow r
      apply hQ
      cases wr with
      | none => exact h v G' H' E' st ow r
      | some w =>
        intro p hp
        have sn : StepN G' H' (upd G' p (.lst [.str w, v])) (upd H' p (.lst [.str w, v])) := StepN.new E'.sub hp
        exact h (.ref p) _ _ (E'.stepN sn) (st.trans (sn.step (Own ρ σ)) fun _ z => .inl z) ow (.lst upd_same (.cons (.str w) (.cons (Rep.sub sn.g r) .nil)))
    | er y ρ1 =>
      rw [eg] at h
      intro C dd G' H' E' st ow xr
      have h' : Gd X c W ρ σ G H0 (ofOpt (hdF (strip l) y) ρ1) (RV X) Q := h
      cases ed : hdF (strip l) y with
      | none => rw [ed] at h'; exact h'.elim
      | some d =>
        rw [ed] at h'
        obtain ⟨a, ha, ea⟩ := hdF_mem ed
        have eC : C = a.2.1 := by
          have z := xr.1
          rw [← ea, hmg a ha] at z
          exact (Value.ref.inj (Option.some.inj z)).symm
        refine EHx.of E'.sub xr (fun v G2 H2 sn r => h' v G2 H2 (E'.stepN sn) (st.trans (sn.step (Own ρ σ)) fun _ z => .inl z) ow r) hP ed fun q hq => ?_
        rw [eC, ← ea]
        exact hM a ha q hq
  unfold TTh
  cases ini with
  | none => exact main H1 E1 hq1
  | some w =>
    intro p hp
    have sn : StepN G H1 G (upd H1 p (.lst [.str w])) := ⟨Sub.refl G, fun _ _ e => .inl e, fun b u e => by rw [upd_ne (ne_of_none e hp)]; exact e, fun b u e => by
      have e' := E1.sub b u e
      rw [upd_ne (ne_of_none e' hp)]; exact e', id⟩
    exact main _ (E1.stepN sn) (Gd.shift hq1 (sn.step _) (OwnS.refl _ _ _))
/-- x(lambda: e), x tells what e tells and what it lets out -/
theorem EX.heard {x a tn n : Str} {st : Stmt} {g : Addr} {fd : FuncData} {Ng : List Str} {k : Nat} {C P : Addr} {ei ew : Expr} {ini wr : Option Str} {h0 : ExceptHandler} {hds : List ExceptHandler} {l : List Cl} {pa pb pc pd pt pr pr2 p lpos pos : Pos} {params : Arguments} {body : Expr} {scope : Scope} {ge : GE D} {hdl : List (Str × (Exn → Option D))}
    (F : Fun X.K x x st g fd) (S : FnScope Ng [a] (defScope st)) (hb : L2.Binds X.K fd [a] []) (hbd : defBody st = [.Assign [.Name tn pa] ei pb, .Try [.Assign [.Name tn pc] ew pd] (h0 :: hds) [] [] pt, .Return (some (.Name tn pr)) pr2])
    (hHC : ∀ cdg, HC X Ng x (defScope st) g cdg n tn (h0 :: hds) l) (hM : ExM X.K l) (hmg : ∀ a ∈ l, X.mg a.1 = some (.ref a.2.1)) (hdl' : strip l = hdl) (hl3 : Ng.length = 3) (h00 : Ng[0]? = some a) (h1 : Ng[1]? = some tn) (h2 : Ng[2]? = some n) (hva : Vis (defScope st) a) (l1 : (defScope st).names.lookup tn = some .local) (l2 : (defScope st).names.lookup n = some .local)
    (d1 : (tn == ("__debug__" : Str)) = false) (d2 : (tn == ("__classdict__" : Str)) = false) (hi : IniE ei ini) (hw : WrapE a ew wr)
    (hs1 : ∀ env : Env, swapsWith ei (some (.Name tn pa)) pb.line env = pure false) (hs2 : ∀ env : Env, swapsWith ew (some (.Name tn pc)) pd.line env = pure false)
    (hm : X.mg x = some (.ref g)) (hk : PySem.W.keepIn X.K (.ref g) = true) (TB : TabB X.base X.mg C P) (hcode : X.env.code = .ref C) (hmT : (P, X.env.qual ++ "<lambda>") ∈ c.T) (hu : ∀ p ∈ c.T, p.1 = P → p.2 = X.env.qual ++ "<lambda>") (hr : Room (k + 2) X.A) (L : LamS X.env.scope scope) (hdef : defaultsOf params X.env = ([], []))
    (hbind : ∀ (q : Str) (cl : List (Str × Addr)) (pm cv ctv : Value), bindArgs (PySem.W.kla_fn "<lambda>" q params body scope cl pm cv ctv) ⟨[], []⟩ = pure [])
    (hbody : ∀ (A : Around) (outer : List Env) (s : Shared) (H : Hp) (E : XK) (f c' : Addr), Room k (A.deeper (lamEnv X scope s.heap.objs.size f c')) → EX (lamCx X A outer s H E scope f c') c (wE E) body ge)
    (hg : Gl X x := by rfl) (hdb : (x == ("__debug__" : Str)) = false := by decide) (hd : (a == ("__debug__" : Str)) = false := by decide) (hcd : (a == ("__classdict__" : Str)) = false := by decide) :
    EX X c W (.Call (.Name x p) [.Lambda params body scope lpos] [] pos) (heardE wr hdl ge) := by
  subst hdl'
  obtain ⟨oc, od, kV, doc, pm, an, cdv, ct, osl, e, lk, hcd'⟩ := F.ex
  obtain ⟨lt, q1, q2⟩ := HC.pick S.nd h1 l1 (hHC cdv)
  refine ⟨_, pe_lamT (T := c.T) (TT := TTh X.K ini wr lt) (k := k) (t := fun E => tP X c (wE E) ge) hg hm hk (e ▸ lk) hcd' (e ▸ hb) S h00 hva ?_ TB hcode hmT hu hr L hdef hbind (fun A outer s H E f c' hr2 => (hbody A outer s H E f c' hr2).pe) hdb hd hcd, heard_sem q2 hM hmg⟩
  rw [hbd]
  exact heard_gives S.nd hl3 h1 h2 l1 l2 d1 d2 hi hw q1 hs1 hs2
end
end PL
end L2
set_option Elab.async false
set_option linter.all false
set_option maxRecDepth 100000
set_option maxHeartbeats 4000000
namespace L2
namespace PL
open PySem PySem.Spec PyProof.Rows LamX
/-! ### defs that make lambdas: their code object is known -/
structure FunL (K : PySem.W.Frag) (x qual : Str) (st : Stmt) (f : Addr) (fd : FuncData) (C : Addr) : Prop where
  ex : ∃ (oc : Value) (od : Option Addr) (kV doc pm : Value) (an : Option Addr) (ct : Value) (osl : Array (Option Value)),
    fd = PySem.W.fnOf x qual (defArgs st) (defBody st) (defScope st) .none kV doc pm an (.ref C) ct ∧ K.lookup f = some ⟨oc, od, .func fd, osl⟩ ∧ PySem.W.codeIn K (.ref C) qual = true
  kp : PySem.W.keepIn K (.ref f) = true
theorem FunL.fun {K : PySem.W.Frag} {x qual : Str} {st : Stmt} {f : Addr} {fd : FuncData} {C : Addr} (F : FunL K x qual st f fd C) : Fun K x qual st f fd := by
  obtain ⟨oc, od, kV, doc, pm, an, ct, osl, e⟩ := F.ex
  exact ⟨⟨oc, od, kV, doc, pm, an, _, ct, osl, e⟩, F.kp⟩
section
variable {P : Program} {w : World} {K : PySem.W.Frag} {mg : Str → Option Value} {base : Heap} {k : Nat} {f : Addr} {fd : FuncData} {ps N : List Str} {sp : Sp} {x qual : Str} {st : Stmt} {T : List (Addr × Str)} {n m : Nat} {g : GS} {C : Addr}
theorem fnL_of (F : FunL K x qual st f fd C) (S : FnScope N ps (defScope st)) (len : ∀ vs H Q E, sp vs H Q E → vs.length = ps.length)
    (hbody : ∀ (A : Around) (outer : List Env) (s : Shared) (H : Hp) (vs : List V) (Q : VK) (E : XK), Room k (A.deeper (envOfC qual (defScope st) s.heap.objs.size f (.ref C))) → A.guards = some [] → sp vs H Q E →
      ∃ t, PSs (cxOf (L2.CX P w) P w K mg base N qual (defScope st) f (.ref C) A outer s H E) (defBody st) t ∧ t { nx := fun _ H' => Q .non H', rt := Q } (start N vs) H) : FnG P w K mg base (k + 1) f fd ps sp := by
  obtain ⟨oc, od, kV, doc, pm, an, ct, osl, e, lk, hcd⟩ := F.ex
  refine ⟨len, fun A outer s H args us vs Q E hr hgd e0 hb r hsp => ?_⟩
  exact LamX.run_ofS (CX := L2.CX P w) (P := P) (w := w) (mg := mg) (base := base) (k := k) (N := N) (ps := ps) (A := A) (outer := outer) (s := s) (H := H) (args := args) (us := us) (vs := vs) (Q := Q) (E := E) (e ▸ lk) hcd S hr e0 (e ▸ hb) r (len vs H Q E hsp) fun hr2 => hbody A outer s H vs Q E hr2 hgd hsp
theorem pure_GL (F : FunL K x qual st f fd C) (S : FnScope N ps (defScope st)) (hn : ps.length = n) (hN : N.length = n + m)
    (hg : ∀ (A : Around) (outer : List Env) (s : Shared) (H : Hp) (E : XK), Room k (A.deeper (envOfC qual (defScope st) s.heap.objs.size f (.ref C))) → A.guards = some [] → SXs (cxOf (L2.CX P w) P w K mg base N qual (defScope st) f (.ref C) A outer s H E) (czP T) (wE E) (defBody st) g) :
    FnG P w K mg base (k + 1) f fd ps (spP K mg T n (runP g m)) :=
  fnL_of F S (fun vs H Q E h => h.1.trans hn.symm) fun A outer s H vs Q E hr hgd hsp => body_P (X := cxOf (L2.CX P w) P w K mg base N qual (defScope st) f (.ref C) A outer s H E) (hg A outer s H E hr hgd) hN hsp
theorem io_GL (F : FunL K x qual st f fd C) (S : FnScope N ps (defScope st)) (hn : ps.length = n) (hN : N.length = n + m)
    (hg : ∀ (A : Around) (outer : List Env) (s : Shared) (H : Hp) (E : XK) (a : Addr), Room k (A.deeper (envOfC qual (defScope st) s.heap.objs.size f (.ref C))) → A.guards = some [] → SXs (cxOf (L2.CX P w) P w K mg base N qual (defScope st) f (.ref C) A outer s H E) (czIO T a) (wE E) (defBody st) g) :
    FnG P w K mg base (k + 1) f fd ps (spIO K mg T n (runIO g m)) :=
  fnL_of F S (fun vs H Q E h => h.1.trans hn.symm) fun A outer s H vs Q E hr hgd hsp => body_IO (X := cxOf (L2.CX P w) P w K mg base N qual (defScope st) f (.ref C) A outer s H E) (fun a => hg A outer s H E a hr hgd) hN hsp
end
theorem takes_lam {X : Cx} {A : Around} {outer : List Env} {s : Shared} {H : Hp} {E : XK} {scope : Scope} {f c' : Addr} : Takes (lamCx X A outer s H E scope f c') (wE E) := takes_of rfl rfl rfl rfl
theorem pass_lam {X : Cx} {A : Around} {outer : List Env} {s : Shared} {H : Hp} {E : XK} {scope : Scope} {f c' : Addr} : ∀ σ, PassesAt (L2.CX X.prog X.w) (lamCx X A outer s H E scope f c') σ (WE (wE E) σ) := passAt takes_lam
/-! ### the end -/
def lawG (K : PySem.W.Frag) (a : Addr) (o : Obj) (xs : List V) : Hp := fun b => if b = a ∧ (K.lookup a).isNone = true then some (.frz o (.lst xs)) else none
def lawH (K : PySem.W.Frag) (ts : List Addr) (a : Addr) (o : Obj) (xs : List V) : Hp := fun b => if b ∈ ts then some (.tbl #[]) else lawG K a o xs b
section
variable {K : PySem.W.Frag} {ts : List Addr} {a b : Addr} {o : Obj} {xs : List V} {u : HO}
theorem lawG_some (h : lawG K a o xs b = some u) : b = a ∧ K.lookup a = none ∧ u = .frz o (.lst xs) := by
  unfold lawG at h
  by_cases q : b = a ∧ (K.lookup a).isNone = true
  · rw [if_pos q] at h
    cases h
    exact ⟨q.1, by cases z : K.lookup a with | none => rfl | some w => (have y := q.2; rw [z] at y; cases y), rfl⟩
  · rw [if_neg q] at h; cases h
theorem lawH_some (h : lawH K ts a o xs b = some u) : (b ∈ ts ∧ u = .tbl #[]) ∨ (b ∉ ts ∧ b = a ∧ K.lookup a = none ∧ u = .frz o (.lst xs)) := by
  unfold lawH at h
  by_cases q : b ∈ ts
  · rw [if_pos q] at h; cases h; exact .inl ⟨q, rfl⟩
  · rw [if_neg q] at h; exact .inr ⟨q, lawG_some h⟩
theorem lawH_tbl (h : b ∈ ts) : lawH K ts a o xs b = some (.tbl #[]) := if_pos h
theorem lawG_sub (ha : a ∉ ts) : Sub (lawG K a o xs) (lawH K ts a o xs) := fun b u e => by
  obtain ⟨e1, _, _⟩ := lawG_some e
  unfold lawH
  rw [if_neg (by rw [e1]; exact ha)]
  exact e
theorem lawG_nt : NT (lawG K a o xs) := fun b ps e => by
  obtain ⟨_, _, z⟩ := lawG_some e
  cases z
end
/-- the law's call: its promise is told by f, f answers True -/
theorem law_callG {P : Program} {w : World} {K : PySem.W.Frag} {mg mb : Str → Option Value} {k : Nat} {fa a : Addr} {cs : List (Addr × Addr)} {T : List (Addr × Str)} {fd : FuncData} {x : Str} {f : List D → Rs} {s1 : Shared} {vs : List Value} {ns : List Int}
    (KX : K.In s1.heap) (gl : s1.heap.Ns mainGlobals mg) (bt : s1.heap.Ns builtinsNs mb) (bb : ∀ x : Str, x ≠ "__name__" → mb x = bootBuiltins x) (lm : s1.heap.NoLimit) (gn : s1.gens = #[])
    (tb : ∀ p ∈ cs, s1.heap.get? p.2 = some { cls := .none, data := .fields #[] }) (tK : ∀ p ∈ cs, K.lookup p.2 = none) (hd : ∀ p ∈ cs, PySem.W.CodeHd s1.heap p.1 p.2) (hT : ∀ q ∈ T, q.1 ∈ cs.map (·.2))
    (bmain : ∃ (bm : Addr) (ob : Obj), mg "__builtins__" = some (.ref bm) ∧ bm ≠ builtinsNs ∧ s1.heap.get? bm = some ob ∧ ob.cls = .type "module" ∧ ob.dict = some builtinsNs ∧ ob.data = .plain)
    (sa : s1.heap.get? a = some { cls := .type "list", data := .seq vs.toArray }) (ia : IntsAre vs ns) (ln : ns.length ≤ sizeLine) (hr : Room k callerA)
    (F : ∀ base : Heap, K.In base → base.Ns mainGlobals mg → (∀ p ∈ cs, TabB base mg p.1 p.2) → FnG P w K mg base k fa fd [x] (spP K mg T 1 f)) (bd : ∀ (s : Shared) (u : Value), BindsTo s fd ⟨[u], []⟩ [(x, u)])
    (hf : f [.fz (ns.map .int)] = .ok (.bl true)) :
    codeAny (model P w) callerA (.call (.ref fa) ⟨[.ref a], []⟩) (fun r s' => r = .ok (.ret (.bool true)) ∧ OldK s1.heap s'.heap ∧ s'.os = s1.os ∧ AllBare s'.gens) s1 := by
  let oa : Obj := { cls := .type "list", data := .seq vs.toArray }
  let ts := cs.map (·.2)
  let xs := ns.map V.int
  have eG : ∃ G, G = lawG K a oa xs := ⟨_, rfl⟩
  have eH : ∃ H, H = lawH K ts a oa xs := ⟨_, rfl⟩
  obtain ⟨G, eG⟩ := eG
  obtain ⟨H, eH⟩ := eH
  have rv : Vals xs vs := vals_ints ia
  have size : vs.toArray.size ≤ sizeLine := by rw [List.size_toArray, ia.length]; exact ln
  have tabAt : ∀ {b}, b ∈ ts → s1.heap.get? b = some { cls := .none, data := .fields #[] } ∧ K.lookup b = none := fun {b} h => by
    obtain ⟨p, h1, h2⟩ := List.mem_map.mp h
    exact h2 ▸ ⟨tb p h1, tK p h1⟩
  have notT : a ∉ ts := fun h => by
    have z := (tabAt h).1
    rw [sa] at z
    cases z
  -- what stands in H stands in the state, off the written part
  have shown : ∀ {b u}, H b = some u → K.lookup b = none ∧ ((b ∈ ts ∧ u = .tbl #[]) ∨ (b = a ∧ u = .frz oa (.lst xs))) := fun {b u} h => by
    rw [eH] at h
    rcases lawH_some h with ⟨h1, h2⟩ | ⟨_, h1, h2, h3⟩
    · exact ⟨(tabAt h1).2, .inl ⟨h1, h2⟩⟩
    · exact ⟨by rw [h1]; exact h2, .inr ⟨h1, h3⟩⟩
  have ok : HOk P w H s1.heap := fun b u h => by
    rcases (shown h).2 with ⟨h1, h2⟩ | ⟨h1, h2⟩
    · subst h2; exact (tabAt h1).1
    · subst h2; subst h1
      exact ⟨sa, by rw [List.length_map]; exact ln, vs, _, rv, sa⟩
  -- all but lists and empty field objects is off H
  have off : ∀ {b : Addr} {o : Obj}, s1.heap.get? b = some o → (∀ ws n, o.data ≠ .seq ws n) → o.data ≠ .fields #[] → H b = none := fun {b o} e n1 n2 => by
    cases q : H b with
    | none => rfl
    | some u =>
      rcases (shown q).2 with ⟨h1, _⟩ | ⟨h1, _⟩
      · rw [(tabAt h1).1] at e; cases e; exact absurd rfl n2
      · rw [h1, sa] at e; cases e; exact absurd rfl (n1 _ _)
  have names : ∀ {b : Addr} {m : Str → Option Value}, s1.heap.Ns b m → (hidT s1.heap H).Ns b m := fun {b m} h => by
    obtain ⟨o, es, ep, e1, e2, e3⟩ := h
    exact ⟨o, es, ep, hidT_get e1 (off e1 (fun ws n z => by rw [e2] at z; cases z) fun z => by rw [e2] at z; cases z), e2, e3⟩
  have KB : K.In (hidT s1.heap H) := fun b o e => hidT_get (KX b o e) (by
    cases q : H b with
    | none => rfl
    | some u => rw [(shown q).1] at e; cases e)
  have TB : ∀ p ∈ cs, TabB (hidT s1.heap H) mg p.1 p.2 := fun p hp => by
    have tp := tb p hp
    refine ⟨?_, ?_, fun z => ?_⟩
    · obtain ⟨o, us, file, tf, flags, tg, inF, text, tt, e1, r1, r2, r3, r4, r5, r6, r7, r8, hne⟩ := hd p hp
      refine ⟨o, us, file, tf, flags, tg, inF, text, tt, hidT_get e1 (off e1 (fun ws n z => ?_) fun z => ?_), r1, r2, r3, r4, r5, r6, r7, r8, hne⟩ <;> (rw [r2] at z; cases z)
      simp at r3
    · obtain ⟨bm, ob, b1, b2, b3, b4, b5, b6⟩ := bmain
      refine ⟨bm, ob, b1, b2, fun q => ?_, fun q => ?_, hidT_get b3 (off b3 (fun ws n z => ?_) fun z => ?_), b4, b5, b6⟩
      · obtain ⟨o, es, ep, e, e2, _⟩ := gl
        rw [q, e] at b3
        cases b3
        rw [e2] at b6
        cases b6
      · rw [q, tp] at b3; cases b3; cases b6
      · rw [b6] at z; cases z
      · rw [b6] at z; cases z
    · obtain ⟨o, es, ep, e, e2, _⟩ := gl
      rw [z, tp] at e
      cases e
      cases e2
  have env : Env0 P w K mg (hidT s1.heap H) callerA [] s1 H :=
    ⟨rfl, ⟨KB, names gl, ⟨mb, names bt, bb⟩, let ⟨mc, h1, h2⟩ := lm; ⟨mc, names h1, h2⟩⟩, fun b o e => of_hidT e, Nat.le_of_eq (hidT_size _ _), trivial, fun b hb => (by cases hb), ok, .of_eq gn⟩
  have script : SqL K G a xs := by
    cases q : K.lookup a with
    | some o =>
      have z := KX a o q
      rw [sa] at z
      cases z
      exact .inr ⟨_, vs.toArray, _, q, rfl, rfl, rfl, size, by simpa using rv⟩
    | none => exact .inl (.inr ⟨oa, by rw [eG]; exact if_pos ⟨rfl, by rw [q]; rfl⟩⟩)
  have tabs : Tabs T H := fun q hq => TabS.nil (by rw [eH]; exact lawH_tbl (hT q hq))
  have promise : spP K mg T 1 f [.ref a] H (fun v _ => v = .bl true) fun _ _ _ => False := by
    refine ⟨rfl, G, [.fz (ns.map .int)], by rw [eG, eH]; exact lawG_sub notT, by rw [eG]; exact lawG_nt, tabs, .cons (.fz script (by rw [show xs = ns.map V.int from rfl]; exact Reps.of_ints ns)) .nil, ?_⟩
    rw [hf]
    intro v G' H' _ _ _ r
    cases r
    rfl
  refine codeAny_mono ((F _ KB (names gl) TB).go callerA [] s1 H ⟨[.ref a], []⟩ [.ref a] [.ref a] _ _ hr rfl env (bd s1 (.ref a)) (.cons rfl .nil) promise) fun r s' h => ?_
  cases r with
  | error e =>
    obtain ⟨_, _, _, _, _, _, _, _, _, _, _, _, z⟩ := (show L2.CX P w [] H s1 (fun _ _ _ => False) e s' from h)
    exact z.elim
  | ok fl =>
    cases fl with
    | next => exact False.elim h
    | brk => exact False.elim h
    | cont => exact False.elim h
    | ret u =>
      obtain ⟨v, H', os, bare, un, ok', ru, q⟩ := h
      have q' : v = .bl true := q
      subst q'
      obtain rfl : u = Value.bool true := ru
      have stays : ∀ b o, b ∉ ts → s1.heap.get? b = some o → s'.heap.get? b = some o := fun b o nb e => by
        cases q : H b with
        | none => exact un.keep b o e q (by intro z; cases z) (by intro z; cases z)
        | some u =>
          rcases (shown q).2 with ⟨h1, _⟩ | ⟨h1, h2⟩
          · exact absurd h1 nb
          · subst h2
            obtain ⟨e2, _⟩ := ok' b _ (un.frzs b oa _ q)
            rw [h1, sa] at e
            cases e
            exact e2
      have grew : ∀ p ∈ cs, ∃ more : Array Value, s'.heap.get? p.2 = some { cls := .none, data := .fields more } := fun p hp => by
        obtain ⟨more, z⟩ := un.tbls p.2 #[] (by rw [eH]; exact lawH_tbl (List.mem_map.mpr ⟨p, hp, rfl⟩))
        exact ⟨_, ok' p.2 _ z⟩
      refine ⟨rfl, ⟨fun b o e => ?_, fun b o e => ?_⟩, os, bare⟩ <;> by_cases hb : b ∈ ts
      · obtain ⟨p, hp, ep⟩ := List.mem_map.mp hb
        obtain ⟨more, hm⟩ := grew p hp
        rw [← ep] at e ⊢
        rw [tb p hp] at e
        cases e
        exact .inr (.inl ⟨((hd p hp).tab (tb p hp)).isCodeTable, rfl, #[], more, rfl, by rw [Array.empty_append]; exact hm⟩)
      · exact .inl (stays b o hb e)
      · obtain ⟨p, hp, ep⟩ := List.mem_map.mp hb
        obtain ⟨more, hm⟩ := grew p hp
        exact ⟨_, by rw [← ep]; exact hm⟩
      · exact ⟨o, stays b o hb e⟩
/-- what the top tells of the law -/
def LawG (l : PySem.W.OpenLaw) (w : World) (K : PySem.W.Frag) (k n : Nat) (x : Str) (mg : Str → Option Value) (fa : Addr) (h : Heap) : Prop :=
  ∃ (fd : FuncData) (cs : List (Addr × Addr)) (T : List (Addr × Str)) (f : List D → Rs), (∀ p ∈ cs, h.get? p.2 = some { cls := .none, data := .fields #[] }) ∧ (∀ p ∈ cs, K.lookup p.2 = none) ∧ (∀ p ∈ cs, PySem.W.CodeHd h p.1 p.2) ∧ (∀ q ∈ T, q.1 ∈ cs.map (·.2)) ∧
    (∀ (s : Shared) (u : Value), BindsTo s fd ⟨[u], []⟩ [(x, u)]) ∧ (∀ ns : List Int, ns.length ≤ n → (∀ z ∈ ns, Builtin.Int.intBits z ≤ 1048576) → f [.fz (ns.map .int)] = .ok (.bl true)) ∧
    ∀ base : Heap, K.In base → base.Ns mainGlobals mg → (∀ p ∈ cs, TabB base mg p.1 p.2) → FnG l.prog w K mg base k fa fd [x] (spP K mg T 1 f)
theorem walk_G {l : PySem.W.OpenLaw} {n k : Nat} {q : Program} {loose : List Str} {XP : (Str → Option Value) → Heap → Prop} {YP : World → Heap → Prop} {d : DefRec} {K : Params → PySem.W.Frag} {x : Str}
    (hn : l.most = some n) (hn2 : n ≤ sizeLine) (hdf : d.params.defaults = []) (hr : Room k callerA) (hY : ∀ (w : World) (h : Heap), YP w h → (K w.params).In h)
    (F : ∀ (w : World) (mg : Str → Option Value) (fa : Addr) (h : Heap), YP w h → (K w.params).In h → h.Ns mainGlobals mg → mg d.name = some (.ref fa) → LawG l w (K w.params) k n x mg fa h) :
    PySem.W.WalkO q loose XP YP l.row.toRowW d [] (fun f vs => PySem.call f vs) := by
  refine Att.attach_callB hn hdf fun w s0 s1 mg mb fa o pm cd doc a vs ns G Y ho hd hcd hmg hobj hints hlen hbits hg => ?_
  obtain ⟨fd, cs, T, f, t1, t2, t3, t4, t5, t6, t7⟩ := F w mg fa _ Y (hY w _ Y) G.T.g hmg
  exact law_callG (hY w _ Y) G.T.g G.T.b G.T.builtins G.T.nolimit hg t1 t2 t3 t4 G.T.bmain hobj hints (Nat.le_trans hlen hn2) hr t7 t5 (t6 ns hlen hbits)
end PL
end L2
set_option Elab.async false
set_option linter.all false
set_option maxRecDepth 100000
set_option maxHeartbeats 4000000
namespace L2
namespace PL
open PySem PySem.Spec PyProof.Rows LamX
/-! ### defs whose answer is a new list that the caller may change -/
section
variable (K : PySem.W.Frag) (mg : Str → Option Value) (T : List (Addr × Str))
def spL (n : Nat) (f : List D → Option (List D)) : Sp := fun vs H Q E => vs.length = n ∧ ∃ G ds, Sub G H ∧ NT G ∧ LamX.Tabs T H ∧ Reps K G vs ds ∧ match f ds with
  | some xs => ∀ p us G' H', Step (fun _ => False) G H G' H' → Sub G' H' → LamX.Tabs T H' → H p = none → H' p = some (.lst us) → G' p = none → Reps K G' us xs → Q (.ref p) H'
  | none => False
end
/-- .. of statements and the last return -/
def GdR (X : Cx) (c : Cz) (ρ : PEnv) (σ : St) (G H : Hp) (r : R (List D)) (Q : VK) : Prop :=
  match r with
  | .ok xs _ => ∀ p us G' H', Sub G' H' → LamX.Tabs c.T H' → Step (Own ρ σ) G H G' H' → H p = none → H' p = some (.lst us) → G' p = none → Reps X.K G' us xs → Q (.ref p) H'
  | _ => False
def SXL (X : Cx) (c : Cz) (W : WX) (st : List Stmt) (g : GE (List D)) : Prop := ∃ t, PSs X st t ∧ ∀ ρ σ G H (Q : VK) (D' : Ends), D'.rt = Q → ER X.K c ρ σ G H → GdR X c ρ σ G H (g ρ) Q → t D' σ H
section
variable {X : Cx} {c : Cz} {W : WX} {e : Expr} {es : List Expr} {st : Stmt} {rest : List Stmt} {g : GS} {gl : GE (List D)} {gs : GE (List D)} {pos : Pos}
theorem SXL.ret (h : LX X c W e gl) : SXL X c W [.Return (some e) pos] gl := by
  obtain ⟨t, p, q⟩ := h
  refine ⟨_, pss_one (ps_ret p), fun ρ σ G H Q D' eD E h => ?_⟩
  subst eD
  refine q ρ σ G H _ E ?_
  cases z : gl ρ with
  | bad => rw [z] at h; exact h
  | er y ρ1 => rw [z] at h; exact False.elim h
  | ok xs ρ1 =>
    rw [z] at h
    exact fun p vs G' H' E' st ow h0 hp hg no r => h p vs G' H' E'.sub E'.tabs st h0 hp hg r
def seqL (g : GS) (gs : GE (List D)) : GE (List D) := fun ρ => match g ρ with
  | .nx ρ1 => gs ρ1
  | _ => .bad
theorem SXL.cons (h1 : SX X c W st g) (h2 : SXL X c W rest gs) : SXL X c W (st :: rest) (seqL g gs) := by
  obtain ⟨t, p, q⟩ := h1
  obtain ⟨u, p2, q2⟩ := h2
  refine ⟨_, pss_cons p p2, fun ρ σ G H Q D' eD E h => q ρ σ G H _ E ?_⟩
  unfold seqL at h
  cases z : g ρ with
  | nx ρ1 =>
    rw [z] at h
    intro σ1 G1 H1 E1 st1 ow1
    refine q2 ρ1 σ1 G1 H1 Q D' eD E1 ?_
    cases z2 : gs ρ1 with
    | bad => simp only [z2] at h; exact h
    | er y ρ2 => simp only [z2] at h; exact h
    | ok xs ρ2 =>
      simp only [z2] at h
      exact fun p us G' H' sb tb st2 h0 hp hg r => h p us G' H' sb tb (st1.trans st2 fun a ha => ow1 a ha) (st1.d p h0) hp hg r
  | rt d ρ1 => rw [z] at h; exact False.elim h
  | bk ρ1 => rw [z] at h; exact False.elim h
  | ct ρ1 => rw [z] at h; exact False.elim h
  | er y ρ1 => rw [z] at h; exact False.elim h
  | bad => rw [z] at h; exact False.elim h
end
def runL (g : GE (List D)) (m : Nat) (ds : List D) : Option (List D) := match g (ds.map .d ++ List.replicate m .un) with
  | .ok xs _ => some xs
  | _ => none
section
variable {P : Program} {w : World} {K : PySem.W.Frag} {mg : Str → Option Value} {base : Heap} {k : Nat} {f : Addr} {fd : FuncData} {ps N : List Str} {x qual : Str} {st : Stmt} {T : List (Addr × Str)} {n m : Nat} {g : GE (List D)}
theorem pure_L (F : Fun K x qual st f fd) (S : FnScope N ps (defScope st)) (hn : ps.length = n) (hN : N.length = n + m)
    (hg : ∀ (cdv : Value) (A : Around) (outer : List Env) (s : Shared) (H : Hp) (E : XK), Room k (A.deeper (envOfC qual (defScope st) s.heap.objs.size f cdv)) → A.guards = some [] → SXL (cxOf (L2.CX P w) P w K mg base N qual (defScope st) f cdv A outer s H E) (czP T) (wE E) (defBody st) g) :
    FnG P w K mg base (k + 1) f fd ps (spL K T n (runL g m)) :=
  fnG_of F S (fun vs H Q E h => h.1.trans hn.symm) fun cdv A outer s H vs Q E hr hgd hsp => by
    obtain ⟨hl, G, ds, sb, nt, tb, rd, q⟩ := hsp
    obtain ⟨t, p, ht⟩ := hg cdv A outer s H E hr hgd
    refine ⟨t, p, ?_⟩
    rw [start_eq hN hl]
    refine ht _ _ G H Q _ rfl (ER.start sb nt tb rd) ?_
    unfold runL at q
    cases e : g (ds.map .d ++ List.replicate m .un) with
    | ok xs ρ' =>
      rw [e] at q
      exact fun p us G' H' sb' tb' st h0 hp hg r => q p us G' H' (st.mono fun a ha => absurd ha not_own_start) sb' tb' h0 hp hg r
    | er y ρ' => rw [e] at q; exact q.elim
    | bad => rw [e] at q; exact q.elim
end
section
variable {X : Cx} {c : Cz} {W : WX} {k : Nat} {f : Addr} {fd : FuncData} {ps : List Str} {x : Str} {p pos : Pos} {e : Expr} {es : List Expr} {n : Nat} {fL : List D → Option (List D)} {gs : GE (List D)}
def callL (n : Nat) (f : List D → Option (List D)) (gs : GE (List D)) : GE (List D) := fun ρ => (gs ρ).bind fun ds ρ1 => if ds.length = n then (match f ds with
  | some xs => .ok xs ρ1
  | none => .bad) else .bad
theorem LX.callL (F : FnG X.prog X.w X.K X.mg X.base k f fd ps (spL X.K c.T n fL)) (hr : Room k X.A) (hgd : X.A.guards = some []) (hm : X.mg x = some (.ref f)) (hk : PySem.W.keepIn X.K (.ref f) = true) (hb : Binds X.K fd ps []) (hx : ∀ σ, PassesAt (L2.CX X.prog X.w) X σ (WE W σ)) (ha : AX X c W (e :: es) gs)
    (hg : Gl X x := by rfl) (hdb : (x == ("__debug__" : Str)) = false := by decide) (he : starEach (e :: es) X.env = (false, eval e X.env) :: starEach es X.env := by rfl) (hpl : (backTo pos (starEach es X.env)).any (·.1) = false := by rfl) :
    LX X c W (.Call (.Name x p) (e :: es) [] pos) (callL n fL gs) := by
  obtain ⟨t, pa, q⟩ := ha
  refine LX.mk (pe_callG F hr hgd hg hm hk hb hx pa hdb he hpl) fun ρ σ G H Q E hq => q ρ σ G H _ E (GdL.bind hq fun ds ρ1 vs G1 H1 E1 t1 r1 h1 => ?_)
  by_cases hn : ds.length = n
  · rw [if_pos hn] at h1
    refine ⟨by rw [Reps.length r1]; exact hn, G1, ds, E1.sub, E1.nt, E1.tabs, r1, ?_⟩
    cases ef : fL ds with
    | none => rw [ef] at h1; exact h1
    | some xs =>
      rw [ef] at h1
      intro p us G' H' st sb tb h0 hp hg r
      refine h1 p us G' H' (E1.stepF st (fun _ => id) sb tb) (st.mono fun _ z => z.elim) (OwnS.refl _ _ _) h0 hp hg (fun ho => ?_) r
      obtain ⟨vs2, z, _⟩ := own_tracked E1 ho
      rw [h0] at z
      cases z
  · rw [if_neg hn] at h1; exact h1.elim
end
theorem room103 {A : Around} {k : Nat} (hr : Room k A) : A.units + 103 < cLine := by have := hr.un; omega
end PL
end L2
set_option Elab.async false
set_option linter.all false
set_option maxRecDepth 100000
namespace L2
namespace PL
open PySem PySem.Spec PyProof.Rows LamX
/-! ### facts of the head, put together -/
theorem funL_mk {K : PySem.W.Frag} {x qual : Str} {st : Stmt} {f C : Addr} {oc : Value} {od an : Option Addr} {osl : Array (Option Value)} {kV doc pm ct : Value} (l : K.lookup f = some ⟨oc, od, .func (PySem.W.fnOf x qual (defArgs st) (defBody st) (defScope st) .none kV doc pm an (.ref C) ct), osl⟩)
    (c : PySem.W.codeIn K (.ref C) qual = true) (k : PySem.W.keepIn K (.ref f) = true) : FunL K x qual st f (PySem.W.fnOf x qual (defArgs st) (defBody st) (defScope st) .none kV doc pm an (.ref C) ct) C := ⟨⟨oc, od, kV, doc, pm, an, ct, osl, rfl, l, c⟩, k⟩
theorem funD_mk {K : PySem.W.Frag} {x qual : Str} {st : Stmt} {f T : Addr} {oc : Value} {od an : Option Addr} {osl osl2 : Array (Option Value)} {kV doc pm cd ct : Value} {o : Obj} {its : List Value} {n : Nat} {dvs : List V} (l : K.lookup f = some ⟨oc, od, .func (PySem.W.fnOf x qual (defArgs st) (defBody st) (defScope st) (.ref T) kV doc pm an cd ct), osl⟩)
    (c : PySem.W.codeIn K cd qual = true) (k : PySem.W.keepIn K (.ref f) = true) (h : dvs ≠ []) (lt : K.lookup T = some o) (od' : o.data = .seq its.toArray n) (r : Vals dvs its) : FunD K x qual (defArgs st) (defBody st) (defScope st) dvs [] f (PySem.W.fnOf x qual (defArgs st) (defBody st) (defScope st) (.ref T) kV doc pm an cd ct) :=
  ⟨⟨oc, od, _, kV, doc, pm, an, cd, ct, osl, rfl, l, c, .inr ⟨h, T, o, its, n, rfl, lt, od', r⟩, .inl rfl⟩, k⟩
theorem kw_all {K : PySem.W.Frag} {fd : FuncData} {ps : List Str} (h : ∀ us : List Value, us.length = ps.length → bindArgs fd ⟨[], ps.zip us⟩ = pure (ps.zip us)) : BindsKw K fd ps := fun s us _ hl => .of_eq (h us hl)
theorem strs_vals : ∀ {ss : List Str} {its : List Value}, Paired (fun (x : Str) (u : Value) => ∃ t, u = .str x t) ss its → Vals (ss.map V.str) its
  | [], _, h => by cases h; exact .nil
  | x :: ss, _, h => by
    cases h with
    | cons h1 h2 => exact .cons h1 (strs_vals h2)
theorem sqT_mk {K : PySem.W.Frag} {u : Addr} {its : Array Value} {n : Nat} {sl : Array (Option Value)} {ss : List Str} (l : K.lookup u = some ⟨.type "tuple", none, .seq its n, sl⟩) (hs : its.size ≤ 1000) (r : Vals (ss.map V.str) its.toList) (H : Hp) : SqT K H u (ss.map V.str) :=
  .inr ⟨_, its, n, l, rfl, rfl, Nat.le_trans hs (by decide), r⟩
end PL
end L2
set_option linter.all false
set_option maxRecDepth 100000
set_option maxHeartbeats 2000000
/-! PMa: plain readings of the layer's functions (no program in sight) -/
namespace L2
namespace PL
open PySem PySem.Spec
theorem lcGo_pure {vs : List Nat} {gt : D → PEnv → Option PEnv} {gtst : GE Bool} {ge : GE D} {p : D → Bool} {f : D → D} {ρ0 : PEnv} : ∀ {items acc : List D}, acc.length + items.length ≤ lim →
    (∀ d ∈ items, ∃ ρ2, gt d ρ0 = some ρ2 ∧ gtst ρ2 = .ok (p d) ρ2 ∧ wipeP ρ2 vs = ρ0 ∧ (p d = true → ge ρ2 = .ok (f d) ρ2)) →
    lcGo vs gt gtst ge items ρ0 acc = .ok (acc ++ (items.filter p).map f) ρ0
  | [], acc, _, _ => by simp [lcGo]
  | d :: ds, acc, hl, h => by
    obtain ⟨ρ2, h1, h2, h3, h4⟩ := h d List.mem_cons_self
    have hl' : acc.length + (ds.length + 1) ≤ lim := hl
    unfold lcGo
    rw [h1]
    simp only [h2]
    cases q : p d with
    | false =>
      simp only [h3]
      rw [lcGo_pure (by omega) fun d hd => h d (List.mem_cons_of_mem _ hd), List.filter_cons, q]
      rfl
    | true =>
      simp only [h4 q]
      rw [if_pos (by omega), h3, lcGo_pure (by rw [List.length_append, List.length_singleton]; omega) fun d hd => h d (List.mem_cons_of_mem _ hd), List.filter_cons, q]
      simp
theorem lcE_pure {vs : List Nat} {gi : GE (List D)} {gt : D → PEnv → Option PEnv} {gtst : GE Bool} {ge : GE D} (p : D → Bool) (f : D → D) {ρ ρ1 : PEnv} {items : List D} (hi : gi ρ = .ok items ρ1) (hno : noOwn ρ1 vs = true) (hl : items.length ≤ lim) (hr : restore ρ1 (wipeP ρ1 vs) vs = ρ1)
    (h : ∀ d ∈ items, ∃ ρ2, gt d (wipeP ρ1 vs) = some ρ2 ∧ gtst ρ2 = .ok (p d) ρ2 ∧ wipeP ρ2 vs = wipeP ρ1 vs ∧ (p d = true → ge ρ2 = .ok (f d) ρ2)) :
    lcE vs gi gt gtst ge ρ = .ok ((items.filter p).map f) ρ1 := by
  unfold lcE
  rw [hi]
  show (if noOwn ρ1 vs = true then _ else _) = _
  rw [if_pos hno, lcGo_pure (by simpa using hl) h]
  show R.ok _ (restore ρ1 (wipeP ρ1 vs) vs) = _
  rw [hr]
  rfl
end PL
end L2
namespace L2
namespace PL
open PySem PySem.Spec
theorem R.bind_ok {α β : Type} {a : α} {ρ : PEnv} {k : α → PEnv → R β} : (R.ok a ρ).bind k = k a ρ := rfl
theorem R.bind_er {α β : Type} {x : Exn} {ρ : PEnv} {k : α → PEnv → R β} : (R.er x ρ).bind k = .er x ρ := rfl
theorem R.bind_bad {α β : Type} {k : α → PEnv → R β} : (R.bad).bind k = .bad := rfl
theorem R.bindS_ok {α : Type} {a : α} {ρ : PEnv} {k : α → PEnv → FR} : (R.ok a ρ).bindS k = k a ρ := rfl
theorem R.bindS_er {α : Type} {x : Exn} {ρ : PEnv} {k : α → PEnv → FR} : (R.er x ρ).bindS k = .er x ρ := rfl
theorem R.bindS_bad {α : Type} {k : α → PEnv → FR} : (R.bad).bindS k = .bad := rfl
theorem varE_d {i : Nat} {ρ : PEnv} {d : D} (h : ρ[i]? = some (.d d)) : varE i ρ = .ok d ρ := by unfold varE; rw [h]
theorem cE_ok {d : D} {ρ : PEnv} : cE d ρ = .ok d ρ := rfl
theorem ofOpt_some {α : Type} {a : α} {ρ : PEnv} : ofOpt (some a) ρ = .ok a ρ := rfl
theorem binE_ok {f : D → D → Option D} {ga gb : GE D} {ρ ρ1 ρ2 : PEnv} {x y z : D} (ha : ga ρ = .ok x ρ1) (hb : gb ρ1 = .ok y ρ2) (h : f x y = some z) : binE f ga gb ρ = .ok z ρ2 := by
  unfold binE; rw [ha]; show ((gb ρ1).bind _) = _; rw [hb]; show ofOpt (f x y) ρ2 = _; rw [h]; rfl
theorem nilA_ok {ρ : PEnv} : nilA ρ = .ok [] ρ := rfl
theorem consA_ok {ga : GE D} {gr : GE (List D)} {ρ ρ1 ρ2 : PEnv} {x : D} {xs : List D} (ha : ga ρ = .ok x ρ1) (hr : gr ρ1 = .ok xs ρ2) : consA ga gr ρ = .ok (x :: xs) ρ2 := by
  unfold consA; rw [ha]; show ((gr ρ1).bind _) = _; rw [hr]; rfl
/-! values -/
section
variable {a b : Int} {x y : Str} {p q : Bool}
theorem gt_int : gtF (.int a) (.int b) = some (.bl (decide (b < a))) := rfl
theorem lt_int : ltF (.int a) (.int b) = some (.bl (decide (a < b))) := rfl
theorem le_int : leF (.int a) (.int b) = some (.bl (decide (a ≤ b))) := rfl
theorem ge_int : geF (.int a) (.int b) = some (.bl (decide (b ≤ a))) := rfl
theorem lt_str : ltF (.str x) (.str y) = some (.bl (sLt x y)) := rfl
theorem le_str : leF (.str x) (.str y) = some (.bl (!sLt y x)) := rfl
theorem add_int : addF (.int a) (.int b) = some (.int (a + b)) := rfl
theorem sub_int : subF (.int a) (.int b) = some (.int (a - b)) := rfl
theorem mod_int (h : 0 < b) : modF (.int a) (.int b) = some (.int (a % b)) := by unfold modF intsF; simp [h]
theorem fdiv_int (h : 0 < b ∧ b < 1073741824) : fdivF (.int a) (.int b) = some (.int (a / b)) := by unfold fdivF intsF; simp [h]
theorem mul_int (h : (small64b a || small64b b) = true) : mulF (.int a) (.int b) = some (.int (a * b)) := by unfold mulF orF intsF; simp [h]
theorem add_str (h : x.length + y.length ≤ lim) : addF (.str x) (.str y) = some (.str (x ++ y)) := by unfold addF orF intsF strsF; simp [h]
theorem eq_int : eqF (.int a) (.int b) = some (.bl (decide (a = b))) := rfl
theorem ne_int : neF (.int a) (.int b) = some (.bl (!decide (a = b))) := rfl
theorem eq_str : eqF (.str x) (.str y) = some (.bl (decide (x = y))) := rfl
theorem ne_str : neF (.str x) (.str y) = some (.bl (!decide (x = y))) := rfl
end
end PL
end L2
namespace L2
namespace PL
open PySem PySem.Spec
section
variable {α : Type} {x y : α} {l : List α} {n : Nat}
theorem ixN_0 : ixN (n + 1) 0 = some 0 := by unfold ixN; simp
theorem ixN_1 : ixN (n + 1 + 1) 1 = some 1 := by unfold ixN; simp; omega
theorem atI_0 : atI (x :: l) 0 = some x := by unfold atI; rw [List.length_cons, ixN_0]; rfl
theorem atI_1 : atI (x :: y :: l) 1 = some y := by unfold atI; rw [List.length_cons, List.length_cons, ixN_1]; rfl
end
end PL
end L2
set_option linter.all false
set_option maxRecDepth 100000
set_option maxHeartbeats 1000000
/-! PMb: repr of data told in 7 bits -/
namespace L2
namespace PL
open PySem PySem.Spec PySem.Builtin TL
def Asc (l : List Nat) : Prop := ∀ c ∈ l, c < 128
theorem Asc.app {a b : List Nat} (ha : Asc a) (hb : Asc b) : Asc (a ++ b) := fun c hc => by
  rcases List.mem_append.mp hc with h | h
  · exact ha c h
  · exact hb c h
theorem Asc.nil : Asc [] := fun c hc => by cases hc
def asc7 (l : List Nat) : Bool := l.all fun c => decide (c < 128)
theorem Asc.of {l : List Nat} (h : asc7 l = true) : Asc l := fun c hc => of_decide_eq_true (List.all_eq_true.mp h c hc)
mutual
def fine : PyData → Bool
  | .none | .bool _ => true
  | .int i => decide (-1 ≤ i ∧ i < 1000000)
  | .str x => decide (x.length ≤ 1000) && asc7 x.cps.toList
  | .list xs | .tuple xs => fineAll xs
  | .dict _ => false
def fineAll : List PyData → Bool
  | [] => true
  | x :: xs => fine x && fineAll xs
end
mutual
def cost : PyData → Nat
  | .none | .bool _ => 5
  | .int _ => 8
  | .str x => 10 * x.length + 2
  | .list xs | .tuple xs => costAll xs + 4
  | .dict _ => 0
def costAll : List PyData → Nat
  | [] => 0
  | x :: xs => cost x + 2 + costAll xs
end
theorem reprChar_asc {q c : Nat} (hq : q = 34 ∨ q = 39) (hc : c < 128) : Asc (Str.reprChar q c) := by
  have h1 : ∀ c : Nat, c < 128 → asc7 (Str.reprChar 34 c) = true ∧ asc7 (Str.reprChar 39 c) = true := by decide +kernel
  rcases hq with rfl | rfl
  · exact Asc.of (h1 c hc).1
  · exact Asc.of (h1 c hc).2
theorem quote_is (x : Str) : reprQuote x = 34 ∨ reprQuote x = 39 := by
  unfold reprQuote
  split
  · exact .inl rfl
  · exact .inr rfl
theorem reprFold_asc {q : Nat} (hq : q = 34 ∨ q = 39) : ∀ (l : List Nat) (acc : Array Nat), Asc l → Asc acc.toList → Asc (l.foldl (fun out c => out ++ (Str.reprChar q c).toArray) acc).toList
  | [], acc, _, h => h
  | c :: l, acc, hl, h => by
    rw [List.foldl_cons]
    refine reprFold_asc hq l _ (fun d hd => hl d (List.mem_cons_of_mem _ hd)) ?_
    rw [Array.toList_append]
    exact h.app (reprChar_asc hq (hl c List.mem_cons_self))
theorem reprText_asc {x : Str} (h : Asc (tl x)) : Asc (tl (reprText x)) := by
  have hq := quote_is x
  have hq' : Asc [reprQuote x] := fun c hc => by
    have : c = reprQuote x := by simpa using hc
    omega
  unfold reprText
  show Asc (Array.push (Array.foldl _ _ x.cps) _).toList
  rw [Array.toList_push, ← Array.foldl_toList]
  exact (reprFold_asc hq _ _ h hq').app hq'
theorem textFrom_asc : ∀ (ts : List Str) (k : Nat) (acc : Str), Asc (tl acc) → (∀ t ∈ ts, Asc (tl t)) → Asc (tl (textFrom k acc ts)) ∧ (textFrom k acc ts).length ≤ acc.length + (ts.map fun t => t.length + 2).sum
  | [], k, acc, h, _ => ⟨h, by simp [textFrom]⟩
  | t :: ts, k, acc, h, ht => by
    have e : tl (acc ++ (if k > 0 then ", " else "" : String) ++ t) = tl acc ++ (if k > 0 then [44, 32] else []) ++ tl t := by
      rw [tl_append, tl_append]
      split <;> rfl
    have a1 : Asc (tl (acc ++ (if k > 0 then ", " else "" : String) ++ t)) := by
      rw [e]
      refine (h.app ?_).app (ht t List.mem_cons_self)
      split
      · exact Asc.of rfl
      · exact Asc.nil
    obtain ⟨h1, h2⟩ := textFrom_asc ts (k + 1) _ a1 fun u hu => ht u (List.mem_cons_of_mem _ hu)
    refine ⟨h1, ?_⟩
    have l1 : (acc ++ (if k > 0 then ", " else "" : String) ++ t).length ≤ acc.length + 2 + t.length := by
      have := congrArg List.length e
      rw [List.length_append, List.length_append] at this
      have z : ∀ y : Str, (tl y).length = y.length := fun y => rfl
      rw [z, z, z] at this
      rw [this]
      split <;> simp <;> omega
    show (textFrom (k + 1) _ ts).length ≤ _
    rw [List.map_cons, List.sum_cons]
    omega
theorem listText_asc (ts : List Str) (ht : ∀ t ∈ ts, Asc (tl t)) : Asc (tl (listText ts)) ∧ (listText ts).length ≤ (ts.map fun t => t.length + 2).sum + 4 := by
  have a0 : Asc (tl ("[" : Str)) := Asc.of rfl
  obtain ⟨h1, h2⟩ := textFrom_asc ts 0 "[" a0 ht
  have e : tl (listText ts) = tl (textFrom 0 "[" ts) ++ [93] := by
    unfold listText
    rw [tl_append]
    rfl
  refine ⟨by rw [e]; exact h1.app (Asc.of rfl), ?_⟩
  have := congrArg List.length e
  rw [List.length_append] at this
  have z : ∀ y : Str, (tl y).length = y.length := fun y => rfl
  rw [z, z] at this
  have l1 : ("[" : Str).length = 1 := rfl
  rw [this]
  simp only [List.length_cons, List.length_nil]
  omega
theorem joinL_asc {s : List Nat} (hs : Asc s) : ∀ (ls : List (List Nat)), (∀ t ∈ ls, Asc t) → Asc (joinL s ls)
  | [], _ => Asc.nil
  | [p], h => h p List.mem_cons_self
  | p :: q :: r, h => (h p List.mem_cons_self).app (hs.app (joinL_asc hs (q :: r) fun t ht => h t (List.mem_cons_of_mem _ ht)))
theorem joinL_le (s : List Nat) : ∀ (ls : List (List Nat)), (joinL s ls).length ≤ (ls.map fun t => t.length + s.length).sum
  | [] => by simp [joinL]
  | [p] => by simp [joinL]
  | p :: q :: r => by
    have := joinL_le s (q :: r)
    show (p ++ (s ++ joinL s (q :: r))).length ≤ _
    rw [List.length_append, List.length_append, List.map_cons, List.sum_cons]
    omega
theorem tupleText_asc (ts : List Str) (ht : ∀ t ∈ ts, Asc (tl t)) : Asc (tl (tupleText ts)) ∧ (tupleText ts).length ≤ (ts.map fun t => t.length + 2).sum + 4 := by
  have e : tl (tupleText ts) = [40] ++ joinL [44, 32] (ts.map tl) ++ (if (ts.length == 1) = true then [44, 41] else [41]) := by
    unfold tupleText
    rw [tl_append, tl_append, tl_join]
    congr 1
    split <;> rfl
  have a1 : Asc (joinL [44, 32] (ts.map tl)) := joinL_asc (Asc.of rfl) _ fun t h => by
    obtain ⟨u, hu, rfl⟩ := List.mem_map.mp h
    exact ht u hu
  refine ⟨?_, ?_⟩
  · rw [e]
    refine ((Asc.of rfl : Asc [40]).app a1).app ?_
    split
    · exact Asc.of rfl
    · exact Asc.of rfl
  · have := congrArg List.length e
    rw [List.length_append, List.length_append] at this
    have z : ∀ y : Str, (tl y).length = y.length := fun y => rfl
    rw [z] at this
    have jl := joinL_le [44, 32] (ts.map tl)
    rw [List.map_map] at jl
    have e2 : ((fun t : List Nat => t.length + ([44, 32] : List Nat).length) ∘ tl) = fun t : Str => t.length + 2 := rfl
    rw [e2] at jl
    have e3 : (if (ts.length == 1) = true then ([44, 41] : List Nat) else [41]).length ≤ 2 := by split <;> simp
    rw [this]
    simp only [List.length_cons, List.length_nil]
    omega
structure Shows (p : PyData) : Prop where
  sh : p.showable = true
  nd : p.hasDict = false
  as : Asc (tl p.shown)
  le : p.shown.length ≤ cost p
structure ShowsAll (ps : List PyData) : Prop where
  sh : PyData.showableAll ps = true
  nd : PyData.hasDictAll ps = false
  as : ∀ t ∈ PyData.shownAll ps, Asc (tl t)
  le : ((PyData.shownAll ps).map fun t => t.length + 2).sum ≤ costAll ps
theorem shows_int {i : Int} (h : -1 ≤ i ∧ i < 1000000) : Shows (.int i) := by
  by_cases hi : i = -1
  · subst hi
    exact ⟨by decide, rfl, Asc.of (by decide), by decide⟩
  · obtain ⟨n, rfl⟩ : ∃ n : Nat, i = n := ⟨i.toNat, by omega⟩
    have e : tl (PyData.shown (.int (n : Int))) = numL n := tl_num n
    have hl : (numL n).length ≤ 6 := numL_len (by decide) (by omega)
    refine ⟨?_, rfl, ?_, ?_⟩
    · show decide ((n : Int).natAbs.log2 < 1920) = true
      rw [Int.natAbs_natCast]
      apply decide_eq_true
      by_cases h0 : n = 0
      · subst h0; decide
      · have : n.log2 < 20 := (Nat.log2_lt h0).mpr (by omega)
        omega
    · rw [e]
      intro c hc
      have := numL_digits n c hc
      omega
    · have : (PyData.shown (.int (n : Int))).length = (numL n).length := by rw [← e]; rfl
      rw [this]
      show _ ≤ 8
      omega
mutual
theorem shows : ∀ {p : PyData}, fine p = true → Shows p
  | .none, _ => ⟨rfl, rfl, Asc.of (by decide), by decide⟩
  | .bool b, _ => by
    cases b
    · exact ⟨rfl, rfl, Asc.of (by decide), by decide⟩
    · exact ⟨rfl, rfl, Asc.of (by decide), by decide⟩
  | .int i, h => shows_int (of_decide_eq_true h)
  | .str x, h => by
    obtain ⟨h1, h2⟩ := Bool.and_eq_true_iff.mp (show (decide (x.length ≤ 1000) && asc7 x.cps.toList) = true from h)
    have a : Asc (tl x) := Asc.of h2
    exact ⟨rfl, rfl, reprText_asc a, StrLaws.reprText_len x fun c hc => Nat.lt_trans (a c hc) (by decide)⟩
  | .list xs, h => by
    have s := showsAll (ps := xs) h
    obtain ⟨h1, h2⟩ := listText_asc (PyData.shownAll xs) s.as
    exact ⟨s.sh, s.nd, h1, Nat.le_trans h2 (Nat.add_le_add_right s.le 4)⟩
  | .tuple xs, h => by
    have s := showsAll (ps := xs) h
    obtain ⟨h1, h2⟩ := tupleText_asc (PyData.shownAll xs) s.as
    exact ⟨s.sh, s.nd, h1, Nat.le_trans h2 (Nat.add_le_add_right s.le 4)⟩
  | .dict _, h => by cases h
theorem showsAll : ∀ {ps : List PyData}, fineAll ps = true → ShowsAll ps
  | [], _ => ⟨rfl, rfl, (fun t ht => by cases ht), by decide⟩
  | p :: ps, h => by
    obtain ⟨h1, h2⟩ := Bool.and_eq_true_iff.mp (show (fine p && fineAll ps) = true from h)
    have a := shows h1
    have b := showsAll h2
    refine ⟨?_, ?_, ?_, ?_⟩
    · show (p.showable && PyData.showableAll ps) = true
      rw [a.sh, b.sh]; rfl
    · show (p.hasDict || PyData.hasDictAll ps) = false
      rw [a.nd, b.nd]; rfl
    · intro t ht
      rcases List.mem_cons.mp (show t ∈ p.shown :: PyData.shownAll ps from ht) with rfl | ht
      · exact a.as
      · exact b.as t ht
    · show (((p.shown :: PyData.shownAll ps).map fun t => t.length + 2).sum) ≤ cost p + 2 + costAll ps
      rw [List.map_cons, List.sum_cons]
      have := a.le
      have := b.le
      omega
end
/-- repr of fine data is some text told in 7 bits -/
theorem repr_fine {d : D} {p : PyData} (h : d.toP = some p) (hf : fine p = true) (hd : p.depth ≤ 60) (hc : cost p ≤ 100000) : ∃ r : Str, reprF [d] = some (.str r) ∧ Asc (tl r) ∧ r.length ≤ 100000 := by
  have s := shows hf
  have := s.le
  refine ⟨p.shown, ?_, s.as, by omega⟩
  show (match d.toP with | some p => _ | none => none) = _
  rw [h]
  show (if _ then _ else none) = _
  rw [if_pos]
  rw [s.sh, s.nd, decide_eq_true hd, decide_eq_true (by unfold lim; omega)]
  rfl
end PL
end L2
set_option linter.all false
set_option maxRecDepth 100000
set_option maxHeartbeats 1000000
/-! PMc: fine data by parts -/
namespace L2
namespace PL
open PySem PySem.Spec PySem.Builtin TL
def FD (d : D) (k c : Nat) : Prop := ∃ p, d.toP = some p ∧ fine p = true ∧ p.depth ≤ k ∧ cost p ≤ c
def FDs (ds : List D) (k c : Nat) : Prop := ∃ ps, D.toPs ds = some ps ∧ fineAll ps = true ∧ PyData.depthAll ps ≤ k ∧ costAll ps ≤ c
theorem FD.non {k : Nat} : FD .non k 5 := ⟨.none, rfl, rfl, Nat.zero_le _, by decide⟩
theorem FD.bl {b : Bool} {k : Nat} : FD (.bl b) k 5 := ⟨.bool b, rfl, rfl, Nat.zero_le _, Nat.le_refl _⟩
theorem FD.int {i : Int} {k : Nat} (h : -1 ≤ i ∧ i < 1000000) : FD (.int i) k 8 := ⟨.int i, rfl, decide_eq_true h, Nat.zero_le _, Nat.le_refl _⟩
theorem FD.str {x : Str} {k : Nat} (hl : x.length ≤ 1000) (ha : asc7 x.cps.toList = true) : FD (.str x) k (10 * x.length + 2) :=
  ⟨.str x, rfl, by show (decide (x.length ≤ 1000) && asc7 x.cps.toList) = true; rw [decide_eq_true hl, ha]; rfl, Nat.zero_le _, Nat.le_refl _⟩
theorem FDs.nil {k : Nat} : FDs [] k 0 := ⟨[], rfl, rfl, Nat.zero_le _, Nat.le_refl _⟩
theorem FDs.cons {d : D} {ds : List D} {k c c' : Nat} (h : FD d k c) (hs : FDs ds k c') : FDs (d :: ds) k (c + 2 + c') := by
  obtain ⟨p, h1, h2, h3, h4⟩ := h
  obtain ⟨ps, q1, q2, q3, q4⟩ := hs
  refine ⟨p :: ps, ?_, ?_, ?_, ?_⟩
  · show (match D.toP d, D.toPs ds with | some p, some ps => some (p :: ps) | _, _ => none) = _
    rw [h1, q1]
  · show (fine p && fineAll ps) = true
    rw [h2, q2]; rfl
  · show max (PyData.depth p) (PyData.depthAll ps) ≤ k
    omega
  · show cost p + 2 + costAll ps ≤ _
    omega
theorem FDs.lst {ds : List D} {k c : Nat} (h : FDs ds k c) : FD (.lst ds) (k + 1) (c + 4) := by
  obtain ⟨ps, q1, q2, q3, q4⟩ := h
  refine ⟨.list ps, ?_, q2, Nat.succ_le_succ q3, Nat.add_le_add_right q4 4⟩
  show (D.toPs ds).map _ = _
  rw [q1]
  rfl
theorem FDs.tup {ds : List D} {k c : Nat} (h : FDs ds k c) : FD (.tup ds) (k + 1) (c + 4) := by
  obtain ⟨ps, q1, q2, q3, q4⟩ := h
  refine ⟨.tuple ps, ?_, q2, Nat.succ_le_succ q3, Nat.add_le_add_right q4 4⟩
  show (D.toPs ds).map _ = _
  rw [q1]
  rfl
theorem FD.up {d : D} {k c k' c' : Nat} (h : FD d k c) (hk : k ≤ k') (hc : c ≤ c') : FD d k' c' := by
  obtain ⟨p, h1, h2, h3, h4⟩ := h
  exact ⟨p, h1, h2, by omega, by omega⟩
theorem FD.repr {d : D} {k c : Nat} (h : FD d k c) (hk : k ≤ 60) (hc : c ≤ 100000) : ∃ r : Str, reprF [d] = some (.str r) ∧ Asc (tl r) ∧ r.length ≤ 100000 := by
  obtain ⟨p, h1, h2, h3, h4⟩ := h
  exact repr_fine h1 h2 (by omega) (by omega)
theorem ne_same {ds : List D} {p : PyData} (h : (D.lst ds).toP = some p) (hs : SeqAt.shaped p = true) : neF (.lst ds) (.lst ds) = some (.bl false) := by
  show eqPF true (.lst ds) (.lst ds) = _
  have hc : p.canLay0 = true := (Bool.and_eq_true_iff.mp hs).1
  show (match (D.lst ds).toP, (D.lst ds).toP with | some p, some q => _ | _, _ => none) = _
  rw [h]
  show (if (SeqAt.shaped p && SeqAt.shaped p) = true then some (D.bl (!PyData.eqv p p)) else none) = _
  rw [hs, SeqAt.eqv_refl p hc]
  rfl
theorem strOk_asc {r : Str} (h : Asc (tl r)) : PyData.canLay0 (.str r) = true := by
  show r.cps.all (· < 0x110000) = true
  rw [← Array.all_toList, List.all_eq_true]
  intro c hc
  have := h c hc
  exact decide_eq_true (by omega)
end PL
end L2
set_option Elab.async false
set_option linter.all false
set_option maxRecDepth 100000
set_option maxHeartbeats 2000000
namespace L2
namespace K26
open PySem PySem.Spec PyProof.Rows PL
def topS (i : Nat) : Stmt := PySem.Challenge.pw_contesthouse_k26_any_string_as_a_slip.main.body.getD i (.Pass ⟨0, 0, 0, 0⟩)
abbrev s_is_integer : Stmt := topS 1
def n_is_integer : List Str := ["value"]
theorem sc_is_integer : FnScope n_is_integer ["value"] (defScope s_is_integer) := ⟨rfl, rfl, rfl, by decide +kernel, rfl, by decide +kernel, by decide +kernel⟩
abbrev s_is_within : Stmt := topS 2
def n_is_within : List Str := ["value", "least", "most"]
theorem sc_is_within : FnScope n_is_within ["value", "least", "most"] (defScope s_is_within) := ⟨rfl, rfl, rfl, by decide +kernel, rfl, by decide +kernel, by decide +kernel⟩
abbrev s_is_tuple : Stmt := topS 3
def n_is_tuple : List Str := ["value", "many"]
theorem sc_is_tuple : FnScope n_is_tuple ["value", "many"] (defScope s_is_tuple) := ⟨rfl, rfl, rfl, by decide +kernel, rfl, by decide +kernel, by decide +kernel⟩
abbrev s_is_name_value : Stmt := topS 14
def n_is_name_value : List Str := ["value", "sign"]
theorem sc_is_name_value : FnScope n_is_name_value ["value"] (defScope s_is_name_value) := ⟨rfl, rfl, rfl, by decide +kernel, rfl, by decide +kernel, by decide +kernel⟩
abbrev s_number_in : Stmt := topS 15
def n_number_in : List Str := ["token", "digits", "sign"]
theorem sc_number_in : FnScope n_number_in ["token"] (defScope s_number_in) := ⟨rfl, rfl, rfl, by decide +kernel, rfl, by decide +kernel, by decide +kernel⟩
abbrev s_is_printed : Stmt := topS 22
def n_is_printed : List Str := ["value", "sign"]
theorem sc_is_printed : FnScope n_is_printed ["value"] (defScope s_is_printed) := ⟨rfl, rfl, rfl, by decide +kernel, rfl, by decide +kernel, by decide +kernel⟩
abbrev s_is_slip_value : Stmt := topS 23
def n_is_slip_value : List Str := ["value"]
theorem sc_is_slip_value : FnScope n_is_slip_value ["value"] (defScope s_is_slip_value) := ⟨rfl, rfl, rfl, by decide +kernel, rfl, by decide +kernel, by decide +kernel⟩
abbrev s_padded : Stmt := topS 24
def n_padded : List Str := ["number", "told"]
theorem sc_padded : FnScope n_padded ["number"] (defScope s_padded) := ⟨rfl, rfl, rfl, by decide +kernel, rfl, by decide +kernel, by decide +kernel⟩
abbrev s_check_in : Stmt := topS 25
def n_check_in : List Str := ["body", "codes", "second", "sign", "at", "code"]
theorem sc_check_in : FnScope n_check_in ["body"] (defScope s_check_in) := ⟨rfl, rfl, rfl, by decide +kernel, rfl, by decide +kernel, by decide +kernel⟩
abbrev s_body_of : Stmt := topS 26
def n_body_of : List Str := ["slip"]
theorem sc_body_of : FnScope n_body_of ["slip"] (defScope s_body_of) := ⟨rfl, rfl, rfl, by decide +kernel, rfl, by decide +kernel, by decide +kernel⟩
abbrev s_text_of : Stmt := topS 27
def n_text_of : List Str := ["slip", "body"]
theorem sc_text_of : FnScope n_text_of ["slip"] (defScope s_text_of) := ⟨rfl, rfl, rfl, by decide +kernel, rfl, by decide +kernel, by decide +kernel⟩
abbrev s_slip_in : Stmt := topS 28
def n_slip_in : List Str := ["text", "parts", "slip"]
theorem sc_slip_in : FnScope n_slip_in ["text"] (defScope s_slip_in) := ⟨rfl, rfl, rfl, by decide +kernel, rfl, by decide +kernel, by decide +kernel⟩
abbrev s_is_slip : Stmt := topS 29
def n_is_slip : List Str := ["value"]
theorem sc_is_slip : FnScope n_is_slip ["value"] (defScope s_is_slip) := ⟨rfl, rfl, rfl, by decide +kernel, rfl, by decide +kernel, by decide +kernel⟩
abbrev s_slip_text : Stmt := topS 30
def n_slip_text : List Str := ["slip"]
theorem sc_slip_text : FnScope n_slip_text ["slip"] (defScope s_slip_text) := ⟨rfl, rfl, rfl, by decide +kernel, rfl, by decide +kernel, by decide +kernel⟩
abbrev s_slip_of_text : Stmt := topS 31
def n_slip_of_text : List Str := ["text"]
theorem sc_slip_of_text : FnScope n_slip_of_text ["text"] (defScope s_slip_of_text) := ⟨rfl, rfl, rfl, by decide +kernel, rfl, by decide +kernel, by decide +kernel⟩
abbrev s_check_of : Stmt := topS 32
def n_check_of : List Str := ["text"]
theorem sc_check_of : FnScope n_check_of ["text"] (defScope s_check_of) := ⟨rfl, rfl, rfl, by decide +kernel, rfl, by decide +kernel, by decide +kernel⟩
abbrev s_l_pot : Stmt := topS 34
def n_l_pot : List Str := ["script", "k", "cell"]
theorem sc_l_pot : FnScope n_l_pot ["script", "k"] (defScope s_l_pot) := ⟨rfl, rfl, rfl, by decide +kernel, rfl, by decide +kernel, by decide +kernel⟩
abbrev s_l_draw : Stmt := topS 35
def n_l_draw : List Str := ["pot", "many", "digit"]
theorem sc_l_draw : FnScope n_l_draw ["pot", "many"] (defScope s_l_draw) := ⟨rfl, rfl, rfl, by decide +kernel, rfl, by decide +kernel, by decide +kernel⟩
abbrev s_l_pick : Stmt := topS 36
def n_l_pick : List Str := ["pot", "some"]
theorem sc_l_pick : FnScope n_l_pick ["pot", "some"] (defScope s_l_pick) := ⟨rfl, rfl, rfl, by decide +kernel, rfl, by decide +kernel, by decide +kernel⟩
abbrev s_l_some : Stmt := topS 37
def n_l_some : List Str := ["pot", "some", "many", "rest", "found", "turn"]
theorem sc_l_some : FnScope n_l_some ["pot", "some", "many"] (defScope s_l_some) := ⟨rfl, rfl, rfl, by decide +kernel, rfl, by decide +kernel, by decide +kernel⟩
abbrev s_l_check : Stmt := topS 38
def n_l_check : List Str := ["body", "codes", "near", "far", "sign", "at", "code"]
theorem sc_l_check : FnScope n_l_check ["body"] (defScope s_l_check) := ⟨rfl, rfl, rfl, by decide +kernel, rfl, by decide +kernel, by decide +kernel⟩
abbrev s_l_slip_text : Stmt := topS 39
def n_l_slip_text : List Str := ["slip", "word", "number", "one", "other", "told", "version", "body"]
theorem sc_l_slip_text : FnScope n_l_slip_text ["slip"] (defScope s_l_slip_text) := ⟨rfl, rfl, rfl, by decide +kernel, rfl, by decide +kernel, by decide +kernel⟩
abbrev s_l_slip_of : Stmt := topS 40
def n_l_slip_of : List Str := ["text", "parts", "number", "name", "sign"]
theorem sc_l_slip_of : FnScope n_l_slip_of ["text"] (defScope s_l_slip_of) := ⟨rfl, rfl, rfl, by decide +kernel, rfl, by decide +kernel, by decide +kernel⟩
abbrev s_l_is_slip : Stmt := topS 41
def n_l_is_slip : List Str := ["value", "one", "most", "name", "sign"]
theorem sc_l_is_slip : FnScope n_l_is_slip ["value"] (defScope s_l_is_slip) := ⟨rfl, rfl, rfl, by decide +kernel, rfl, by decide +kernel, by decide +kernel⟩
abbrev s_l_drawn : Stmt := topS 42
def n_l_drawn : List Str := ["pot", "one", "other"]
theorem sc_l_drawn : FnScope n_l_drawn ["pot"] (defScope s_l_drawn) := ⟨rfl, rfl, rfl, by decide +kernel, rfl, by decide +kernel, by decide +kernel⟩
abbrev s_l_spoilt : Stmt := topS 43
def n_l_spoilt : List Str := ["pot", "text", "at", "other", "sign", "late", "way", "near", "far"]
theorem sc_l_spoilt : FnScope n_l_spoilt ["pot", "text"] (defScope s_l_spoilt) := ⟨rfl, rfl, rfl, by decide +kernel, rfl, by decide +kernel, by decide +kernel⟩
abbrev s_l_body : Stmt := topS 44
def n_l_body : List Str := ["pot", "some", "body"]
theorem sc_l_body : FnScope n_l_body ["pot"] (defScope s_l_body) := ⟨rfl, rfl, rfl, by decide +kernel, rfl, by decide +kernel, by decide +kernel⟩
abbrev s_l_heard : Stmt := topS 45
def n_l_heard : List Str := ["call", "told", "e"]
theorem sc_l_heard : FnScope n_l_heard ["call"] (defScope s_l_heard) := ⟨rfl, rfl, rfl, by decide +kernel, rfl, by decide +kernel, by decide +kernel⟩
abbrev s_l_text_right : Stmt := topS 46
def n_l_text_right : List Str := ["text", "due"]
theorem sc_l_text_right : FnScope n_l_text_right ["text"] (defScope s_l_text_right) := ⟨rfl, rfl, rfl, by decide +kernel, rfl, by decide +kernel, by decide +kernel⟩
abbrev s_l_right : Stmt := topS 47
def n_l_right : List Str := ["pot", "slip", "text", "turn", "at", "part", "odd", "due", "body", "late"]
theorem sc_l_right : FnScope n_l_right ["pot"] (defScope s_l_right) := ⟨rfl, rfl, rfl, by decide +kernel, rfl, by decide +kernel, by decide +kernel⟩
abbrev s_law : Stmt := topS 48
def n_law : List Str := ["script", "k", "great", "pot", "turn", "odd"]
theorem sc_law : FnScope n_law ["script"] (defScope s_law) := ⟨rfl, rfl, rfl, by decide +kernel, rfl, by decide +kernel, by decide +kernel⟩
abbrev s_init : Stmt := inClass (topS 5) 0
theorem sc_init : FnScope ["self", "value"] ["self", "value"] (defScope s_init) := ⟨rfl, rfl, rfl, by decide +kernel, rfl, by decide +kernel, by decide +kernel⟩
def c_LETTERS : D := .str "abcdefghijklmnopqrstuvwxyz"
def c_DIGITS_forms : D := .str "0123456789"
def c_MINUS : D := .str "-"
def c_MOST_NAME : D := .int (12)
def c_MOST_DIGITS : D := .int (13)
def c_SLIP : D := .str "slip"
def c_VERBS : D := .tup [.str "yields", .str "draws", .str "beats"]
def ss_VERBS : List Str := ["yields", "draws", "beats"]
def c_MOST_NUMBER : D := .int (99)
def c_PRIME : D := .int (997)
def c_DIGITS_slips : D := .int (3)
theorem boot_abs' : bootBuiltins "abs" = some (.builtin "abs") := by decide +kernel
theorem boot_all' : bootBuiltins "all" = some (.builtin "all") := by decide +kernel
theorem boot_bool' : bootBuiltins "bool" = some (.type "bool") := by decide +kernel
theorem boot_divmod' : bootBuiltins "divmod" = some (.builtin "divmod") := by decide +kernel
theorem boot_enumerate' : bootBuiltins "enumerate" = some (.type "enumerate") := by decide +kernel
theorem boot_int' : bootBuiltins "int" = some (.type "int") := by decide +kernel
theorem boot_isinstance' : bootBuiltins "isinstance" = some (.builtin "isinstance") := by decide +kernel
theorem boot_len' : bootBuiltins "len" = some (.builtin "len") := by decide +kernel
theorem boot_list' : bootBuiltins "list" = some (.type "list") := by decide +kernel
theorem boot_max' : bootBuiltins "max" = some (.builtin "max") := by decide +kernel
theorem boot_min' : bootBuiltins "min" = some (.builtin "min") := by decide +kernel
theorem boot_ord' : bootBuiltins "ord" = some (.builtin "ord") := by decide +kernel
theorem boot_range' : bootBuiltins "range" = some (.type "range") := by decide +kernel
theorem boot_repr' : bootBuiltins "repr" = some (.builtin "repr") := by decide +kernel
theorem boot_str' : bootBuiltins "str" = some (.type "str") := by decide +kernel
theorem boot_sum' : bootBuiltins "sum" = some (.builtin "sum") := by decide +kernel
theorem boot_tuple' : bootBuiltins "tuple" = some (.type "tuple") := by decide +kernel
structure Tx (K : PySem.W.Frag) (mg : Str → Option Value) where
  tabs : List (Addr × Str)
  cc_l_right : Addr
  pp_l_right : Addr
  tm_l_right : (pp_l_right, ("_law_right" : Str) ++ ".<locals>." ++ "<lambda>") ∈ tabs
  tu_l_right : ∀ p ∈ tabs, p.1 = pp_l_right → p.2 = ("_law_right" : Str) ++ ".<locals>." ++ "<lambda>"
  cc_law : Addr
  pp_law : Addr
  tm_law : (pp_law, ("law" : Str) ++ ".<locals>." ++ "<lambda>") ∈ tabs
  tu_law : ∀ p ∈ tabs, p.1 = pp_law → p.2 = ("law" : Str) ++ ".<locals>." ++ "<lambda>"
  a_is_integer : Addr
  fd_is_integer : FuncData
  F_is_integer : Fun K "is_integer" "is_integer" s_is_integer a_is_integer fd_is_integer
  g_is_integer : mg "is_integer" = some (.ref a_is_integer)
  b_is_integer : Binds K fd_is_integer ["value"] []
  bk_is_integer : BindsKw K fd_is_integer ["value"]
  a_is_within : Addr
  fd_is_within : FuncData
  F_is_within : Fun K "is_within" "is_within" s_is_within a_is_within fd_is_within
  g_is_within : mg "is_within" = some (.ref a_is_within)
  b_is_within : Binds K fd_is_within ["value", "least", "most"] []
  bk_is_within : BindsKw K fd_is_within ["value", "least", "most"]
  a_is_tuple : Addr
  fd_is_tuple : FuncData
  F_is_tuple : Fun K "is_tuple" "is_tuple" s_is_tuple a_is_tuple fd_is_tuple
  g_is_tuple : mg "is_tuple" = some (.ref a_is_tuple)
  b_is_tuple : Binds K fd_is_tuple ["value", "many"] []
  bk_is_tuple : BindsKw K fd_is_tuple ["value", "many"]
  a_is_name_value : Addr
  fd_is_name_value : FuncData
  F_is_name_value : Fun K "is_name_value" "is_name_value" s_is_name_value a_is_name_value fd_is_name_value
  g_is_name_value : mg "is_name_value" = some (.ref a_is_name_value)
  b_is_name_value : Binds K fd_is_name_value ["value"] []
  bk_is_name_value : BindsKw K fd_is_name_value ["value"]
  a_number_in : Addr
  fd_number_in : FuncData
  F_number_in : Fun K "number_in" "number_in" s_number_in a_number_in fd_number_in
  g_number_in : mg "number_in" = some (.ref a_number_in)
  b_number_in : Binds K fd_number_in ["token"] []
  bk_number_in : BindsKw K fd_number_in ["token"]
  a_is_printed : Addr
  fd_is_printed : FuncData
  F_is_printed : Fun K "is_printed" "is_printed" s_is_printed a_is_printed fd_is_printed
  g_is_printed : mg "is_printed" = some (.ref a_is_printed)
  b_is_printed : Binds K fd_is_printed ["value"] []
  bk_is_printed : BindsKw K fd_is_printed ["value"]
  a_is_slip_value : Addr
  fd_is_slip_value : FuncData
  F_is_slip_value : Fun K "is_slip_value" "is_slip_value" s_is_slip_value a_is_slip_value fd_is_slip_value
  g_is_slip_value : mg "is_slip_value" = some (.ref a_is_slip_value)
  b_is_slip_value : Binds K fd_is_slip_value ["value"] []
  bk_is_slip_value : BindsKw K fd_is_slip_value ["value"]
  a_padded : Addr
  fd_padded : FuncData
  F_padded : Fun K "padded" "padded" s_padded a_padded fd_padded
  g_padded : mg "padded" = some (.ref a_padded)
  b_padded : Binds K fd_padded ["number"] []
  bk_padded : BindsKw K fd_padded ["number"]
  a_check_in : Addr
  fd_check_in : FuncData
  F_check_in : Fun K "check_in" "check_in" s_check_in a_check_in fd_check_in
  g_check_in : mg "check_in" = some (.ref a_check_in)
  b_check_in : Binds K fd_check_in ["body"] []
  bk_check_in : BindsKw K fd_check_in ["body"]
  a_body_of : Addr
  fd_body_of : FuncData
  F_body_of : Fun K "body_of" "body_of" s_body_of a_body_of fd_body_of
  g_body_of : mg "body_of" = some (.ref a_body_of)
  b_body_of : Binds K fd_body_of ["slip"] []
  bk_body_of : BindsKw K fd_body_of ["slip"]
  a_text_of : Addr
  fd_text_of : FuncData
  F_text_of : Fun K "text_of" "text_of" s_text_of a_text_of fd_text_of
  g_text_of : mg "text_of" = some (.ref a_text_of)
  b_text_of : Binds K fd_text_of ["slip"] []
  bk_text_of : BindsKw K fd_text_of ["slip"]
  a_slip_in : Addr
  fd_slip_in : FuncData
  F_slip_in : Fun K "slip_in" "slip_in" s_slip_in a_slip_in fd_slip_in
  g_slip_in : mg "slip_in" = some (.ref a_slip_in)
  b_slip_in : Binds K fd_slip_in ["text"] []
  bk_slip_in : BindsKw K fd_slip_in ["text"]
  a_is_slip : Addr
  fd_is_slip : FuncData
  F_is_slip : Fun K "is_slip" "is_slip" s_is_slip a_is_slip fd_is_slip
  g_is_slip : mg "is_slip" = some (.ref a_is_slip)
  b_is_slip : Binds K fd_is_slip ["value"] []
  bk_is_slip : BindsKw K fd_is_slip ["value"]
  a_slip_text : Addr
  fd_slip_text : FuncData
  F_slip_text : Fun K "slip_text" "slip_text" s_slip_text a_slip_text fd_slip_text
  g_slip_text : mg "slip_text" = some (.ref a_slip_text)
  b_slip_text : Binds K fd_slip_text ["slip"] []
  bk_slip_text : BindsKw K fd_slip_text ["slip"]
  a_slip_of_text : Addr
  fd_slip_of_text : FuncData
  F_slip_of_text : Fun K "slip_of_text" "slip_of_text" s_slip_of_text a_slip_of_text fd_slip_of_text
  g_slip_of_text : mg "slip_of_text" = some (.ref a_slip_of_text)
  b_slip_of_text : Binds K fd_slip_of_text ["text"] []
  bk_slip_of_text : BindsKw K fd_slip_of_text ["text"]
  a_check_of : Addr
  fd_check_of : FuncData
  F_check_of : Fun K "check_of" "check_of" s_check_of a_check_of fd_check_of
  g_check_of : mg "check_of" = some (.ref a_check_of)
  b_check_of : Binds K fd_check_of ["text"] []
  bk_check_of : BindsKw K fd_check_of ["text"]
  a_l_pot : Addr
  fd_l_pot : FuncData
  F_l_pot : Fun K "_law_pot" "_law_pot" s_l_pot a_l_pot fd_l_pot
  g_l_pot : mg "_law_pot" = some (.ref a_l_pot)
  b_l_pot : Binds K fd_l_pot ["script", "k"] []
  bk_l_pot : BindsKw K fd_l_pot ["script", "k"]
  a_l_draw : Addr
  fd_l_draw : FuncData
  F_l_draw : Fun K "_law_draw" "_law_draw" s_l_draw a_l_draw fd_l_draw
  g_l_draw : mg "_law_draw" = some (.ref a_l_draw)
  b_l_draw : Binds K fd_l_draw ["pot", "many"] []
  bk_l_draw : BindsKw K fd_l_draw ["pot", "many"]
  a_l_pick : Addr
  fd_l_pick : FuncData
  F_l_pick : Fun K "_law_pick" "_law_pick" s_l_pick a_l_pick fd_l_pick
  g_l_pick : mg "_law_pick" = some (.ref a_l_pick)
  b_l_pick : Binds K fd_l_pick ["pot", "some"] []
  bk_l_pick : BindsKw K fd_l_pick ["pot", "some"]
  a_l_some : Addr
  fd_l_some : FuncData
  F_l_some : Fun K "_law_some" "_law_some" s_l_some a_l_some fd_l_some
  g_l_some : mg "_law_some" = some (.ref a_l_some)
  b_l_some : Binds K fd_l_some ["pot", "some", "many"] []
  bk_l_some : BindsKw K fd_l_some ["pot", "some", "many"]
  a_l_check : Addr
  fd_l_check : FuncData
  F_l_check : Fun K "_law_check" "_law_check" s_l_check a_l_check fd_l_check
  g_l_check : mg "_law_check" = some (.ref a_l_check)
  b_l_check : Binds K fd_l_check ["body"] []
  bk_l_check : BindsKw K fd_l_check ["body"]
  a_l_slip_text : Addr
  fd_l_slip_text : FuncData
  F_l_slip_text : Fun K "_law_slip_text" "_law_slip_text" s_l_slip_text a_l_slip_text fd_l_slip_text
  g_l_slip_text : mg "_law_slip_text" = some (.ref a_l_slip_text)
  b_l_slip_text : Binds K fd_l_slip_text ["slip"] []
  bk_l_slip_text : BindsKw K fd_l_slip_text ["slip"]
  a_l_slip_of : Addr
  fd_l_slip_of : FuncData
  F_l_slip_of : Fun K "_law_slip_of" "_law_slip_of" s_l_slip_of a_l_slip_of fd_l_slip_of
  g_l_slip_of : mg "_law_slip_of" = some (.ref a_l_slip_of)
  b_l_slip_of : Binds K fd_l_slip_of ["text"] []
  bk_l_slip_of : BindsKw K fd_l_slip_of ["text"]
  a_l_is_slip : Addr
  fd_l_is_slip : FuncData
  F_l_is_slip : Fun K "_law_is_slip" "_law_is_slip" s_l_is_slip a_l_is_slip fd_l_is_slip
  g_l_is_slip : mg "_law_is_slip" = some (.ref a_l_is_slip)
  b_l_is_slip : Binds K fd_l_is_slip ["value"] []
  bk_l_is_slip : BindsKw K fd_l_is_slip ["value"]
  a_l_drawn : Addr
  fd_l_drawn : FuncData
  F_l_drawn : Fun K "_law_drawn" "_law_drawn" s_l_drawn a_l_drawn fd_l_drawn
  g_l_drawn : mg "_law_drawn" = some (.ref a_l_drawn)
  b_l_drawn : Binds K fd_l_drawn ["pot"] []
  bk_l_drawn : BindsKw K fd_l_drawn ["pot"]
  a_l_spoilt : Addr
  fd_l_spoilt : FuncData
  F_l_spoilt : Fun K "_law_spoilt" "_law_spoilt" s_l_spoilt a_l_spoilt fd_l_spoilt
  g_l_spoilt : mg "_law_spoilt" = some (.ref a_l_spoilt)
  b_l_spoilt : Binds K fd_l_spoilt ["pot", "text"] []
  bk_l_spoilt : BindsKw K fd_l_spoilt ["pot", "text"]
  a_l_body : Addr
  fd_l_body : FuncData
  F_l_body : Fun K "_law_body" "_law_body" s_l_body a_l_body fd_l_body
  g_l_body : mg "_law_body" = some (.ref a_l_body)
  b_l_body : Binds K fd_l_body ["pot"] []
  bk_l_body : BindsKw K fd_l_body ["pot"]
  a_l_heard : Addr
  fd_l_heard : FuncData
  F_l_heard : Fun K "_law_heard" "_law_heard" s_l_heard a_l_heard fd_l_heard
  g_l_heard : mg "_law_heard" = some (.ref a_l_heard)
  b_l_heard : Binds K fd_l_heard ["call"] []
  bk_l_heard : BindsKw K fd_l_heard ["call"]
  a_l_text_right : Addr
  fd_l_text_right : FuncData
  F_l_text_right : Fun K "_law_text_right" "_law_text_right" s_l_text_right a_l_text_right fd_l_text_right
  g_l_text_right : mg "_law_text_right" = some (.ref a_l_text_right)
  b_l_text_right : Binds K fd_l_text_right ["text"] []
  bk_l_text_right : BindsKw K fd_l_text_right ["text"]
  a_l_right : Addr
  fd_l_right : FuncData
  F_l_right : FunL K "_law_right" "_law_right" s_l_right a_l_right fd_l_right cc_l_right
  g_l_right : mg "_law_right" = some (.ref a_l_right)
  b_l_right : Binds K fd_l_right ["pot"] []
  bk_l_right : BindsKw K fd_l_right ["pot"]
  a_law : Addr
  fd_law : FuncData
  F_law : FunL K "law" "law" s_law a_law fd_law cc_law
  g_law : mg "law" = some (.ref a_law)
  b_law : Binds K fd_law ["script"] []
  bk_law : BindsKw K fd_law ["script"]
  n_abs : mg "abs" = none
  n_all : mg "all" = none
  n_bool : mg "bool" = none
  n_divmod : mg "divmod" = none
  n_enumerate : mg "enumerate" = none
  n_int : mg "int" = none
  n_isinstance : mg "isinstance" = none
  n_len : mg "len" = none
  n_list : mg "list" = none
  n_max : mg "max" = none
  n_min : mg "min" = none
  n_ord : mg "ord" = none
  n_range : mg "range" = none
  n_repr : mg "repr" = none
  n_str : mg "str" = none
  n_sum : mg "sum" = none
  n_tuple : mg "tuple" = none
  g_LETTERS : ∃ t, mg "LETTERS" = some (.str "abcdefghijklmnopqrstuvwxyz" t)
  g_DIGITS_forms : ∃ t, mg "DIGITS_forms" = some (.str "0123456789" t)
  g_MINUS : ∃ t, mg "MINUS" = some (.str "-" t)
  g_MOST_NAME : ∃ t, mg "MOST_NAME" = some (.int 12 t)
  g_MOST_DIGITS : ∃ t, mg "MOST_DIGITS" = some (.int 13 t)
  g_SLIP : ∃ t, mg "SLIP" = some (.str "slip" t)
  u_VERBS : Addr
  g_VERBS : mg "VERBS" = some (.ref u_VERBS)
  s_VERBS : ∀ H : Hp, SqT K H u_VERBS (ss_VERBS.map V.str)
  t_VERBS : ∃ o, K.lookup u_VERBS = some o ∧ o.cls = .type "tuple" ∧ o.dict = none
  g_MOST_NUMBER : ∃ t, mg "MOST_NUMBER" = some (.int 99 t)
  g_PRIME : ∃ t, mg "PRIME" = some (.int 997 t)
  g_DIGITS_slips : ∃ t, mg "DIGITS_slips" = some (.int 3 t)
  a_init : Addr
  fd_init : FuncData
  F_init : FunD K "__init__" "ContestError.__init__" (defArgs s_init) (defBody s_init) (defScope s_init) [.non] [] a_init fd_init
  xb : Binds K fd_init ["self", "value"] []
  xt : PySem.W.typeIn K (.ref a_init) = some (.type "function")
  C_InvalidText : Addr
  x_InvalidText : OexC K C_InvalidText
  xf_InvalidText : PySem.W.findIn K (.ref C_InvalidText) "value" = some none
  xi_InvalidText : PySem.W.findIn K (.ref C_InvalidText) "__init__" = some (some (.ref a_init))
  xm_InvalidText : mg "InvalidText" = some (.ref C_InvalidText)
  C_InvalidSlip : Addr
  x_InvalidSlip : OexC K C_InvalidSlip
  xf_InvalidSlip : PySem.W.findIn K (.ref C_InvalidSlip) "value" = some none
  xi_InvalidSlip : PySem.W.findIn K (.ref C_InvalidSlip) "__init__" = some (some (.ref a_init))
  xm_InvalidSlip : mg "InvalidSlip" = some (.ref C_InvalidSlip)
  C_ContestError : Addr
  xm_ContestError : mg "ContestError" = some (.ref C_ContestError)
  xx_InvalidSlip : XfC K C_InvalidSlip
  xx_InvalidText : XfC K C_InvalidText
  xn_InvalidSlip_value : PySem.W.findIn K (.ref C_InvalidSlip) "value" = some none
  xn_InvalidText_value : PySem.W.findIn K (.ref C_InvalidText) "value" = some none
  xi_InvalidSlip_ContestError : PySem.W.isIn K (.ref C_InvalidSlip) C_ContestError = true
  xi_InvalidText_ContestError : PySem.W.isIn K (.ref C_InvalidText) C_ContestError = true
  xe_InvalidSlip_InvalidSlip : PySem.W.exmOne K (.ref C_InvalidSlip) (.ref C_InvalidSlip) = some true
  xe_InvalidSlip_InvalidText : PySem.W.exmOne K (.ref C_InvalidSlip) (.ref C_InvalidText) = some false
  xe_InvalidText_InvalidSlip : PySem.W.exmOne K (.ref C_InvalidText) (.ref C_InvalidSlip) = some false
  xe_InvalidText_InvalidText : PySem.W.exmOne K (.ref C_InvalidText) (.ref C_InvalidText) = some true
section
variable {P : Program} {w : World} {K : PySem.W.Frag} {mg : Str → Option Value} {base : Heap}
theorem Tx.k_is_integer (T : Tx K mg) : PySem.W.keepIn K (.ref T.a_is_integer) = true := T.F_is_integer.kp
theorem Tx.k_is_within (T : Tx K mg) : PySem.W.keepIn K (.ref T.a_is_within) = true := T.F_is_within.kp
theorem Tx.k_is_tuple (T : Tx K mg) : PySem.W.keepIn K (.ref T.a_is_tuple) = true := T.F_is_tuple.kp
theorem Tx.k_is_name_value (T : Tx K mg) : PySem.W.keepIn K (.ref T.a_is_name_value) = true := T.F_is_name_value.kp
theorem Tx.k_number_in (T : Tx K mg) : PySem.W.keepIn K (.ref T.a_number_in) = true := T.F_number_in.kp
theorem Tx.k_is_printed (T : Tx K mg) : PySem.W.keepIn K (.ref T.a_is_printed) = true := T.F_is_printed.kp
theorem Tx.k_is_slip_value (T : Tx K mg) : PySem.W.keepIn K (.ref T.a_is_slip_value) = true := T.F_is_slip_value.kp
theorem Tx.k_padded (T : Tx K mg) : PySem.W.keepIn K (.ref T.a_padded) = true := T.F_padded.kp
theorem Tx.k_check_in (T : Tx K mg) : PySem.W.keepIn K (.ref T.a_check_in) = true := T.F_check_in.kp
theorem Tx.k_body_of (T : Tx K mg) : PySem.W.keepIn K (.ref T.a_body_of) = true := T.F_body_of.kp
theorem Tx.k_text_of (T : Tx K mg) : PySem.W.keepIn K (.ref T.a_text_of) = true := T.F_text_of.kp
theorem Tx.k_slip_in (T : Tx K mg) : PySem.W.keepIn K (.ref T.a_slip_in) = true := T.F_slip_in.kp
theorem Tx.k_is_slip (T : Tx K mg) : PySem.W.keepIn K (.ref T.a_is_slip) = true := T.F_is_slip.kp
theorem Tx.k_slip_text (T : Tx K mg) : PySem.W.keepIn K (.ref T.a_slip_text) = true := T.F_slip_text.kp
theorem Tx.k_slip_of_text (T : Tx K mg) : PySem.W.keepIn K (.ref T.a_slip_of_text) = true := T.F_slip_of_text.kp
theorem Tx.k_check_of (T : Tx K mg) : PySem.W.keepIn K (.ref T.a_check_of) = true := T.F_check_of.kp
theorem Tx.k_l_pot (T : Tx K mg) : PySem.W.keepIn K (.ref T.a_l_pot) = true := T.F_l_pot.kp
theorem Tx.k_l_draw (T : Tx K mg) : PySem.W.keepIn K (.ref T.a_l_draw) = true := T.F_l_draw.kp
theorem Tx.k_l_pick (T : Tx K mg) : PySem.W.keepIn K (.ref T.a_l_pick) = true := T.F_l_pick.kp
theorem Tx.k_l_some (T : Tx K mg) : PySem.W.keepIn K (.ref T.a_l_some) = true := T.F_l_some.kp
theorem Tx.k_l_check (T : Tx K mg) : PySem.W.keepIn K (.ref T.a_l_check) = true := T.F_l_check.kp
theorem Tx.k_l_slip_text (T : Tx K mg) : PySem.W.keepIn K (.ref T.a_l_slip_text) = true := T.F_l_slip_text.kp
theorem Tx.k_l_slip_of (T : Tx K mg) : PySem.W.keepIn K (.ref T.a_l_slip_of) = true := T.F_l_slip_of.kp
theorem Tx.k_l_is_slip (T : Tx K mg) : PySem.W.keepIn K (.ref T.a_l_is_slip) = true := T.F_l_is_slip.kp
theorem Tx.k_l_drawn (T : Tx K mg) : PySem.W.keepIn K (.ref T.a_l_drawn) = true := T.F_l_drawn.kp
theorem Tx.k_l_spoilt (T : Tx K mg) : PySem.W.keepIn K (.ref T.a_l_spoilt) = true := T.F_l_spoilt.kp
theorem Tx.k_l_body (T : Tx K mg) : PySem.W.keepIn K (.ref T.a_l_body) = true := T.F_l_body.kp
theorem Tx.k_l_heard (T : Tx K mg) : PySem.W.keepIn K (.ref T.a_l_heard) = true := T.F_l_heard.kp
theorem Tx.k_l_text_right (T : Tx K mg) : PySem.W.keepIn K (.ref T.a_l_text_right) = true := T.F_l_text_right.kp
theorem Tx.k_l_right (T : Tx K mg) : PySem.W.keepIn K (.ref T.a_l_right) = true := T.F_l_right.kp
theorem Tx.k_law (T : Tx K mg) : PySem.W.keepIn K (.ref T.a_law) = true := T.F_law.kp
theorem Tx.r_VERBS (T : Tx K mg) (G : Hp) : Rep K G (.ref T.u_VERBS) c_VERBS := .tup (T.s_VERBS G) (Reps.of_strs ss_VERBS)
structure Bx (T : Tx K mg) (base : Heap) : Prop where
  b_l_right : LamX.TabB base mg T.cc_l_right T.pp_l_right
  b_law : LamX.TabB base mg T.cc_law T.pp_law
def hd_l : List (Str × (Exn → Option D)) := [("InvalidSlip", (itL (itCons (itC (.str "slip")) (itCons (itR (itF "value")) (itCons (itC (.bl true)) itNil))))), ("InvalidText", (itL (itCons (itC (.str "text")) (itCons (itR (itF "value")) (itCons (itC (.bl true)) itNil)))))]
def Tx.cl (T : Tx K mg) : List Cl := [("InvalidSlip", T.C_InvalidSlip, (itL (itCons (itC (.str "slip")) (itCons (itR (itF "value")) (itCons (itC (.bl true)) itNil))))), ("InvalidText", T.C_InvalidText, (itL (itCons (itC (.str "text")) (itCons (itR (itF "value")) (itCons (itC (.bl true)) itNil)))))]
theorem Tx.clm (T : Tx K mg) : ∀ a ∈ T.cl, mg a.1 = some (.ref a.2.1) := List.forall_mem_cons.mpr ⟨T.xm_InvalidSlip, List.forall_mem_cons.mpr ⟨T.xm_InvalidText, fun _ h => nomatch h⟩⟩
theorem Tx.exm (T : Tx K mg) : ExM K T.cl := List.forall_mem_cons.mpr ⟨List.forall_mem_cons.mpr ⟨T.xe_InvalidSlip_InvalidSlip, List.forall_mem_cons.mpr ⟨T.xe_InvalidSlip_InvalidText, fun _ h => nomatch h⟩⟩, List.forall_mem_cons.mpr ⟨List.forall_mem_cons.mpr ⟨T.xe_InvalidText_InvalidSlip, List.forall_mem_cons.mpr ⟨T.xe_InvalidText_InvalidText, fun _ h => nomatch h⟩⟩, fun _ h => nomatch h⟩⟩
theorem ok_init (T : Tx K mg) : FnOk P w K mg base CX0 1 T.a_init T.fd_init ["self", "value"] (spInit K "value") := init_ok T.F_init sc_init rfl rfl rfl rfl rfl (.inl rfl) (.inl rfl) rfl rfl
/-! is_integer -/
def g_is_integer : GS := (retS (andE (unE (isiF "int") (varE 0)) (notE (unE (isiF "bool") (varE 0)))))
def f_is_integer := runP g_is_integer 0
theorem ok_is_integer (T : Tx K mg) : FnOk P w K mg base (L2.CX P w) 1 T.a_is_integer T.fd_is_integer ["value"] (spP K mg T.tabs 1 f_is_integer) :=
  pure_Ok T.F_is_integer sc_is_integer rfl rfl fun cdv A outer s H E hr => by
    have hu := hr.units
    exact ((SXs.one (SX.ret (EX.and (EX.isi T.n_isinstance T.n_int boot_int' (EX.var ioP (pv 0))) (EX.one (EX.not (EX.isi T.n_isinstance T.n_bool boot_bool' (EX.var ioP (pv 0)))))))))
/-! is_within -/
def g_is_within : GS := (retS (andE (callE 1 f_is_integer (consA (varE 0) nilA)) (chainE leF leF (varE 1) (varE 0) (varE 2))))
def f_is_within := runP g_is_within 0
theorem ok_is_within (T : Tx K mg) : FnOk P w K mg base (L2.CX P w) 2 T.a_is_within T.fd_is_within ["value", "least", "most"] (spP K mg T.tabs 3 f_is_within) :=
  pure_Ok T.F_is_within sc_is_within rfl rfl fun cdv A outer s H E hr => by
    have hu := hr.units
    exact ((SXs.one (SX.ret (EX.and (EX.callN (ok_is_integer T) (hr.mono (by decide)) T.g_is_integer T.k_is_integer T.b_is_integer pass_cx (AX.cons (EX.var ioP (pv 0)) AX.nil)) (EX.one (EX.chain (o2_ord _ _) op_leP (o2_ord _ _) op_leP (EX.var ioP (pv 1)) (EX.var ioP (pv 0)) (EX.var ioP (pv 2))))))))
/-! is_tuple -/
def g_is_tuple : GS := (retS (andE (unE (isiF "tuple") (varE 0)) (binE eqF (appE lenF (consA (varE 0) nilA)) (varE 1))))
def f_is_tuple := runP g_is_tuple 0
theorem ok_is_tuple (T : Tx K mg) : FnOk P w K mg base (L2.CX P w) 1 T.a_is_tuple T.fd_is_tuple ["value", "many"] (spP K mg T.tabs 2 f_is_tuple) :=
  pure_Ok T.F_is_tuple sc_is_tuple rfl rfl fun cdv A outer s H E hr => by
    have hu := hr.units
    exact ((SXs.one (SX.ret (EX.and (EX.isi T.n_isinstance T.n_tuple boot_tuple' (EX.var ioP (pv 0))) (EX.one (EX.cmp o2_eq (op_eqP hu) (EX.callB ol_len cr_lenP T.n_len boot_len' (AX.cons (EX.var ioP (pv 0)) AX.nil)) (EX.var ioP (pv 1))))))))
/-! is_name_value -/
def g_is_name_value : GS := (retS (andE (unE (isiF "str") (varE 0)) (andE (chainE leF leF (cE (.int 1)) (appE lenF (consA (varE 0) nilA)) (cE c_MOST_NAME)) (appE allF (consA (lstE (lcE [1] (seqI (varE 0)) (nameT 1) yesT (binE inF (varE 1) (cE c_LETTERS)))) nilA)))))
def f_is_name_value := runP g_is_name_value 1
theorem ok_is_name_value (T : Tx K mg) : FnOk P w K mg base (L2.CX P w) 1 T.a_is_name_value T.fd_is_name_value ["value"] (spP K mg T.tabs 1 f_is_name_value) :=
  pure_Ok T.F_is_name_value sc_is_name_value rfl rfl fun cdv A outer s H E hr => by
    have hu := hr.units
    exact ((SXs.one (SX.ret (EX.and (EX.isi T.n_isinstance T.n_str boot_str' (EX.var ioP (pv 0))) (EX.and (EX.chain (o2_ord _ _) op_leP (o2_ord _ _) op_leP EX.int (EX.callB ol_len cr_lenP T.n_len boot_len' (AX.cons (EX.var ioP (pv 0)) AX.nil)) (EX.gint T.g_MOST_NAME)) (EX.one (EX.callB ol_all (cr_all rfl) T.n_all boot_all' (AX.cons (LX.ex (LX.lc (own := [("sign", 1)]) rfl sc_is_name_value.nd (IX.seq (EX.var ioP (pv 0))) (blkOk_by (N := n_is_name_value) (sc := (defScope s_is_name_value)) (by decide +kernel)) ioPs (by decide) (fun _ _ _ _ _ => (TGX.name ioP (pg_name (i := 1) sc_is_name_value.nd rfl (by first | exact Or.inl rfl | exact Or.inr rfl)))) (fun _ _ _ _ _ => TXS.nil) (fun _ _ _ _ _ => (EX.cmp o2_in op_inP (EX.var ioP (pv 1)) (EX.gstr T.g_LETTERS))))) AX.nil))))))))
/-! number_in -/
def g_number_in : GS := (seqS (asgS (ifE (boolE (binE eqF (slE (varE 0) noO (someO (cE (.int 1)))) (cE c_MINUS))) (slE (varE 0) (someO (cE (.int 1))) noO) (varE 0)) (nameT 1))
    (seqS (ifS (orT (boolE (binE eqF (varE 1) (cE (.str "")))) (orT (boolE (binE gtF (appE lenF (consA (varE 1) nilA)) (cE c_MOST_DIGITS))) (notT (boolE (appE allF (consA (lstE (lcE [2] (seqI (varE 1)) (nameT 2) yesT (binE inF (varE 2) (cE c_DIGITS_forms)))) nilA)))))) (retS (cE .non)) nopS)
    (seqS (ifS (andT (boolE (binE eqF (binE ixF (varE 1) (cE (.int 0))) (cE (.str "0")))) (boolE (binE neF (varE 0) (cE (.str "0"))))) (retS (cE .non)) nopS)
    (retS (appE intF (consA (varE 0) nilA))))))
def f_number_in := runP g_number_in 2
theorem ok_number_in (T : Tx K mg) : FnOk P w K mg base (L2.CX P w) 1 T.a_number_in T.fd_number_in ["token"] (spP K mg T.tabs 1 f_number_in) :=
  pure_Ok T.F_number_in sc_number_in rfl rfl fun cdv A outer s H E hr => by
    have hu := hr.units
    exact ((SXs.cons (SX.set (EX.ifE (TX.cmp o2_eq (op_eqP hu) (EX.slice (EX.var ioP (pv 0)) OX.none (OX.some EX.int)) (EX.gstr T.g_MINUS)) (EX.slice (EX.var ioP (pv 0)) (OX.some EX.int) OX.none) (EX.var ioP (pv 0))) ioP (fun _ h => ps_set (i := 1) sc_number_in.nd rfl (Or.inl rfl) h))
    (SXs.cons (SX.ifS (TX.w (WX.or (TX.cmp o2_eq (op_eqP hu) (EX.var ioP (pv 1)) EX.str) (WX.or (TX.cmp (o2_ord _ _) op_gtP (EX.callB ol_len cr_lenP T.n_len boot_len' (AX.cons (EX.var ioP (pv 1)) AX.nil)) (EX.gint T.g_MOST_DIGITS)) (WX.or1 (TX.not (TX.val (EX.callB ol_all (cr_all rfl) T.n_all boot_all' (AX.cons (LX.ex (LX.lc (own := [("sign", 2)]) rfl sc_number_in.nd (IX.seq (EX.var ioP (pv 1))) (blkOk_by (N := n_number_in) (sc := (defScope s_number_in)) (by decide +kernel)) ioPs (by decide) (fun _ _ _ _ _ => (TGX.name ioP (pg_name (i := 2) sc_number_in.nd rfl (by first | exact Or.inl rfl | exact Or.inr rfl)))) (fun _ _ _ _ _ => TXS.nil) (fun _ _ _ _ _ => (EX.cmp o2_in op_inP (EX.var ioP (pv 2)) (EX.gstr T.g_DIGITS_forms))))) AX.nil)))))))) (SXs.one (SX.ret EX.non)) SXs.nil)
    (SXs.cons (SX.ifS (TX.w (WX.and (TX.cmp o2_eq (op_eqP hu) (EX.ix o2_ix ix_seq (EX.var ioP (pv 1)) EX.int) EX.str) (WX.and1 (TX.cmp o2_ne (op_neP hu) (EX.var ioP (pv 0)) EX.str)))) (SXs.one (SX.ret EX.non)) SXs.nil)
    (SXs.one (SX.ret (EX.callTy ol_int cr_intP T.n_int boot_int' (AX.cons (EX.var ioP (pv 0)) AX.nil))))))))
/-! is_printed -/
def g_is_printed : GS := (retS (andE (unE (isiF "str") (varE 0)) (appE allF (consA (lstE (lcE [1] (seqI (varE 0)) (nameT 1) yesT (chainE leF leF (cE (.str " ")) (varE 1) (cE (.str "~"))))) nilA))))
def f_is_printed := runP g_is_printed 1
theorem ok_is_printed (T : Tx K mg) : FnOk P w K mg base (L2.CX P w) 1 T.a_is_printed T.fd_is_printed ["value"] (spP K mg T.tabs 1 f_is_printed) :=
  pure_Ok T.F_is_printed sc_is_printed rfl rfl fun cdv A outer s H E hr => by
    have hu := hr.units
    exact ((SXs.one (SX.ret (EX.and (EX.isi T.n_isinstance T.n_str boot_str' (EX.var ioP (pv 0))) (EX.one (EX.callB ol_all (cr_all rfl) T.n_all boot_all' (AX.cons (LX.ex (LX.lc (own := [("sign", 1)]) rfl sc_is_printed.nd (IX.seq (EX.var ioP (pv 0))) (blkOk_by (N := n_is_printed) (sc := (defScope s_is_printed)) (by decide +kernel)) ioPs (by decide) (fun _ _ _ _ _ => (TGX.name ioP (pg_name (i := 1) sc_is_printed.nd rfl (by first | exact Or.inl rfl | exact Or.inr rfl)))) (fun _ _ _ _ _ => TXS.nil) (fun _ _ _ _ _ => (EX.chain (o2_ord _ _) op_leP (o2_ord _ _) op_leP EX.str (EX.var ioP (pv 1)) EX.str)))) AX.nil)))))))
/-! is_slip_value -/
def g_is_slip_value : GS := (seqS (ifS (orT (notT (boolE (callE 2 f_is_tuple (consA (varE 0) (consA (cE (.int 6)) nilA))))) (orT (notT (boolE (unE (isiF "str") (binE ixF (varE 0) (cE (.int 0)))))) (boolE (binE neF (binE ixF (varE 0) (cE (.int 0))) (cE c_SLIP))))) (retS (cE (.bl false))) nopS)
    (seqS (ifS (orT (notT (boolE (callE 3 f_is_within (consA (binE ixF (varE 0) (cE (.int 1))) (consA (cE (.int 0)) (consA (cE c_MOST_NUMBER) nilA)))))) (notT (boolE (callE 3 f_is_within (consA (binE ixF (varE 0) (cE (.int 5))) (consA (cE (.int 0)) (consA (cE c_MOST_NUMBER) nilA))))))) (retS (cE (.bl false))) nopS)
    (seqS (ifS (notT (boolE (callE 3 f_is_within (consA (binE ixF (varE 0) (cE (.int 4))) (consA (cE (.int 0)) (consA (cE (.int 2)) nilA)))))) (retS (cE (.bl false))) nopS)
    (retS (andE (callE 1 f_is_name_value (consA (binE ixF (varE 0) (cE (.int 2))) nilA)) (andE (callE 1 f_is_name_value (consA (binE ixF (varE 0) (cE (.int 3))) nilA)) (binE neF (binE ixF (varE 0) (cE (.int 2))) (binE ixF (varE 0) (cE (.int 3))))))))))
def f_is_slip_value := runP g_is_slip_value 0
theorem ok_is_slip_value (T : Tx K mg) : FnOk P w K mg base (L2.CX P w) 3 T.a_is_slip_value T.fd_is_slip_value ["value"] (spP K mg T.tabs 1 f_is_slip_value) :=
  pure_Ok T.F_is_slip_value sc_is_slip_value rfl rfl fun cdv A outer s H E hr => by
    have hu := hr.units
    exact ((SXs.cons (SX.ifS (TX.w (WX.or (TX.not (TX.val (EX.callN (ok_is_tuple T) (hr.mono (by decide)) T.g_is_tuple T.k_is_tuple T.b_is_tuple pass_cx (AX.cons (EX.var ioP (pv 0)) (AX.cons EX.int AX.nil))))) (WX.or (TX.not (TX.val (EX.isi T.n_isinstance T.n_str boot_str' (EX.ix o2_ix ix_seq (EX.var ioP (pv 0)) EX.int)))) (WX.or1 (TX.cmp o2_ne (op_neP hu) (EX.ix o2_ix ix_seq (EX.var ioP (pv 0)) EX.int) (EX.gstr T.g_SLIP)))))) (SXs.one (SX.ret EX.bl)) SXs.nil)
    (SXs.cons (SX.ifS (TX.w (WX.or (TX.not (TX.val (EX.callN (ok_is_within T) (hr.mono (by decide)) T.g_is_within T.k_is_within T.b_is_within pass_cx (AX.cons (EX.ix o2_ix ix_seq (EX.var ioP (pv 0)) EX.int) (AX.cons EX.int (AX.cons (EX.gint T.g_MOST_NUMBER) AX.nil)))))) (WX.or1 (TX.not (TX.val (EX.callN (ok_is_within T) (hr.mono (by decide)) T.g_is_within T.k_is_within T.b_is_within pass_cx (AX.cons (EX.ix o2_ix ix_seq (EX.var ioP (pv 0)) EX.int) (AX.cons EX.int (AX.cons (EX.gint T.g_MOST_NUMBER) AX.nil))))))))) (SXs.one (SX.ret EX.bl)) SXs.nil)
    (SXs.cons (SX.ifS (TX.not (TX.val (EX.callN (ok_is_within T) (hr.mono (by decide)) T.g_is_within T.k_is_within T.b_is_within pass_cx (AX.cons (EX.ix o2_ix ix_seq (EX.var ioP (pv 0)) EX.int) (AX.cons EX.int (AX.cons EX.int AX.nil)))))) (SXs.one (SX.ret EX.bl)) SXs.nil)
    (SXs.one (SX.ret (EX.and (EX.callN (ok_is_name_value T) (hr.mono (by decide)) T.g_is_name_value T.k_is_name_value T.b_is_name_value pass_cx (AX.cons (EX.ix o2_ix ix_seq (EX.var ioP (pv 0)) EX.int) AX.nil)) (EX.and (EX.callN (ok_is_name_value T) (hr.mono (by decide)) T.g_is_name_value T.k_is_name_value T.b_is_name_value pass_cx (AX.cons (EX.ix o2_ix ix_seq (EX.var ioP (pv 0)) EX.int) AX.nil)) (EX.one (EX.cmp o2_ne (op_neP hu) (EX.ix o2_ix ix_seq (EX.var ioP (pv 0)) EX.int) (EX.ix o2_ix ix_seq (EX.var ioP (pv 0)) EX.int)))))))))))
/-! padded -/
def g_padded : GS := (seqS (asgS (appE strIF (consA (varE 0) nilA)) (nameT 1))
    (retS (binE addF (binE mulF (cE (.str "0")) (binE subF (cE c_DIGITS_slips) (appE lenF (consA (varE 1) nilA)))) (varE 1))))
def f_padded := runP g_padded 1
theorem ok_padded (T : Tx K mg) : FnOk P w K mg base (L2.CX P w) 1 T.a_padded T.fd_padded ["number"] (spP K mg T.tabs 1 f_padded) :=
  pure_Ok T.F_padded sc_padded rfl rfl fun cdv A outer s H E hr => by
    have hu := hr.units
    exact ((SXs.cons (SX.set (EX.callTy ol_str call_str_int T.n_str boot_str' (AX.cons (EX.var ioP (pv 0)) AX.nil)) ioP (fun _ h => ps_set (i := 1) sc_padded.nd rfl (Or.inl rfl) h))
    (SXs.one (SX.ret (EX.bin o2_add op_addP (EX.bin o2_mul op_mulP EX.str (EX.bin o2_sub op_sub (EX.gint T.g_DIGITS_slips) (EX.callB ol_len cr_lenP T.n_len boot_len' (AX.cons (EX.var ioP (pv 1)) AX.nil)))) (EX.var ioP (pv 1)))))))
/-! check_in -/
def g_check_in : GS := (seqS (asgOwnS (lcE [3] (seqI (varE 0)) (nameT 3) yesT (binE subF (appE ordChF (consA (varE 3) nilA)) (appE ordChF (consA (cE (.str " ")) nilA)))) 1)
    (seqS (asgS (appE sumF (consA (lstE (lcE [4, 5] (enumI (consA (varE 1) nilA)) (tupT (consT (nameT 4) (consT (nameT 5) nilT))) yesT (binE mulF (varE 5) (binE addF (varE 4) (cE (.int 1)))))) nilA)) (nameT 2))
    (retS (binE addF (callE 1 f_padded (consA (binE modF (appE sumF (consA (varE 1) nilA)) (cE c_PRIME)) nilA)) (callE 1 f_padded (consA (binE modF (varE 2) (cE c_PRIME)) nilA))))))
def f_check_in := runP g_check_in 5
theorem ok_check_in (T : Tx K mg) : FnOk P w K mg base (L2.CX P w) 2 T.a_check_in T.fd_check_in ["body"] (spP K mg T.tabs 1 f_check_in) :=
  pure_Ok T.F_check_in sc_check_in rfl rfl fun cdv A outer s H E hr => by
    have hu := hr.units
    exact ((SXs.cons (SX.setLc (i := 1) (own := [("sign", 3)]) rfl sc_check_in.nd rfl rfl (sw_true rfl rfl rfl (by decide +kernel)) (IX.seq (EX.var ioP (pv 0))) (blkOk_by (N := n_check_in) (sc := (defScope s_check_in)) (by decide +kernel)) ioPs ioP (by decide) (fun _ _ _ _ _ => (TGX.name ioP (pg_name (i := 3) sc_check_in.nd rfl (by first | exact Or.inl rfl | exact Or.inr rfl)))) (fun _ _ _ _ _ => TXS.nil) (fun _ _ _ _ _ => (EX.bin o2_sub op_sub (EX.callB ol_ord call_ord T.n_ord boot_ord' (AX.cons (EX.var ioP (pv 3)) AX.nil)) (EX.callB ol_ord call_ord T.n_ord boot_ord' (AX.cons EX.str AX.nil)))))
    (SXs.cons (SX.set (EX.callB ol_sum (cr_sum rfl) T.n_sum boot_sum' (AX.cons (LX.ex (LX.lc (own := [("at", 4), ("code", 5)]) rfl sc_check_in.nd (IX.enum (AX.cons (EX.var ioP (pv 1)) AX.nil) T.n_enumerate) (blkOk_by (N := n_check_in) (sc := (defScope s_check_in)) (by decide +kernel)) ioPs (by decide) (fun _ _ _ _ _ => (TGX.tup rfl (TGXs.cons (TGX.name ioP (pg_name (i := 4) sc_check_in.nd rfl (by first | exact Or.inl rfl | exact Or.inr rfl))) (TGXs.cons (TGX.name ioP (pg_name (i := 5) sc_check_in.nd rfl (by first | exact Or.inl rfl | exact Or.inr rfl))) TGXs.nil)) (consT_len (consT_len nilT_len)))) (fun _ _ _ _ _ => TXS.nil) (fun _ _ _ _ _ => (EX.bin o2_mul op_mulP (EX.var ioP (pv 5)) (EX.bin o2_add op_addP (EX.var ioP (pv 4)) EX.int))))) AX.nil)) ioP (fun _ h => ps_set (i := 2) sc_check_in.nd rfl (Or.inl rfl) h))
    (SXs.one (SX.ret (EX.bin o2_add op_addP (EX.callN (ok_padded T) (hr.mono (by decide)) T.g_padded T.k_padded T.b_padded pass_cx (AX.cons (EX.bin o2_mod op_mod (EX.callB ol_sum (cr_sum rfl) T.n_sum boot_sum' (AX.cons (EX.var ioP (pv 1)) AX.nil)) (EX.gint T.g_PRIME)) AX.nil)) (EX.callN (ok_padded T) (hr.mono (by decide)) T.g_padded T.k_padded T.b_padded pass_cx (AX.cons (EX.bin o2_mod op_mod (EX.var ioP (pv 2)) (EX.gint T.g_PRIME)) AX.nil))))))))
/-! body_of -/
def g_body_of : GS := (retS (methE joinF (cE (.str " ")) (consA (lstE (lstF (consA (appE strIF (consA (binE ixF (varE 0) (cE (.int 1))) nilA)) (consA (binE ixF (varE 0) (cE (.int 2))) (consA (binE ixF (cE c_VERBS) (binE ixF (varE 0) (cE (.int 4)))) (consA (binE ixF (varE 0) (cE (.int 3))) (consA (appE strIF (consA (binE ixF (varE 0) (cE (.int 5))) nilA)) nilA))))))) nilA)))
def f_body_of := runP g_body_of 0
theorem ok_body_of (T : Tx K mg) : FnOk P w K mg base (L2.CX P w) 1 T.a_body_of T.fd_body_of ["slip"] (spP K mg T.tabs 1 f_body_of) :=
  pure_Ok T.F_body_of sc_body_of rfl rfl fun cdv A outer s H E hr => by
    have hu := hr.units
    exact ((SXs.one (SX.ret (EX.methS om_join PySem.F.plainAttrs_str PySem.F.slot_str_join PySem.F.type_str_join mt_join EX.str (AX.cons (LX.ex (LX.lst (AX.cons (EX.callTy ol_str call_str_int T.n_str boot_str' (AX.cons (EX.ix o2_ix ix_seq (EX.var ioP (pv 0)) EX.int) AX.nil)) (AX.cons (EX.ix o2_ix ix_seq (EX.var ioP (pv 0)) EX.int) (AX.cons (EX.ix o2_ix ix_seq (EX.gref T.g_VERBS T.r_VERBS) (EX.ix o2_ix ix_seq (EX.var ioP (pv 0)) EX.int)) (AX.cons (EX.ix o2_ix ix_seq (EX.var ioP (pv 0)) EX.int) (AX.cons (EX.callTy ol_str call_str_int T.n_str boot_str' (AX.cons (EX.ix o2_ix ix_seq (EX.var ioP (pv 0)) EX.int) AX.nil)) AX.nil))))))) AX.nil)))))
/-! text_of -/
def g_text_of : GS := (seqS (asgS (callE 1 f_body_of (consA (varE 0) nilA)) (nameT 1))
    (retS (binE addF (binE addF (varE 1) (cE (.str " "))) (callE 1 f_check_in (consA (varE 1) nilA)))))
def f_text_of := runP g_text_of 1
theorem ok_text_of (T : Tx K mg) : FnOk P w K mg base (L2.CX P w) 3 T.a_text_of T.fd_text_of ["slip"] (spP K mg T.tabs 1 f_text_of) :=
  pure_Ok T.F_text_of sc_text_of rfl rfl fun cdv A outer s H E hr => by
    have hu := hr.units
    exact ((SXs.cons (SX.set (EX.callN (ok_body_of T) (hr.mono (by decide)) T.g_body_of T.k_body_of T.b_body_of pass_cx (AX.cons (EX.var ioP (pv 0)) AX.nil)) ioP (fun _ h => ps_set (i := 1) sc_text_of.nd rfl (Or.inl rfl) h))
    (SXs.one (SX.ret (EX.bin o2_add op_addP (EX.bin o2_add op_addP (EX.var ioP (pv 1)) EX.str) (EX.callN (ok_check_in T) (hr.mono (by decide)) T.g_check_in T.k_check_in T.b_check_in pass_cx (AX.cons (EX.var ioP (pv 1)) AX.nil)))))))
/-! slip_in -/
def g_slip_in : GS := (seqS (asgS (methE splitF (varE 0) (consA (cE (.str " ")) nilA)) (nameT 1))
    (seqS (ifS (orT (boolE (binE neF (appE lenF (consA (varE 1) nilA)) (cE (.int 6)))) (boolE (binE notInF (binE ixF (varE 1) (cE (.int 2))) (cE c_VERBS)))) (retS (cE .non)) nopS)
    (seqS (asgS (appE tupF (consA (cE c_SLIP) (consA (callE 1 f_number_in (consA (binE ixF (varE 1) (cE (.int 0))) nilA)) (consA (binE ixF (varE 1) (cE (.int 1))) (consA (binE ixF (varE 1) (cE (.int 3))) (consA (appE (indexF ss_VERBS) (consA (binE ixF (varE 1) (cE (.int 2))) nilA)) (consA (callE 1 f_number_in (consA (binE ixF (varE 1) (cE (.int 4))) nilA)) nilA))))))) (nameT 2))
    (retS (ifE (andT (boolE (callE 1 f_is_slip_value (consA (varE 2) nilA))) (boolE (binE eqF (callE 1 f_text_of (consA (varE 2) nilA)) (varE 0)))) (varE 2) (cE .non))))))
def f_slip_in := runP g_slip_in 2
theorem ok_slip_in (T : Tx K mg) : FnOk P w K mg base (L2.CX P w) 4 T.a_slip_in T.fd_slip_in ["text"] (spP K mg T.tabs 1 f_slip_in) :=
  pure_Ok T.F_slip_in sc_slip_in rfl rfl fun cdv A outer s H E hr => by
    have hu := hr.units
    exact ((SXs.cons (SX.set (EX.methS om_split PySem.F.plainAttrs_str PySem.F.slot_str_split PySem.F.type_str_split mt_split (EX.var ioP (pv 0)) (AX.cons EX.str AX.nil)) ioP (fun _ h => ps_set (i := 1) sc_slip_in.nd rfl (Or.inl rfl) h))
    (SXs.cons (SX.ifS (TX.w (WX.or (TX.cmp o2_ne (op_neP hu) (EX.callB ol_len cr_lenP T.n_len boot_len' (AX.cons (EX.var ioP (pv 1)) AX.nil)) EX.int) (WX.or1 (TX.cmp o2_notIn op_notInP (EX.ix o2_ix ix_seq (EX.var ioP (pv 1)) EX.int) (EX.gref T.g_VERBS T.r_VERBS))))) (SXs.one (SX.ret EX.non)) SXs.nil)
    (SXs.cons (SX.set (EX.tup (AX.cons (EX.gstr T.g_SLIP) (AX.cons (EX.callN (ok_number_in T) (hr.mono (by decide)) T.g_number_in T.k_number_in T.b_number_in pass_cx (AX.cons (EX.ix o2_ix ix_seq (EX.var ioP (pv 1)) EX.int) AX.nil)) (AX.cons (EX.ix o2_ix ix_seq (EX.var ioP (pv 1)) EX.int) (AX.cons (EX.ix o2_ix ix_seq (EX.var ioP (pv 1)) EX.int) (AX.cons (EX.tupIndex T.s_VERBS T.t_VERBS (pe_glob (v := .ref T.u_VERBS) rfl T.g_VERBS rfl) (AX.cons (EX.ix o2_ix ix_seq (EX.var ioP (pv 1)) EX.int) AX.nil)) (AX.cons (EX.callN (ok_number_in T) (hr.mono (by decide)) T.g_number_in T.k_number_in T.b_number_in pass_cx (AX.cons (EX.ix o2_ix ix_seq (EX.var ioP (pv 1)) EX.int) AX.nil)) AX.nil))))))) ioP (fun _ h => ps_set (i := 2) sc_slip_in.nd rfl (Or.inl rfl) h))
    (SXs.one (SX.ret (EX.ifE (TX.w (WX.and (TX.val (EX.callN (ok_is_slip_value T) (hr.mono (by decide)) T.g_is_slip_value T.k_is_slip_value T.b_is_slip_value pass_cx (AX.cons (EX.var ioP (pv 2)) AX.nil))) (WX.and1 (TX.cmp o2_eq (op_eqP hu) (EX.callN (ok_text_of T) (hr.mono (by decide)) T.g_text_of T.k_text_of T.b_text_of pass_cx (AX.cons (EX.var ioP (pv 2)) AX.nil)) (EX.var ioP (pv 0)))))) (EX.var ioP (pv 2)) EX.non)))))))
/-! is_slip -/
def g_is_slip : GS := (retS (callE 1 f_is_slip_value (consA (varE 0) nilA)))
def f_is_slip := runP g_is_slip 0
theorem ok_is_slip (T : Tx K mg) : FnOk P w K mg base (L2.CX P w) 4 T.a_is_slip T.fd_is_slip ["value"] (spP K mg T.tabs 1 f_is_slip) :=
  pure_Ok T.F_is_slip sc_is_slip rfl rfl fun cdv A outer s H E hr => by
    have hu := hr.units
    exact ((SXs.one (SX.ret (EX.callN (ok_is_slip_value T) (hr.mono (by decide)) T.g_is_slip_value T.k_is_slip_value T.b_is_slip_value pass_cx (AX.cons (EX.var ioP (pv 0)) AX.nil)))))
/-! slip_text -/
def g_slip_text : GS := (seqS (ifS (notT (boolE (callE 1 f_is_slip_value (consA (varE 0) nilA)))) (raiseS "InvalidSlip" "value" (varE 0)) nopS)
    (retS (callE 1 f_text_of (consA (varE 0) nilA))))
def f_slip_text := runP g_slip_text 0
theorem ok_slip_text (T : Tx K mg) : FnOk P w K mg base (L2.CX P w) 4 T.a_slip_text T.fd_slip_text ["slip"] (spP K mg T.tabs 1 f_slip_text) :=
  pure_Ok T.F_slip_text sc_slip_text rfl rfl fun cdv A outer s H E hr => by
    have hu := hr.units
    exact ((SXs.cons (SX.ifS (TX.not (TX.val (EX.callN (ok_is_slip_value T) (hr.mono (by decide)) T.g_is_slip_value T.k_is_slip_value T.b_is_slip_value pass_cx (AX.cons (EX.var ioP (pv 0)) AX.nil)))) (SXs.one (SX.raise rfl takes_cx T.x_InvalidSlip T.xf_InvalidSlip T.xi_InvalidSlip T.xt (ok_init T) (hr.mono (by decide)) T.xb T.xm_InvalidSlip (EX.var ioP (pv 0)))) SXs.nil)
    (SXs.one (SX.ret (EX.callN (ok_text_of T) (hr.mono (by decide)) T.g_text_of T.k_text_of T.b_text_of pass_cx (AX.cons (EX.var ioP (pv 0)) AX.nil))))))
/-! slip_of_text -/
def g_slip_of_text : GS := (seqS (ifS (notT (boolE (unE (isiF "str") (varE 0)))) (raiseS "InvalidText" "value" (varE 0)) nopS)
    (retS (callE 1 f_slip_in (consA (varE 0) nilA))))
def f_slip_of_text := runP g_slip_of_text 0
theorem ok_slip_of_text (T : Tx K mg) : FnOk P w K mg base (L2.CX P w) 5 T.a_slip_of_text T.fd_slip_of_text ["text"] (spP K mg T.tabs 1 f_slip_of_text) :=
  pure_Ok T.F_slip_of_text sc_slip_of_text rfl rfl fun cdv A outer s H E hr => by
    have hu := hr.units
    exact ((SXs.cons (SX.ifS (TX.not (TX.val (EX.isi T.n_isinstance T.n_str boot_str' (EX.var ioP (pv 0))))) (SXs.one (SX.raise rfl takes_cx T.x_InvalidText T.xf_InvalidText T.xi_InvalidText T.xt (ok_init T) (hr.mono (by decide)) T.xb T.xm_InvalidText (EX.var ioP (pv 0)))) SXs.nil)
    (SXs.one (SX.ret (EX.callN (ok_slip_in T) (hr.mono (by decide)) T.g_slip_in T.k_slip_in T.b_slip_in pass_cx (AX.cons (EX.var ioP (pv 0)) AX.nil))))))
/-! check_of -/
def g_check_of : GS := (seqS (ifS (notT (boolE (callE 1 f_is_printed (consA (varE 0) nilA)))) (raiseS "InvalidText" "value" (varE 0)) nopS)
    (retS (callE 1 f_check_in (consA (varE 0) nilA))))
def f_check_of := runP g_check_of 0
theorem ok_check_of (T : Tx K mg) : FnOk P w K mg base (L2.CX P w) 3 T.a_check_of T.fd_check_of ["text"] (spP K mg T.tabs 1 f_check_of) :=
  pure_Ok T.F_check_of sc_check_of rfl rfl fun cdv A outer s H E hr => by
    have hu := hr.units
    exact ((SXs.cons (SX.ifS (TX.not (TX.val (EX.callN (ok_is_printed T) (hr.mono (by decide)) T.g_is_printed T.k_is_printed T.b_is_printed pass_cx (AX.cons (EX.var ioP (pv 0)) AX.nil)))) (SXs.one (SX.raise rfl takes_cx T.x_InvalidText T.xf_InvalidText T.xi_InvalidText T.xt (ok_init T) (hr.mono (by decide)) T.xb T.xm_InvalidText (EX.var ioP (pv 0)))) SXs.nil)
    (SXs.one (SX.ret (EX.callN (ok_check_in T) (hr.mono (by decide)) T.g_check_in T.k_check_in T.b_check_in pass_cx (AX.cons (EX.var ioP (pv 0)) AX.nil))))))
/-! _law_pot -/
def g_l_pot : GE (List D) := (seqL (asgS (ifE (boolE (binE ltF (varE 1) (appE lenF (consA (varE 0) nilA)))) (appE absF (consA (binE ixF (varE 0) (varE 1)) nilA)) (binE addF (binE mulF (cE (.int 5445)) (varE 1)) (cE (.int 3217)))) (nameT 2)) (lstF (consA (appE max2F (consA (cE (.int 0)) (consA (binE subF (varE 2) (binE powF (cE (.int 10)) (cE (.int 18)))) nilA))) (consA (binE addF (binE modF (appE intF (consA (binE addF (binE addF (binE mulF (binE modF (appE intF (consA (varE 2) nilA)) (cE (.int 2147483549))) (cE (.int 42585))) (binE mulF (cE (.int 5445)) (varE 1))) (cE (.int 3217))) nilA)) (cE (.int 2147483563))) (cE (.int 1))) nilA))))
def f_l_pot := runL g_l_pot 1
theorem ok_l_pot (T : Tx K mg) : FnG P w K mg base 1 T.a_l_pot T.fd_l_pot ["script", "k"] (spL K T.tabs 2 f_l_pot) :=
  pure_L T.F_l_pot sc_l_pot rfl rfl fun cdv A outer s H E hr hgd => by
    have hu := hr.units
    have hur := room100 hr
    exact ((SXL.cons (SX.set (EX.ifE (TX.cmp (o2_ord _ _) op_ltP (EX.var ioP (pv 1)) (EX.callB ol_len cr_lenP T.n_len boot_len' (AX.cons (EX.var ioP (pv 0)) AX.nil))) (EX.callB ol_abs call_abs T.n_abs boot_abs' (AX.cons (EX.ix o2_ix ix_seq (EX.var ioP (pv 0)) (EX.var ioP (pv 1))) AX.nil)) (EX.bin o2_add op_addP (EX.bin o2_mul op_mulP EX.int (EX.var ioP (pv 1))) EX.int)) ioP (fun _ h => ps_set (i := 2) sc_l_pot.nd rfl (Or.inl rfl) h))
    (SXL.ret (LX.lst (AX.cons (EX.callB ol_max2 (call_max2 rfl) T.n_max boot_max' (AX.cons EX.int (AX.cons (EX.bin o2_sub op_sub (EX.var ioP (pv 2)) (EX.bin o2_pow op_pow EX.int EX.int)) AX.nil))) (AX.cons (EX.bin o2_add op_addP (EX.bin o2_mod op_mod (EX.callTy ol_int cr_intP T.n_int boot_int' (AX.cons (EX.bin o2_add op_addP (EX.bin o2_add op_addP (EX.bin o2_mul op_mulP (EX.bin o2_mod op_mod (EX.callTy ol_int cr_intP T.n_int boot_int' (AX.cons (EX.var ioP (pv 2)) AX.nil)) EX.int) EX.int) (EX.bin o2_mul op_mulP EX.int (EX.var ioP (pv 1)))) EX.int) AX.nil)) EX.int) EX.int) AX.nil))))))
/-! _law_draw -/
def g_l_draw : GS := (seqS (ifS (boolE (binE gtF (ixOwnE 0 (cE (.int 0))) (cE (.int 0)))) (seqS (asgS (appE divmodF (consA (ixOwnE 0 (cE (.int 0))) (consA (varE 1) nilA))) (tupT (consT (ownIxT 0 0) (consT (nameT 2) nilT))))
    (retS (varE 2))) nopS)
    (seqS (asgS (binE modF (appE intF (consA (binE addF (binE mulF (ixOwnE 0 (cE (.int 1))) (cE (.int 48563))) (cE (.int 3217))) nilA)) (cE (.int 2147483563))) (ownIxT 0 1))
    (retS (binE modF (appE intF (consA (binE fdivF (binE modF (appE intF (consA (binE mulF (ixOwnE 0 (cE (.int 1))) (ixOwnE 0 (cE (.int 1)))) nilA)) (cE (.int 2147483549))) (cE (.int 37))) nilA)) (varE 1)))))
def f_l_draw := runIO g_l_draw 1
theorem ok_l_draw (T : Tx K mg) : FnG P w K mg base 1 T.a_l_draw T.fd_l_draw ["pot", "many"] (spIO K mg T.tabs 2 f_l_draw) :=
  io_G T.F_l_draw sc_l_draw rfl rfl fun cdv A outer s H E a hr hgd => by
    have hu := hr.units
    have hur := room100 hr
    exact ((SXs.cons (SX.ifS (TX.cmp (o2_ord _ _) op_gtP (EX.ixOwn (pv 0) EX.int) EX.int) (SXs.cons (SX.asg (EX.callB ol_divmod call_divmod T.n_divmod boot_divmod' (AX.cons (EX.ixOwn (pv 0) EX.int) (AX.cons (EX.var (ioX (by decide)) (pv 1)) AX.nil))) (TGX.tup rfl (TGXs.cons (TGX.ownIx (pv 0) pe_int) (TGXs.cons (TGX.name (ioX (by decide)) (pg_name (i := 2) sc_l_draw.nd rfl (Or.inl rfl))) TGXs.nil)) (consT_len (consT_len nilT_len))))
    (SXs.one (SX.ret (EX.var (ioX (by decide)) (pv 2))))) SXs.nil)
    (SXs.cons (SX.asg (EX.bin o2_mod op_mod (EX.callTy ol_int cr_intP T.n_int boot_int' (AX.cons (EX.bin o2_add op_addP (EX.bin o2_mul op_mulP (EX.ixOwn (pv 0) EX.int) EX.int) EX.int) AX.nil)) EX.int) (TGX.ownIx (pv 0) pe_int))
    (SXs.one (SX.ret (EX.bin o2_mod op_mod (EX.callTy ol_int cr_intP T.n_int boot_int' (AX.cons (EX.bin o2_fdiv op_fdiv (EX.bin o2_mod op_mod (EX.callTy ol_int cr_intP T.n_int boot_int' (AX.cons (EX.bin o2_mul op_mulP (EX.ixOwn (pv 0) EX.int) (EX.ixOwn (pv 0) EX.int)) AX.nil)) EX.int) EX.int) AX.nil)) (EX.var (ioX (by decide)) (pv 1))))))))
/-! _law_pick -/
def g_l_pick : GS := (retS (binE ixF (varE 1) (callIO 0 2 f_l_draw (consA (appE lenF (consA (varE 1) nilA)) nilA))))
def f_l_pick := runIO g_l_pick 0
theorem ok_l_pick (T : Tx K mg) : FnG P w K mg base 2 T.a_l_pick T.fd_l_pick ["pot", "some"] (spIO K mg T.tabs 2 f_l_pick) :=
  io_G T.F_l_pick sc_l_pick rfl rfl fun cdv A outer s H E a hr hgd => by
    have hu := hr.units
    have hur := room100 hr
    exact ((SXs.one (SX.ret (EX.ix o2_ix ix_seq (EX.var (ioX (by decide)) (pv 1)) (EX.callIO (ok_l_draw T) (hr.mono (by decide)) hgd T.g_l_draw T.k_l_draw T.b_l_draw pass_cx (pv 0) (AX.cons (EX.callB ol_len cr_lenP T.n_len boot_len' (AX.cons (EX.var (ioX (by decide)) (pv 1)) AX.nil)) AX.nil))))))
/-! _law_some -/
def g_l_some : GS := (seqS (parOwnS 3 4 (appL listF (consA (varE 1) nilA)) (lstF nilA))
    (seqS (forS (range1I (consA (varE 2) nilA)) (nameT 5) (appendS 4 (popOwnE 3 (callIO 0 2 f_l_draw (consA (lenOwnE 3) nilA)))))
    (retS (varE 4))))
def f_l_some := runIO g_l_some 3
theorem ok_l_some (T : Tx K mg) : FnG P w K mg base 2 T.a_l_some T.fd_l_some ["pot", "some", "many"] (spIO K mg T.tabs 3 f_l_some) :=
  io_G T.F_l_some sc_l_some rfl rfl fun cdv A outer s H E a hr hgd => by
    have hu := hr.units
    have hur := room100 hr
    exact ((SXs.cons (SX.parOwn (by decide) (ioX (by decide)) (ioX (by decide)) (fun _ h => ps_par (i := 3) (j := 4) rfl sc_l_some.nd rfl rfl (by decide) rfl rfl h rfl) (LX.callTy (ol_list rfl) (cr_listP rfl) T.n_list boot_list' (AX.cons (EX.var (ioX (by decide)) (pv 1)) AX.nil)) (LX.lst AX.nil))
    (SXs.cons (SX.for own_cx rfl (IX.range1 (AX.cons (EX.var (ioX (by decide)) (pv 2)) AX.nil) T.n_range) (TGX.name (ioX (by decide)) (pg_name (i := 5) sc_l_some.nd rfl (Or.inl rfl))) (SXs.one (SX.append (EX.popOwn (EX.callIO (ok_l_draw T) (hr.mono (by decide)) hgd T.g_l_draw T.k_l_draw T.b_l_draw pass_cx (pv 0) (AX.cons (EX.lenOwn (fun _ h => pe_callB call_len_seq (by rfl) T.n_len boot_len' (pa_cons h pa_nil)) (pv 3)) AX.nil)) (fun _ h => pe_bm PySem.F.plainAttrs_list PySem.F.slot_list_pop PySem.F.type_list_pop mt_popAt (pv 3) (pa_cons h pa_nil))) (fun _ h => pe_bm PySem.F.plainAttrs_list PySem.F.slot_list_append PySem.F.type_list_append mt_append (pv 4) (pa_cons h pa_nil)))))
    (SXs.one (SX.ret (EX.var (ioX (by decide)) (pv 4)))))))
/-! _law_check -/
def g_l_check : GS := (seqS (asgOwnS (lcE [4] (seqI (varE 0)) (nameT 4) yesT (binE subF (appE ordChF (consA (varE 4) nilA)) (cE (.int 32)))) 1)
    (seqS (parS 2 3 (binE modF (appE sumF (consA (varE 1) nilA)) (cE (.int 997))) (binE modF (appE sumF (consA (lstE (lcE [5, 6] (enumI (consA (varE 1) nilA)) (tupT (consT (nameT 5) (consT (nameT 6) nilT))) yesT (binE mulF (varE 6) (binE addF (varE 5) (cE (.int 1)))))) nilA)) (cE (.int 997))))
    (retS (binE addF (slE (binE addF (cE (.str "000")) (appE strIF (consA (varE 2) nilA))) (someO (unE negF (cE (.int 3)))) noO) (slE (binE addF (cE (.str "000")) (appE strIF (consA (varE 3) nilA))) (someO (unE negF (cE (.int 3)))) noO)))))
def f_l_check := runP g_l_check 6
theorem ok_l_check (T : Tx K mg) : FnG P w K mg base 1 T.a_l_check T.fd_l_check ["body"] (spP K mg T.tabs 1 f_l_check) :=
  pure_G T.F_l_check sc_l_check rfl rfl fun cdv A outer s H E hr hgd => by
    have hu := hr.units
    have hur := room100 hr
    exact ((SXs.cons (SX.setLc (i := 1) (own := [("sign", 4)]) rfl sc_l_check.nd rfl rfl (sw_true rfl rfl rfl (by decide +kernel)) (IX.seq (EX.var ioP (pv 0))) (blkOk_by (N := n_l_check) (sc := (defScope s_l_check)) (by decide +kernel)) ioPs ioP (by decide) (fun _ _ _ _ _ => (TGX.name ioP (pg_name (i := 4) sc_l_check.nd rfl (by first | exact Or.inl rfl | exact Or.inr rfl)))) (fun _ _ _ _ _ => TXS.nil) (fun _ _ _ _ _ => (EX.bin o2_sub op_sub (EX.callB ol_ord call_ord T.n_ord boot_ord' (AX.cons (EX.var ioP (pv 4)) AX.nil)) EX.int)))
    (SXs.cons (SX.par ioP ioP (fun _ h => ps_par (i := 2) (j := 3) rfl sc_l_check.nd rfl rfl (by decide) rfl rfl h rfl) (EX.bin o2_mod op_mod (EX.callB ol_sum (cr_sum rfl) T.n_sum boot_sum' (AX.cons (EX.var ioP (pv 1)) AX.nil)) EX.int) (EX.bin o2_mod op_mod (EX.callB ol_sum (cr_sum rfl) T.n_sum boot_sum' (AX.cons (LX.ex (LX.lc (own := [("at", 5), ("code", 6)]) rfl sc_l_check.nd (IX.enum (AX.cons (EX.var ioP (pv 1)) AX.nil) T.n_enumerate) (blkOk_by (N := n_l_check) (sc := (defScope s_l_check)) (by decide +kernel)) ioPs (by decide) (fun _ _ _ _ _ => (TGX.tup rfl (TGXs.cons (TGX.name ioP (pg_name (i := 5) sc_l_check.nd rfl (by first | exact Or.inl rfl | exact Or.inr rfl))) (TGXs.cons (TGX.name ioP (pg_name (i := 6) sc_l_check.nd rfl (by first | exact Or.inl rfl | exact Or.inr rfl))) TGXs.nil)) (consT_len (consT_len nilT_len)))) (fun _ _ _ _ _ => TXS.nil) (fun _ _ _ _ _ => (EX.bin o2_mul op_mulP (EX.var ioP (pv 6)) (EX.bin o2_add op_addP (EX.var ioP (pv 5)) EX.int))))) AX.nil)) EX.int))
    (SXs.one (SX.ret (EX.bin o2_add op_addP (EX.slice (EX.bin o2_add op_addP EX.str (EX.callTy ol_str call_str_int T.n_str boot_str' (AX.cons (EX.var ioP (pv 2)) AX.nil))) (OX.some (EX.un o1_neg un_neg EX.int)) OX.none) (EX.slice (EX.bin o2_add op_addP EX.str (EX.callTy ol_str call_str_int T.n_str boot_str' (AX.cons (EX.var ioP (pv 3)) AX.nil))) (OX.some (EX.un o1_neg un_neg EX.int)) OX.none)))))))
/-! _law_slip_text -/
def g_l_slip_text : GS := (seqS (asgS (varE 0) (tupT (consT (nameT 1) (consT (nameT 2) (consT (nameT 3) (consT (nameT 4) (consT (nameT 5) (consT (nameT 6) nilT))))))))
    (seqS (asgS (binE addF (binE addF (binE addF (binE addF (binE addF (binE addF (binE addF (binE addF (appE strIF (consA (varE 2) nilA)) (cE (.str " "))) (varE 3)) (cE (.str " "))) (binE ixF (lstE (lstF (consA (cE (.str "yields")) (consA (cE (.str "draws")) (consA (cE (.str "beats")) nilA))))) (varE 5))) (cE (.str " "))) (varE 4)) (cE (.str " "))) (appE strIF (consA (varE 6) nilA))) (nameT 7))
    (retS (binE addF (binE addF (varE 7) (cE (.str " "))) (callE 1 f_l_check (consA (varE 7) nilA))))))
def f_l_slip_text := runP g_l_slip_text 7
theorem ok_l_slip_text (T : Tx K mg) : FnG P w K mg base 2 T.a_l_slip_text T.fd_l_slip_text ["slip"] (spP K mg T.tabs 1 f_l_slip_text) :=
  pure_G T.F_l_slip_text sc_l_slip_text rfl rfl fun cdv A outer s H E hr hgd => by
    have hu := hr.units
    have hur := room100 hr
    exact ((SXs.cons (SX.asg (EX.var ioP (pv 0)) (TGX.tup rfl (TGXs.cons (TGX.name ioP (pg_name (i := 1) sc_l_slip_text.nd rfl (Or.inl rfl))) (TGXs.cons (TGX.name ioP (pg_name (i := 2) sc_l_slip_text.nd rfl (Or.inl rfl))) (TGXs.cons (TGX.name ioP (pg_name (i := 3) sc_l_slip_text.nd rfl (Or.inl rfl))) (TGXs.cons (TGX.name ioP (pg_name (i := 4) sc_l_slip_text.nd rfl (Or.inl rfl))) (TGXs.cons (TGX.name ioP (pg_name (i := 5) sc_l_slip_text.nd rfl (Or.inl rfl))) (TGXs.cons (TGX.name ioP (pg_name (i := 6) sc_l_slip_text.nd rfl (Or.inl rfl))) TGXs.nil)))))) (consT_len (consT_len (consT_len (consT_len (consT_len (consT_len nilT_len))))))))
    (SXs.cons (SX.set (EX.bin o2_add op_addP (EX.bin o2_add op_addP (EX.bin o2_add op_addP (EX.bin o2_add op_addP (EX.bin o2_add op_addP (EX.bin o2_add op_addP (EX.bin o2_add op_addP (EX.bin o2_add op_addP (EX.callTy ol_str call_str_int T.n_str boot_str' (AX.cons (EX.var ioP (pv 2)) AX.nil)) EX.str) (EX.var ioP (pv 3))) EX.str) (EX.ix o2_ix ix_seq (LX.ex (LX.lst (AX.cons EX.str (AX.cons EX.str (AX.cons EX.str AX.nil))))) (EX.var ioP (pv 5)))) EX.str) (EX.var ioP (pv 4))) EX.str) (EX.callTy ol_str call_str_int T.n_str boot_str' (AX.cons (EX.var ioP (pv 6)) AX.nil))) ioP (fun _ h => ps_set (i := 7) sc_l_slip_text.nd rfl (Or.inl rfl) h))
    (SXs.one (SX.ret (EX.bin o2_add op_addP (EX.bin o2_add op_addP (EX.var ioP (pv 7)) EX.str) (EX.call (ok_l_check T) (hr.mono (by decide)) hgd T.g_l_check T.k_l_check T.b_l_check pass_cx (AX.cons (EX.var ioP (pv 7)) AX.nil))))))))
/-! _law_slip_of -/
def g_l_slip_of : GS := (seqS (asgS (methE splitF (varE 0) (consA (cE (.str " ")) nilA)) (nameT 1))
    (seqS (ifS (orT (boolE (binE neF (appE lenF (consA (varE 1) nilA)) (cE (.int 6)))) (orT (boolE (binE notInF (binE ixF (varE 1) (cE (.int 2))) (appE tupF (consA (cE (.str "beats")) (consA (cE (.str "draws")) (consA (cE (.str "yields")) nilA)))))) (boolE (binE neF (binE ixF (varE 1) (cE (.int 5))) (callE 1 f_l_check (consA (methE joinF (cE (.str " ")) (consA (slE (varE 1) noO (someO (cE (.int 5)))) nilA)) nilA)))))) (retS (cE .non)) nopS)
    (seqS (forS (seqI (appE tupF (consA (binE ixF (varE 1) (cE (.int 0))) (consA (binE ixF (varE 1) (cE (.int 4))) nilA)))) (nameT 2) (ifS (orT (boolE (binE eqF (varE 2) (cE (.str "")))) (orT (boolE (binE neF (lstE (lcE [4] (seqI (varE 2)) (nameT 4) (boolE (binE notInF (varE 4) (cE (.str "0123456789")))) (varE 4))) (lstE (lstF nilA)))) (orT (boolE (binE gtF (appE lenF (consA (varE 2) nilA)) (cE (.int 2)))) (boolE (binE neF (varE 2) (appE strIF (consA (appE intF (consA (varE 2) nilA)) nilA))))))) (retS (cE .non)) nopS))
    (seqS (forS (seqI (appE tupF (consA (binE ixF (varE 1) (cE (.int 1))) (consA (binE ixF (varE 1) (cE (.int 3))) nilA)))) (nameT 3) (ifS (orT (notT (boolE (chainE leF leF (cE (.int 1)) (appE lenF (consA (varE 3) nilA)) (cE (.int 12))))) (boolE (binE neF (lstE (lcE [4] (seqI (varE 3)) (nameT 4) (notT (boolE (chainE leF leF (cE (.str "a")) (varE 4) (cE (.str "z"))))) (varE 4))) (lstE (lstF nilA))))) (retS (cE .non)) nopS))
    (seqS (ifS (boolE (binE eqF (binE ixF (varE 1) (cE (.int 1))) (binE ixF (varE 1) (cE (.int 3))))) (retS (cE .non)) nopS)
    (retS (appE tupF (consA (cE (.str "slip")) (consA (appE intF (consA (binE ixF (varE 1) (cE (.int 0))) nilA)) (consA (binE ixF (varE 1) (cE (.int 1))) (consA (binE ixF (varE 1) (cE (.int 3))) (consA (unE (dictF [("beats", 2), ("draws", 1), ("yields", 0)]) (binE ixF (varE 1) (cE (.int 2)))) (consA (appE intF (consA (binE ixF (varE 1) (cE (.int 4))) nilA)) nilA)))))))))))))
def f_l_slip_of := runP g_l_slip_of 4
theorem ok_l_slip_of (T : Tx K mg) : FnG P w K mg base 2 T.a_l_slip_of T.fd_l_slip_of ["text"] (spP K mg T.tabs 1 f_l_slip_of) :=
  pure_G T.F_l_slip_of sc_l_slip_of rfl rfl fun cdv A outer s H E hr hgd => by
    have hu := hr.units
    have hur := room100 hr
    exact ((SXs.cons (SX.set (EX.methS om_split PySem.F.plainAttrs_str PySem.F.slot_str_split PySem.F.type_str_split mt_split (EX.var ioP (pv 0)) (AX.cons EX.str AX.nil)) ioP (fun _ h => ps_set (i := 1) sc_l_slip_of.nd rfl (Or.inl rfl) h))
    (SXs.cons (SX.ifS (TX.w (WX.or (TX.cmp o2_ne (op_neP hu) (EX.callB ol_len cr_lenP T.n_len boot_len' (AX.cons (EX.var ioP (pv 1)) AX.nil)) EX.int) (WX.or (TX.cmp o2_notIn op_notInP (EX.ix o2_ix ix_seq (EX.var ioP (pv 1)) EX.int) (EX.tup (AX.cons EX.str (AX.cons EX.str (AX.cons EX.str AX.nil))))) (WX.or1 (TX.cmp o2_ne (op_neP hu) (EX.ix o2_ix ix_seq (EX.var ioP (pv 1)) EX.int) (EX.call (ok_l_check T) (hr.mono (by decide)) hgd T.g_l_check T.k_l_check T.b_l_check pass_cx (AX.cons (EX.methS om_join PySem.F.plainAttrs_str PySem.F.slot_str_join PySem.F.type_str_join mt_join EX.str (AX.cons (EX.slice (EX.var ioP (pv 1)) OX.none (OX.some EX.int)) AX.nil)) AX.nil))))))) (SXs.one (SX.ret EX.non)) SXs.nil)
    (SXs.cons (SX.for own_cx rfl (IX.seq (EX.tup (AX.cons (EX.ix o2_ix ix_seq (EX.var ioP (pv 1)) EX.int) (AX.cons (EX.ix o2_ix ix_seq (EX.var ioP (pv 1)) EX.int) AX.nil)))) (TGX.name ioP (pg_name (i := 2) sc_l_slip_of.nd rfl (Or.inl rfl))) (SXs.one (SX.ifS (TX.w (WX.or (TX.cmp o2_eq (op_eqP hu) (EX.var ioP (pv 2)) EX.str) (WX.or (TX.cmp o2_ne (op_neP hu) (LX.ex (LX.lc (own := [("sign", 4)]) rfl sc_l_slip_of.nd (IX.seq (EX.var ioP (pv 2))) (blkOk_by (N := n_l_slip_of) (sc := (defScope s_l_slip_of)) (by decide +kernel)) ioPs (by decide) (fun _ _ _ _ _ => (TGX.name ioP (pg_name (i := 4) sc_l_slip_of.nd rfl (by first | exact Or.inl rfl | exact Or.inr rfl)))) (fun _ _ _ _ _ => (TXS.one (TX.cmp o2_notIn op_notInP (EX.var ioP (pv 4)) EX.str))) (fun _ _ _ _ _ => (EX.var ioP (pv 4))))) (LX.ex (LX.lst AX.nil))) (WX.or (TX.cmp (o2_ord _ _) op_gtP (EX.callB ol_len cr_lenP T.n_len boot_len' (AX.cons (EX.var ioP (pv 2)) AX.nil)) EX.int) (WX.or1 (TX.cmp o2_ne (op_neP hu) (EX.var ioP (pv 2)) (EX.callTy ol_str call_str_int T.n_str boot_str' (AX.cons (EX.callTy ol_int cr_intP T.n_int boot_int' (AX.cons (EX.var ioP (pv 2)) AX.nil)) AX.nil)))))))) (SXs.one (SX.ret EX.non)) SXs.nil)))
    (SXs.cons (SX.for own_cx rfl (IX.seq (EX.tup (AX.cons (EX.ix o2_ix ix_seq (EX.var ioP (pv 1)) EX.int) (AX.cons (EX.ix o2_ix ix_seq (EX.var ioP (pv 1)) EX.int) AX.nil)))) (TGX.name ioP (pg_name (i := 3) sc_l_slip_of.nd rfl (Or.inl rfl))) (SXs.one (SX.ifS (TX.w (WX.or (TX.not (TX.chain (o2_ord _ _) op_leP (o2_ord _ _) op_leP EX.int (EX.callB ol_len cr_lenP T.n_len boot_len' (AX.cons (EX.var ioP (pv 3)) AX.nil)) EX.int)) (WX.or1 (TX.cmp o2_ne (op_neP hu) (LX.ex (LX.lc (own := [("sign", 4)]) rfl sc_l_slip_of.nd (IX.seq (EX.var ioP (pv 3))) (blkOk_by (N := n_l_slip_of) (sc := (defScope s_l_slip_of)) (by decide +kernel)) ioPs (by decide) (fun _ _ _ _ _ => (TGX.name ioP (pg_name (i := 4) sc_l_slip_of.nd rfl (by first | exact Or.inl rfl | exact Or.inr rfl)))) (fun _ _ _ _ _ => (TXS.one (TX.not (TX.chain (o2_ord _ _) op_leP (o2_ord _ _) op_leP EX.str (EX.var ioP (pv 4)) EX.str)))) (fun _ _ _ _ _ => (EX.var ioP (pv 4))))) (LX.ex (LX.lst AX.nil)))))) (SXs.one (SX.ret EX.non)) SXs.nil)))
    (SXs.cons (SX.ifS (TX.cmp o2_eq (op_eqP hu) (EX.ix o2_ix ix_seq (EX.var ioP (pv 1)) EX.int) (EX.ix o2_ix ix_seq (EX.var ioP (pv 1)) EX.int)) (SXs.one (SX.ret EX.non)) SXs.nil)
    (SXs.one (SX.ret (EX.tup (AX.cons EX.str (AX.cons (EX.callTy ol_int cr_intP T.n_int boot_int' (AX.cons (EX.ix o2_ix ix_seq (EX.var ioP (pv 1)) EX.int) AX.nil)) (AX.cons (EX.ix o2_ix ix_seq (EX.var ioP (pv 1)) EX.int) (AX.cons (EX.ix o2_ix ix_seq (EX.var ioP (pv 1)) EX.int) (AX.cons (EX.dictIx (kvs := [("beats", 2), ("draws", 1), ("yields", 0)]) hu (pps_cons pe_str pe_int (pps_cons pe_str pe_int (pps_cons pe_str pe_int pps_nil))) (by decide) rfl rfl (List.cons_ne_nil _ _) (by decide) (EX.ix o2_ix ix_seq (EX.var ioP (pv 1)) EX.int)) (AX.cons (EX.callTy ol_int cr_intP T.n_int boot_int' (AX.cons (EX.ix o2_ix ix_seq (EX.var ioP (pv 1)) EX.int) AX.nil)) AX.nil)))))))))))))))
/-! _law_is_slip -/
def g_l_is_slip : GS := (seqS (ifS (orT (notT (boolE (unE (isiF "tuple") (varE 0)))) (orT (boolE (binE neF (appE lenF (consA (varE 0) nilA)) (cE (.int 6)))) (orT (notT (boolE (unE (isiF "str") (binE ixF (varE 0) (cE (.int 0)))))) (boolE (binE neF (binE ixF (varE 0) (cE (.int 0))) (cE (.str "slip"))))))) (retS (cE (.bl false))) nopS)
    (seqS (forS (seqI (appE tupF (consA (appE tupF (consA (binE ixF (varE 0) (cE (.int 1))) (consA (cE (.int 99)) nilA))) (consA (appE tupF (consA (binE ixF (varE 0) (cE (.int 4))) (consA (cE (.int 2)) nilA))) (consA (appE tupF (consA (binE ixF (varE 0) (cE (.int 5))) (consA (cE (.int 99)) nilA))) nilA))))) (tupT (consT (nameT 1) (consT (nameT 2) nilT))) (ifS (orT (notT (boolE (unE (isiF "int") (varE 1)))) (orT (boolE (unE (isiF "bool") (varE 1))) (notT (boolE (chainE leF leF (cE (.int 0)) (varE 1) (varE 2)))))) (retS (cE (.bl false))) nopS))
    (seqS (forS (seqI (slE (varE 0) (someO (cE (.int 2))) (someO (cE (.int 4))))) (nameT 3) (ifS (orT (notT (boolE (unE (isiF "str") (varE 3)))) (orT (notT (boolE (chainE leF leF (cE (.int 1)) (appE lenF (consA (varE 3) nilA)) (cE (.int 12))))) (boolE (binE neF (lstE (lcE [4] (seqI (varE 3)) (nameT 4) (notT (boolE (chainE leF leF (cE (.str "a")) (varE 4) (cE (.str "z"))))) (varE 4))) (lstE (lstF nilA)))))) (retS (cE (.bl false))) nopS))
    (retS (binE neF (binE ixF (varE 0) (cE (.int 2))) (binE ixF (varE 0) (cE (.int 3))))))))
def f_l_is_slip := runP g_l_is_slip 4
theorem ok_l_is_slip (T : Tx K mg) : FnG P w K mg base 1 T.a_l_is_slip T.fd_l_is_slip ["value"] (spP K mg T.tabs 1 f_l_is_slip) :=
  pure_G T.F_l_is_slip sc_l_is_slip rfl rfl fun cdv A outer s H E hr hgd => by
    have hu := hr.units
    have hur := room100 hr
    exact ((SXs.cons (SX.ifS (TX.w (WX.or (TX.not (TX.val (EX.isi T.n_isinstance T.n_tuple boot_tuple' (EX.var ioP (pv 0))))) (WX.or (TX.cmp o2_ne (op_neP hu) (EX.callB ol_len cr_lenP T.n_len boot_len' (AX.cons (EX.var ioP (pv 0)) AX.nil)) EX.int) (WX.or (TX.not (TX.val (EX.isi T.n_isinstance T.n_str boot_str' (EX.ix o2_ix ix_seq (EX.var ioP (pv 0)) EX.int)))) (WX.or1 (TX.cmp o2_ne (op_neP hu) (EX.ix o2_ix ix_seq (EX.var ioP (pv 0)) EX.int) EX.str)))))) (SXs.one (SX.ret EX.bl)) SXs.nil)
    (SXs.cons (SX.for own_cx rfl (IX.seq (EX.tup (AX.cons (EX.tup (AX.cons (EX.ix o2_ix ix_seq (EX.var ioP (pv 0)) EX.int) (AX.cons EX.int AX.nil))) (AX.cons (EX.tup (AX.cons (EX.ix o2_ix ix_seq (EX.var ioP (pv 0)) EX.int) (AX.cons EX.int AX.nil))) (AX.cons (EX.tup (AX.cons (EX.ix o2_ix ix_seq (EX.var ioP (pv 0)) EX.int) (AX.cons EX.int AX.nil))) AX.nil))))) (TGX.tup rfl (TGXs.cons (TGX.name ioP (pg_name (i := 1) sc_l_is_slip.nd rfl (Or.inl rfl))) (TGXs.cons (TGX.name ioP (pg_name (i := 2) sc_l_is_slip.nd rfl (Or.inl rfl))) TGXs.nil)) (consT_len (consT_len nilT_len))) (SXs.one (SX.ifS (TX.w (WX.or (TX.not (TX.val (EX.isi T.n_isinstance T.n_int boot_int' (EX.var ioP (pv 1))))) (WX.or (TX.val (EX.isi T.n_isinstance T.n_bool boot_bool' (EX.var ioP (pv 1)))) (WX.or1 (TX.not (TX.chain (o2_ord _ _) op_leP (o2_ord _ _) op_leP EX.int (EX.var ioP (pv 1)) (EX.var ioP (pv 2)))))))) (SXs.one (SX.ret EX.bl)) SXs.nil)))
    (SXs.cons (SX.for own_cx rfl (IX.seq (EX.slice (EX.var ioP (pv 0)) (OX.some EX.int) (OX.some EX.int))) (TGX.name ioP (pg_name (i := 3) sc_l_is_slip.nd rfl (Or.inl rfl))) (SXs.one (SX.ifS (TX.w (WX.or (TX.not (TX.val (EX.isi T.n_isinstance T.n_str boot_str' (EX.var ioP (pv 3))))) (WX.or (TX.not (TX.chain (o2_ord _ _) op_leP (o2_ord _ _) op_leP EX.int (EX.callB ol_len cr_lenP T.n_len boot_len' (AX.cons (EX.var ioP (pv 3)) AX.nil)) EX.int)) (WX.or1 (TX.cmp o2_ne (op_neP hu) (LX.ex (LX.lc (own := [("sign", 4)]) rfl sc_l_is_slip.nd (IX.seq (EX.var ioP (pv 3))) (blkOk_by (N := n_l_is_slip) (sc := (defScope s_l_is_slip)) (by decide +kernel)) ioPs (by decide) (fun _ _ _ _ _ => (TGX.name ioP (pg_name (i := 4) sc_l_is_slip.nd rfl (by first | exact Or.inl rfl | exact Or.inr rfl)))) (fun _ _ _ _ _ => (TXS.one (TX.not (TX.chain (o2_ord _ _) op_leP (o2_ord _ _) op_leP EX.str (EX.var ioP (pv 4)) EX.str)))) (fun _ _ _ _ _ => (EX.var ioP (pv 4))))) (LX.ex (LX.lst AX.nil))))))) (SXs.one (SX.ret EX.bl)) SXs.nil)))
    (SXs.one (SX.ret (EX.cmp o2_ne (op_neP hu) (EX.ix o2_ix ix_seq (EX.var ioP (pv 0)) EX.int) (EX.ix o2_ix ix_seq (EX.var ioP (pv 0)) EX.int))))))))
/-! _law_drawn -/
def g_l_drawn : GS := (seqS (asgS (callIO 0 3 f_l_some (consA (lstE (lstF (consA (cE (.str "ann")) (consA (cE (.str "bob")) (consA (binE mulF (cE (.str "z")) (cE (.int 12))) (consA (cE (.str "a")) (consA (cE (.str "beats")) (consA (binE mulF (cE (.str "y")) (cE (.int 12))) (consA (cE (.str "m")) nilA))))))))) (consA (cE (.int 2)) nilA))) (tupT (consT (nameT 1) (consT (nameT 2) nilT))))
    (retS (appE tupF (consA (cE (.str "slip")) (consA (callIO 0 2 f_l_pick (consA (lstE (lstF (consA (cE (.int 0)) (consA (cE (.int 1)) (consA (cE (.int 9)) (consA (cE (.int 10)) (consA (cE (.int 99)) nilA))))))) nilA)) (consA (varE 1) (consA (varE 2) (consA (callIO 0 2 f_l_draw (consA (cE (.int 3)) nilA)) (consA (callIO 0 2 f_l_pick (consA (lstE (lstF (consA (cE (.int 0)) (consA (cE (.int 3)) (consA (cE (.int 10)) (consA (cE (.int 99)) nilA)))))) nilA)) nilA)))))))))
def f_l_drawn := runIO g_l_drawn 2
theorem ok_l_drawn (T : Tx K mg) : FnG P w K mg base 3 T.a_l_drawn T.fd_l_drawn ["pot"] (spIO K mg T.tabs 1 f_l_drawn) :=
  io_G T.F_l_drawn sc_l_drawn rfl rfl fun cdv A outer s H E a hr hgd => by
    have hu := hr.units
    have hur := room100 hr
    exact ((SXs.cons (SX.asg (EX.callIO (ok_l_some T) (hr.mono (by decide)) hgd T.g_l_some T.k_l_some T.b_l_some pass_cx (pv 0) (AX.cons (LX.ex (LX.lst (AX.cons EX.str (AX.cons EX.str (AX.cons (EX.bin o2_mul op_mulP EX.str EX.int) (AX.cons EX.str (AX.cons EX.str (AX.cons (EX.bin o2_mul op_mulP EX.str EX.int) (AX.cons EX.str AX.nil))))))))) (AX.cons EX.int AX.nil))) (TGX.tup rfl (TGXs.cons (TGX.name (ioX (by decide)) (pg_name (i := 1) sc_l_drawn.nd rfl (Or.inl rfl))) (TGXs.cons (TGX.name (ioX (by decide)) (pg_name (i := 2) sc_l_drawn.nd rfl (Or.inl rfl))) TGXs.nil)) (consT_len (consT_len nilT_len))))
    (SXs.one (SX.ret (EX.tup (AX.cons EX.str (AX.cons (EX.callIO (ok_l_pick T) (hr.mono (by decide)) hgd T.g_l_pick T.k_l_pick T.b_l_pick pass_cx (pv 0) (AX.cons (LX.ex (LX.lst (AX.cons EX.int (AX.cons EX.int (AX.cons EX.int (AX.cons EX.int (AX.cons EX.int AX.nil))))))) AX.nil)) (AX.cons (EX.var (ioX (by decide)) (pv 1)) (AX.cons (EX.var (ioX (by decide)) (pv 2)) (AX.cons (EX.callIO (ok_l_draw T) (hr.mono (by decide)) hgd T.g_l_draw T.k_l_draw T.b_l_draw pass_cx (pv 0) (AX.cons EX.int AX.nil)) (AX.cons (EX.callIO (ok_l_pick T) (hr.mono (by decide)) hgd T.g_l_pick T.k_l_pick T.b_l_pick pass_cx (pv 0) (AX.cons (LX.ex (LX.lst (AX.cons EX.int (AX.cons EX.int (AX.cons EX.int (AX.cons EX.int AX.nil)))))) AX.nil)) AX.nil)))))))))))
/-! _law_spoilt -/
def g_l_spoilt : GS := (seqS (parS 2 3 (callIO 0 2 f_l_draw (consA (appE lenF (consA (varE 1) nilA)) nilA)) (callIO 0 2 f_l_draw (consA (appE lenF (consA (varE 1) nilA)) nilA)))
    (seqS (asgS (callIO 0 2 f_l_pick (consA (lstE (appL listF (consA (cE (.str "abz 0159~!B")) nilA))) nilA)) (nameT 4))
    (seqS (asgS (binE addF (binE addF (slE (varE 1) noO (someO (varE 2))) (varE 4)) (slE (varE 1) (someO (binE addF (varE 2) (cE (.int 1)))) noO)) (nameT 5))
    (seqS (asgS (callIO 0 2 f_l_draw (consA (cE (.int 7)) nilA)) (nameT 6))
    (seqS (ifS (boolE (binE eqF (varE 6) (cE (.int 0)))) (retS (varE 5)) nopS)
    (seqS (ifS (boolE (binE eqF (varE 6) (cE (.int 1)))) (retS (binE addF (binE addF (slE (varE 5) noO (someO (varE 3))) (callIO 0 2 f_l_pick (consA (lstE (appL listF (consA (cE (.str "a 09zA~")) nilA))) nilA))) (slE (varE 5) (someO (binE addF (varE 3) (cE (.int 1)))) noO))) nopS)
    (seqS (ifS (boolE (binE eqF (varE 6) (cE (.int 2)))) (seqS (parS 7 8 (appE min2F (consA (varE 2) (consA (varE 3) nilA))) (appE max2F (consA (varE 2) (consA (varE 3) nilA))))
    (retS (ifE (boolE (binE ltF (varE 7) (varE 8))) (binE addF (binE addF (binE addF (binE addF (slE (varE 1) noO (someO (varE 7))) (binE ixF (varE 1) (varE 8))) (slE (varE 1) (someO (binE addF (varE 7) (cE (.int 1)))) (someO (varE 8)))) (binE ixF (varE 1) (varE 7))) (slE (varE 1) (someO (binE addF (varE 8) (cE (.int 1)))) noO)) (varE 1)))) nopS)
    (seqS (ifS (boolE (binE eqF (varE 6) (cE (.int 3)))) (retS (slE (varE 1) noO (someO (varE 2)))) nopS)
    (seqS (ifS (boolE (binE eqF (varE 6) (cE (.int 4)))) (retS (binE addF (binE addF (slE (varE 1) noO (someO (varE 2))) (varE 4)) (slE (varE 1) (someO (varE 2)) noO))) nopS)
    (retS (ifE (boolE (binE eqF (varE 6) (cE (.int 5)))) (binE addF (varE 1) (varE 4)) (binE addF (slE (varE 1) noO (someO (varE 2))) (slE (varE 1) (someO (binE addF (varE 2) (cE (.int 1)))) noO)))))))))))))
def f_l_spoilt := runIO g_l_spoilt 7
theorem ok_l_spoilt (T : Tx K mg) : FnG P w K mg base 3 T.a_l_spoilt T.fd_l_spoilt ["pot", "text"] (spIO K mg T.tabs 2 f_l_spoilt) :=
  io_G T.F_l_spoilt sc_l_spoilt rfl rfl fun cdv A outer s H E a hr hgd => by
    have hu := hr.units
    have hur := room100 hr
    exact ((SXs.cons (SX.par (ioX (by decide)) (ioX (by decide)) (fun _ h => ps_par (i := 2) (j := 3) rfl sc_l_spoilt.nd rfl rfl (by decide) rfl rfl h rfl) (EX.callIO (ok_l_draw T) (hr.mono (by decide)) hgd T.g_l_draw T.k_l_draw T.b_l_draw pass_cx (pv 0) (AX.cons (EX.callB ol_len cr_lenP T.n_len boot_len' (AX.cons (EX.var (ioX (by decide)) (pv 1)) AX.nil)) AX.nil)) (EX.callIO (ok_l_draw T) (hr.mono (by decide)) hgd T.g_l_draw T.k_l_draw T.b_l_draw pass_cx (pv 0) (AX.cons (EX.callB ol_len cr_lenP T.n_len boot_len' (AX.cons (EX.var (ioX (by decide)) (pv 1)) AX.nil)) AX.nil)))
    (SXs.cons (SX.set (EX.callIO (ok_l_pick T) (hr.mono (by decide)) hgd T.g_l_pick T.k_l_pick T.b_l_pick pass_cx (pv 0) (AX.cons (LX.ex (LX.callTy (ol_list rfl) (cr_listP rfl) T.n_list boot_list' (AX.cons EX.str AX.nil))) AX.nil)) (ioX (by decide)) (fun _ h => ps_set (i := 4) sc_l_spoilt.nd rfl (Or.inl rfl) h))
    (SXs.cons (SX.set (EX.bin o2_add op_addP (EX.bin o2_add op_addP (EX.slice (EX.var (ioX (by decide)) (pv 1)) OX.none (OX.some (EX.var (ioX (by decide)) (pv 2)))) (EX.var (ioX (by decide)) (pv 4))) (EX.slice (EX.var (ioX (by decide)) (pv 1)) (OX.some (EX.bin o2_add op_addP (EX.var (ioX (by decide)) (pv 2)) EX.int)) OX.none)) (ioX (by decide)) (fun _ h => ps_set (i := 5) sc_l_spoilt.nd rfl (Or.inl rfl) h))
    (SXs.cons (SX.set (EX.callIO (ok_l_draw T) (hr.mono (by decide)) hgd T.g_l_draw T.k_l_draw T.b_l_draw pass_cx (pv 0) (AX.cons EX.int AX.nil)) (ioX (by decide)) (fun _ h => ps_set (i := 6) sc_l_spoilt.nd rfl (Or.inl rfl) h))
    (SXs.cons (SX.ifS (TX.cmp o2_eq (op_eqP hu) (EX.var (ioX (by decide)) (pv 6)) EX.int) (SXs.one (SX.ret (EX.var (ioX (by decide)) (pv 5)))) SXs.nil)
    (SXs.cons (SX.ifS (TX.cmp o2_eq (op_eqP hu) (EX.var (ioX (by decide)) (pv 6)) EX.int) (SXs.one (SX.ret (EX.bin o2_add op_addP (EX.bin o2_add op_addP (EX.slice (EX.var (ioX (by decide)) (pv 5)) OX.none (OX.some (EX.var (ioX (by decide)) (pv 3)))) (EX.callIO (ok_l_pick T) (hr.mono (by decide)) hgd T.g_l_pick T.k_l_pick T.b_l_pick pass_cx (pv 0) (AX.cons (LX.ex (LX.callTy (ol_list rfl) (cr_listP rfl) T.n_list boot_list' (AX.cons EX.str AX.nil))) AX.nil))) (EX.slice (EX.var (ioX (by decide)) (pv 5)) (OX.some (EX.bin o2_add op_addP (EX.var (ioX (by decide)) (pv 3)) EX.int)) OX.none)))) SXs.nil)
    (SXs.cons (SX.ifS (TX.cmp o2_eq (op_eqP hu) (EX.var (ioX (by decide)) (pv 6)) EX.int) (SXs.cons (SX.par (ioX (by decide)) (ioX (by decide)) (fun _ h => ps_par (i := 7) (j := 8) rfl sc_l_spoilt.nd rfl rfl (by decide) rfl rfl h rfl) (EX.callB ol_min2 (call_min2 rfl) T.n_min boot_min' (AX.cons (EX.var (ioX (by decide)) (pv 2)) (AX.cons (EX.var (ioX (by decide)) (pv 3)) AX.nil))) (EX.callB ol_max2 (call_max2 rfl) T.n_max boot_max' (AX.cons (EX.var (ioX (by decide)) (pv 2)) (AX.cons (EX.var (ioX (by decide)) (pv 3)) AX.nil))))
    (SXs.one (SX.ret (EX.ifE (TX.cmp (o2_ord _ _) op_ltP (EX.var (ioX (by decide)) (pv 7)) (EX.var (ioX (by decide)) (pv 8))) (EX.bin o2_add op_addP (EX.bin o2_add op_addP (EX.bin o2_add op_addP (EX.bin o2_add op_addP (EX.slice (EX.var (ioX (by decide)) (pv 1)) OX.none (OX.some (EX.var (ioX (by decide)) (pv 7)))) (EX.ix o2_ix ix_seq (EX.var (ioX (by decide)) (pv 1)) (EX.var (ioX (by decide)) (pv 8)))) (EX.slice (EX.var (ioX (by decide)) (pv 1)) (OX.some (EX.bin o2_add op_addP (EX.var (ioX (by decide)) (pv 7)) EX.int)) (OX.some (EX.var (ioX (by decide)) (pv 8))))) (EX.ix o2_ix ix_seq (EX.var (ioX (by decide)) (pv 1)) (EX.var (ioX (by decide)) (pv 7)))) (EX.slice (EX.var (ioX (by decide)) (pv 1)) (OX.some (EX.bin o2_add op_addP (EX.var (ioX (by decide)) (pv 8)) EX.int)) OX.none)) (EX.var (ioX (by decide)) (pv 1)))))) SXs.nil)
    (SXs.cons (SX.ifS (TX.cmp o2_eq (op_eqP hu) (EX.var (ioX (by decide)) (pv 6)) EX.int) (SXs.one (SX.ret (EX.slice (EX.var (ioX (by decide)) (pv 1)) OX.none (OX.some (EX.var (ioX (by decide)) (pv 2)))))) SXs.nil)
    (SXs.cons (SX.ifS (TX.cmp o2_eq (op_eqP hu) (EX.var (ioX (by decide)) (pv 6)) EX.int) (SXs.one (SX.ret (EX.bin o2_add op_addP (EX.bin o2_add op_addP (EX.slice (EX.var (ioX (by decide)) (pv 1)) OX.none (OX.some (EX.var (ioX (by decide)) (pv 2)))) (EX.var (ioX (by decide)) (pv 4))) (EX.slice (EX.var (ioX (by decide)) (pv 1)) (OX.some (EX.var (ioX (by decide)) (pv 2))) OX.none)))) SXs.nil)
    (SXs.one (SX.ret (EX.ifE (TX.cmp o2_eq (op_eqP hu) (EX.var (ioX (by decide)) (pv 6)) EX.int) (EX.bin o2_add op_addP (EX.var (ioX (by decide)) (pv 1)) (EX.var (ioX (by decide)) (pv 4))) (EX.bin o2_add op_addP (EX.slice (EX.var (ioX (by decide)) (pv 1)) OX.none (OX.some (EX.var (ioX (by decide)) (pv 2)))) (EX.slice (EX.var (ioX (by decide)) (pv 1)) (OX.some (EX.bin o2_add op_addP (EX.var (ioX (by decide)) (pv 2)) EX.int)) OX.none)))))))))))))))
/-! _law_body -/
def g_l_body : GS := (seqS (asgS (lstE (lstF (consA (cE (.str "00 ann beats bob 0")) (consA (cE (.str "1 ann beats ann 0")) (consA (cE (.str "1 ann wins bob 0")) (consA (cE (.str "1  ann beats bob 0")) (consA (cE (.str "100 ann beats bob 0")) (consA (cE (.str "1 ann beats bob 100")) nilA)))))))) (nameT 1))
    (seqS (asgS (binE addF (varE 1) (lstE (lstF (consA (cE (.str "1 ann beats bob 01")) (consA (cE (.str "1 Ann beats bob 0")) (consA (cE (.str "1 ann beats bob")) nilA)))))) (nameT 1))
    (seqS (asgS (binE addF (varE 1) (lstE (lstF (consA (binE addF (binE addF (cE (.str "1 ")) (binE mulF (cE (.str "z")) (cE (.int 13)))) (cE (.str " beats bob 0"))) (consA (cE (.str " 1 ann beats bob 0")) (consA (cE (.str "1 ann beats bob 0 ")) (consA (cE (.str "-1 ann beats bob 0")) (consA (cE (.str "1 ann beats  0")) (consA (cE (.str "")) (consA (cE (.str "1 ann beats bob +1")) (consA (cE (.str "1 ann beats bob 0 0")) nilA))))))))))) (nameT 1))
    (seqS (asgS (callIO 0 2 f_l_pick (consA (varE 1) nilA)) (nameT 2))
    (retS (binE addF (binE addF (varE 2) (cE (.str " "))) (callE 1 f_l_check (consA (varE 2) nilA))))))))
def f_l_body := runIO g_l_body 2
theorem ok_l_body (T : Tx K mg) : FnG P w K mg base 3 T.a_l_body T.fd_l_body ["pot"] (spIO K mg T.tabs 1 f_l_body) :=
  io_G T.F_l_body sc_l_body rfl rfl fun cdv A outer s H E a hr hgd => by
    have hu := hr.units
    have hur := room100 hr
    exact ((SXs.cons (SX.set (LX.ex (LX.lst (AX.cons EX.str (AX.cons EX.str (AX.cons EX.str (AX.cons EX.str (AX.cons EX.str (AX.cons EX.str AX.nil)))))))) (ioX (by decide)) (fun _ h => ps_set (i := 1) sc_l_body.nd rfl (Or.inl rfl) h))
    (SXs.cons (SX.set (EX.bin o2_add op_addP (EX.var (ioX (by decide)) (pv 1)) (LX.ex (LX.lst (AX.cons EX.str (AX.cons EX.str (AX.cons EX.str AX.nil)))))) (ioX (by decide)) (fun _ h => ps_set (i := 1) sc_l_body.nd rfl (Or.inl rfl) h))
    (SXs.cons (SX.set (EX.bin o2_add op_addP (EX.var (ioX (by decide)) (pv 1)) (LX.ex (LX.lst (AX.cons (EX.bin o2_add op_addP (EX.bin o2_add op_addP EX.str (EX.bin o2_mul op_mulP EX.str EX.int)) EX.str) (AX.cons EX.str (AX.cons EX.str (AX.cons EX.str (AX.cons EX.str (AX.cons EX.str (AX.cons EX.str (AX.cons EX.str AX.nil))))))))))) (ioX (by decide)) (fun _ h => ps_set (i := 1) sc_l_body.nd rfl (Or.inl rfl) h))
    (SXs.cons (SX.set (EX.callIO (ok_l_pick T) (hr.mono (by decide)) hgd T.g_l_pick T.k_l_pick T.b_l_pick pass_cx (pv 0) (AX.cons (EX.var (ioX (by decide)) (pv 1)) AX.nil)) (ioX (by decide)) (fun _ h => ps_set (i := 2) sc_l_body.nd rfl (Or.inl rfl) h))
    (SXs.one (SX.ret (EX.bin o2_add op_addP (EX.bin o2_add op_addP (EX.var (ioX (by decide)) (pv 2)) EX.str) (EX.call (ok_l_check T) (hr.mono (by decide)) hgd T.g_l_check T.k_l_check T.b_l_check pass_cx (AX.cons (EX.var (ioX (by decide)) (pv 2)) AX.nil))))))))))
/-! _law_text_right -/
def g_l_text_right : GS := (seqS (asgS (callE 1 f_l_slip_of (consA (varE 0) nilA)) (nameT 1))
    (retS (binE eqF (appE reprF (consA (lstE (lstF (consA (callE 1 f_slip_of_text (consA (varE 0) nilA)) (consA (callE 1 f_slip_of_text (consA (varE 0) nilA)) nilA)))) nilA)) (appE reprF (consA (lstE (lstF (consA (varE 1) (consA (varE 1) nilA)))) nilA)))))
def f_l_text_right := runP g_l_text_right 1
theorem ok_l_text_right (T : Tx K mg) : FnG P w K mg base 6 T.a_l_text_right T.fd_l_text_right ["text"] (spP K mg T.tabs 1 f_l_text_right) :=
  pure_G T.F_l_text_right sc_l_text_right rfl rfl fun cdv A outer s H E hr hgd => by
    have hu := hr.units
    have hur := room100 hr
    exact ((SXs.cons (SX.set (EX.call (ok_l_slip_of T) (hr.mono (by decide)) hgd T.g_l_slip_of T.k_l_slip_of T.b_l_slip_of pass_cx (AX.cons (EX.var ioP (pv 0)) AX.nil)) ioP (fun _ h => ps_set (i := 1) sc_l_text_right.nd rfl (Or.inl rfl) h))
    (SXs.one (SX.ret (EX.cmp o2_eq (op_eqP hu) (EX.callB ol_repr (cr_repr hgd hur) T.n_repr boot_repr' (AX.cons (LX.ex (LX.lst (AX.cons (EX.call (FnG.of (ok_slip_of_text T)) (hr.mono (by decide)) hgd T.g_slip_of_text T.k_slip_of_text T.b_slip_of_text pass_cx (AX.cons (EX.var ioP (pv 0)) AX.nil)) (AX.cons (EX.callK (FnG.of (ok_slip_of_text T)) (hr.mono (by decide)) hgd T.g_slip_of_text T.k_slip_of_text T.bk_slip_of_text pass_cx (AKX.cons (EX.var ioP (pv 0)) AKX.nil)) AX.nil)))) AX.nil)) (EX.callB ol_repr (cr_repr hgd hur) T.n_repr boot_repr' (AX.cons (LX.ex (LX.lst (AX.cons (EX.var ioP (pv 1)) (AX.cons (EX.var ioP (pv 1)) AX.nil)))) AX.nil)))))))
end
end K26
end L2
set_option linter.all false
set_option maxRecDepth 100000
set_option maxHeartbeats 1000000
namespace L2
namespace K26
open PySem PySem.Spec PL
def drawV (a b many : Int) : Int × Int × Int := if 0 < a then (a % many, a / many, b) else
  ((((b * 48563 + 3217) % 2147483563) * ((b * 48563 + 3217) % 2147483563) % 2147483549 / 37) % many, a, (b * 48563 + 3217) % 2147483563)
def PotOk (a b : Int) : Prop := 0 ≤ a ∧ 0 ≤ b ∧ b ≤ 2147483563
theorem x_l_draw (a b many : Int) (hp : PotOk a b) (hm : 0 < many ∧ many < 1073741824) : f_l_draw [.int a, .int b] [.int many] = (.ok (.int (drawV a b many).1), [.int (drawV a b many).2.1, .int (drawV a b many).2.2]) := by
  unfold f_l_draw g_l_draw runIO drawV
  have m1 : ∀ x : Int, mulF (.int x) (.int 48563) = some (.int (x * 48563)) := fun x => mul_int (by unfold small64b; simp)
  have e1 : ∀ x, modF (.int x) (.int 2147483563) = some (.int (x % 2147483563)) := fun x => mod_int (by decide)
  have e2 : ∀ x, modF (.int x) (.int 2147483549) = some (.int (x % 2147483549)) := fun x => mod_int (by decide)
  have e3 : ∀ x, fdivF (.int x) (.int 37) = some (.int (x / 37)) := fun x => fdiv_int (by decide)
  have e4 : ∀ x, modF (.int x) (.int many) = some (.int (x % many)) := fun x => mod_int hm.1
  have i1 : ∀ x, intF [.int x] = some (.int x) := fun x => rfl
  have d1 : ∀ x, divmodF [.int x, .int many] = some (.tup [.int (x / many), .int (x % many)]) := fun x => by unfold divmodF; simp [hm]
  by_cases h : 0 < a
  · simp only [seqS, ifS, boolE, binE, unE, appE, ixOwnE, popOwnE, lenOwnE, cE, varE, retS, retNS, asgS, asgOwnS, parS, parOwnS, appendS, dropS, nopS, forS, forGo, seqI, range1I, range2I, enumI, rangeL, callE, callIO, callL, consA, nilA, nameT, tupT, consT, nilT, ownIxT, andE, orE, notE, andT, orT, notT, chainE, ifE, slE, someO, noO, lstE, lstF, appL, methE, isStrD, raiseS, rsIO, rsOf, own0, ofOpt, R.bind_ok, R.bind_er, R.bindS_ok, R.bindS_er, Option.bind_some, Option.map_some, List.map_cons, List.map_nil, List.cons_append, List.nil_append, List.replicate_succ, List.replicate_zero, List.getElem?_cons_zero, List.getElem?_cons_succ, List.length_cons, List.length_nil, List.set_cons_zero, List.set_cons_succ, isOwn, if_true, reduceIte, Bool.false_eq_true, Nat.reduceAdd, atI_0, atI_1, ixN_0, ixN_1, gt_int, lt_int, le_int, ge_int, add_int, sub_int, eq_int, ne_int, eq_str, ne_str, decide_true, decide_false, Nat.zero_add, h, d1]
  · have m2 : mulF (.int ((b * 48563 + 3217) % 2147483563)) (.int ((b * 48563 + 3217) % 2147483563)) = some (.int (((b * 48563 + 3217) % 2147483563) * ((b * 48563 + 3217) % 2147483563))) := mul_int (by
      unfold small64b
      have z1 := Int.emod_nonneg (b * 48563 + 3217) (show (2147483563 : Int) ≠ 0 by decide)
      have z2 := Int.emod_lt_of_pos (b * 48563 + 3217) (show (0 : Int) < 2147483563 by decide)
      simp only [Bool.or_self, decide_eq_true_eq]
      omega)
    simp only [seqS, ifS, boolE, binE, unE, appE, ixOwnE, popOwnE, lenOwnE, cE, varE, retS, retNS, asgS, asgOwnS, parS, parOwnS, appendS, dropS, nopS, forS, forGo, seqI, range1I, range2I, enumI, rangeL, callE, callIO, callL, consA, nilA, nameT, tupT, consT, nilT, ownIxT, andE, orE, notE, andT, orT, notT, chainE, ifE, slE, someO, noO, lstE, lstF, appL, methE, isStrD, raiseS, rsIO, rsOf, own0, ofOpt, R.bind_ok, R.bind_er, R.bindS_ok, R.bindS_er, Option.bind_some, Option.map_some, List.map_cons, List.map_nil, List.cons_append, List.nil_append, List.replicate_succ, List.replicate_zero, List.getElem?_cons_zero, List.getElem?_cons_succ, List.length_cons, List.length_nil, List.set_cons_zero, List.set_cons_succ, isOwn, if_true, reduceIte, Bool.false_eq_true, Nat.reduceAdd, atI_0, atI_1, ixN_0, ixN_1, gt_int, lt_int, le_int, ge_int, add_int, sub_int, eq_int, ne_int, eq_str, ne_str, decide_true, decide_false, Nat.zero_add, h, m1, m2, e1, e2, e3, e4, i1]
theorem drawV_ok (a b many : Int) (hp : PotOk a b) (hm : 0 < many) : 0 ≤ (drawV a b many).1 ∧ (drawV a b many).1 < many ∧ PotOk (drawV a b many).2.1 (drawV a b many).2.2 := by
  obtain ⟨h1, h2, h3⟩ := hp
  unfold drawV
  by_cases h : 0 < a
  · rw [if_pos h]
    exact ⟨Int.emod_nonneg _ (by omega), Int.emod_lt_of_pos _ hm, Int.ediv_nonneg h1 (by omega), h2, h3⟩
  · rw [if_neg h]
    have z1 := Int.emod_nonneg (b * 48563 + 3217) (show (2147483563 : Int) ≠ 0 by decide)
    have z2 := Int.emod_lt_of_pos (b * 48563 + 3217) (show (0 : Int) < 2147483563 by decide)
    exact ⟨Int.emod_nonneg _ (by omega), Int.emod_lt_of_pos _ hm, h1, z1, by show (b * 48563 + 3217) % 2147483563 ≤ 2147483563; omega⟩
end K26
end L2
set_option linter.all false
set_option maxRecDepth 100000
set_option maxHeartbeats 1000000
namespace L2
namespace K26
open PySem PySem.Spec PL
/-! the pot -/
theorem t_p1 : powF (.int 10) (.int 18) = some (.int (10 ^ 18)) := by
  have z : (decide ((0 : Int) ≤ 18 ∧ (18 : Int) ≤ 1000000 ∧ (10 : Int).natAbs < 2 ^ 64)) = true := by decide
  unfold powF intsF
  simp only [z, if_true]
  congr 1
theorem t_lm : 2 ≤ lim := by decide
def cellE : GE D := (ifE (boolE (binE ltF (varE 1) (appE lenF (consA (varE 0) nilA)))) (appE absF (consA (binE ixF (varE 0) (varE 1)) nilA)) (binE addF (binE mulF (cE (.int 5445)) (varE 1)) (cE (.int 3217))))
def outL : GE (List D) := (lstF (consA (appE max2F (consA (cE (.int 0)) (consA (binE subF (varE 2) (binE powF (cE (.int 10)) (cE (.int 18)))) nilA))) (consA (binE addF (binE modF (appE intF (consA (binE addF (binE addF (binE mulF (binE modF (appE intF (consA (varE 2) nilA)) (cE (.int 2147483549))) (cE (.int 42585))) (binE mulF (cE (.int 5445)) (varE 1))) (cE (.int 3217))) nilA)) (cE (.int 2147483563))) (cE (.int 1))) nilA)))
theorem pot_is : g_l_pot = seqL (asgS cellE (nameT 2)) outL := rfl
theorem cell_ok (ns : List Int) (k : Nat) : ∃ c : Int, cellE [.d (.fz (ns.map .int)), .d (.int k), .un] = .ok (.int c) [.d (.fz (ns.map .int)), .d (.int k), .un] := by
  have l1 : lenF [.fz (ns.map D.int)] = some (.int ns.length) := by unfold lenF lenSF; simp
  by_cases h : k < ns.length
  · refine ⟨if ns[k] < 0 then -ns[k] else ns[k], ?_⟩
    unfold cellE
    have ab : ∀ x, absF [.int x] = some (.int (if x < 0 then -x else x)) := fun x => rfl
    have hx : ixF (.fz (ns.map D.int)) (.int k) = some (.int ns[k]) := by
      show atI (ns.map D.int) (k : Int) = _
      unfold atI ixN
      rw [List.length_map, if_pos (by omega), if_pos (by omega)]
      simp [h]
    have hk2 : ((k : Int) < (ns.length : Int)) := by omega
    simp only [seqS, ifS, boolE, binE, unE, appE, ixOwnE, popOwnE, lenOwnE, cE, varE, retS, retNS, asgS, asgOwnS, parS, parOwnS, appendS, dropS, nopS, forS, forGo, seqI, range1I, range2I, enumI, rangeL, callE, callIO, callL, consA, nilA, nameT, tupT, consT, nilT, ownIxT, andE, orE, notE, andT, orT, notT, chainE, ifE, slE, someO, noO, lstE, lstF, appL, methE, isStrD, raiseS, rsIO, rsOf, own0, ofOpt, R.bind_ok, R.bind_er, R.bindS_ok, R.bindS_er, Option.bind_some, Option.map_some, List.map_cons, List.map_nil, List.cons_append, List.nil_append, List.replicate_succ, List.replicate_zero, List.getElem?_cons_zero, List.getElem?_cons_succ, List.length_cons, List.length_nil, List.set_cons_zero, List.set_cons_succ, isOwn, if_true, reduceIte, Bool.false_eq_true, Nat.reduceAdd, atI_0, atI_1, ixN_0, ixN_1, gt_int, lt_int, le_int, ge_int, add_int, sub_int, eq_int, ne_int, eq_str, ne_str, decide_true, decide_false, Nat.zero_add, l1, hk2, hx, ab]
  · refine ⟨5445 * k + 3217, ?_⟩
    unfold cellE
    have m2 : ∀ x : Int, mulF (.int 5445) (.int x) = some (.int (5445 * x)) := fun x => mul_int (by unfold small64b; simp)
    have hk2 : ¬ ((k : Int) < (ns.length : Int)) := by omega
    simp only [seqS, ifS, boolE, binE, unE, appE, ixOwnE, popOwnE, lenOwnE, cE, varE, retS, retNS, asgS, asgOwnS, parS, parOwnS, appendS, dropS, nopS, forS, forGo, seqI, range1I, range2I, enumI, rangeL, callE, callIO, callL, consA, nilA, nameT, tupT, consT, nilT, ownIxT, andE, orE, notE, andT, orT, notT, chainE, ifE, slE, someO, noO, lstE, lstF, appL, methE, isStrD, raiseS, rsIO, rsOf, own0, ofOpt, R.bind_ok, R.bind_er, R.bindS_ok, R.bindS_er, Option.bind_some, Option.map_some, List.map_cons, List.map_nil, List.cons_append, List.nil_append, List.replicate_succ, List.replicate_zero, List.getElem?_cons_zero, List.getElem?_cons_succ, List.length_cons, List.length_nil, List.set_cons_zero, List.set_cons_succ, isOwn, if_true, reduceIte, Bool.false_eq_true, Nat.reduceAdd, atI_0, atI_1, ixN_0, ixN_1, gt_int, lt_int, le_int, ge_int, add_int, sub_int, eq_int, ne_int, eq_str, ne_str, decide_true, decide_false, Nat.zero_add, l1, hk2, m2]
theorem out_ok (x : SV) (k c : Int) : ∃ a b, outL [x, .d (.int k), .d (.int c)] = .ok [.int a, .int b] [x, .d (.int k), .d (.int c)] ∧ PotOk a b := by
  have tp := t_p1
  generalize (10 : Int) ^ 18 = t at tp
  have m1 : ∀ x : Int, mulF (.int x) (.int 42585) = some (.int (x * 42585)) := fun x => mul_int (by unfold small64b; simp)
  have m2 : ∀ x : Int, mulF (.int 5445) (.int x) = some (.int (5445 * x)) := fun x => mul_int (by unfold small64b; simp)
  have e1 : ∀ x, modF (.int x) (.int 2147483563) = some (.int (x % 2147483563)) := fun x => mod_int (by decide)
  have e2 : ∀ x, modF (.int x) (.int 2147483549) = some (.int (x % 2147483549)) := fun x => mod_int (by decide)
  have i1 : ∀ x, intF [.int x] = some (.int x) := fun x => rfl
  have mx : ∀ x y, max2F [.int x, .int y] = some (.int (if y > x then y else x)) := fun x y => rfl
  refine ⟨if c - t > 0 then c - t else 0, (c % 2147483549 * 42585 + 5445 * k + 3217) % 2147483563 + 1, ?_, ?_⟩
  · unfold outL
    simp only [seqS, ifS, boolE, binE, unE, appE, ixOwnE, popOwnE, lenOwnE, cE, varE, retS, retNS, asgS, asgOwnS, parS, parOwnS, appendS, dropS, nopS, forS, forGo, seqI, range1I, range2I, enumI, rangeL, callE, callIO, callL, consA, nilA, nameT, tupT, consT, nilT, ownIxT, andE, orE, notE, andT, orT, notT, chainE, ifE, slE, someO, noO, lstE, lstF, appL, methE, isStrD, raiseS, rsIO, rsOf, own0, ofOpt, R.bind_ok, R.bind_er, R.bindS_ok, R.bindS_er, Option.bind_some, Option.map_some, List.map_cons, List.map_nil, List.cons_append, List.nil_append, List.replicate_succ, List.replicate_zero, List.getElem?_cons_zero, List.getElem?_cons_succ, List.length_cons, List.length_nil, List.set_cons_zero, List.set_cons_succ, isOwn, if_true, reduceIte, Bool.false_eq_true, Nat.reduceAdd, atI_0, atI_1, ixN_0, ixN_1, gt_int, lt_int, le_int, ge_int, add_int, sub_int, eq_int, ne_int, eq_str, ne_str, decide_true, decide_false, Nat.zero_add, tp, m1, m2, e1, e2, i1, mx, t_lm]
  · have z1 := Int.emod_nonneg (c % 2147483549 * 42585 + 5445 * k + 3217) (show (2147483563 : Int) ≠ 0 by decide)
    have z2 := Int.emod_lt_of_pos (c % 2147483549 * 42585 + 5445 * k + 3217) (show (0 : Int) < 2147483563 by decide)
    refine ⟨?_, by omega, by omega⟩
    by_cases h : c - t > 0
    · rw [if_pos h]; omega
    · rw [if_neg h]; omega
theorem x_l_pot (ns : List Int) (k : Nat) : ∃ a b, f_l_pot [.fz (ns.map .int), .int k] = some [.int a, .int b] ∧ PotOk a b := by
  obtain ⟨c, hc⟩ := cell_ok ns k
  obtain ⟨a, b, ho, hp⟩ := out_ok (.d (.fz (ns.map .int))) k c
  refine ⟨a, b, ?_, hp⟩
  unfold f_l_pot runL
  rw [pot_is]
  simp only [seqL, seqS, ifS, boolE, binE, unE, appE, ixOwnE, popOwnE, lenOwnE, cE, varE, retS, retNS, asgS, asgOwnS, parS, parOwnS, appendS, dropS, nopS, forS, forGo, seqI, range1I, range2I, enumI, rangeL, callE, callIO, callL, consA, nilA, nameT, tupT, consT, nilT, ownIxT, andE, orE, notE, andT, orT, notT, chainE, ifE, slE, someO, noO, lstE, lstF, appL, methE, isStrD, raiseS, rsIO, rsOf, own0, ofOpt, R.bind_ok, R.bind_er, R.bindS_ok, R.bindS_er, Option.bind_some, Option.map_some, List.map_cons, List.map_nil, List.cons_append, List.nil_append, List.replicate_succ, List.replicate_zero, List.getElem?_cons_zero, List.getElem?_cons_succ, List.length_cons, List.length_nil, List.set_cons_zero, List.set_cons_succ, isOwn, if_true, reduceIte, Bool.false_eq_true, Nat.reduceAdd, atI_0, atI_1, ixN_0, ixN_1, gt_int, lt_int, le_int, ge_int, add_int, sub_int, eq_int, ne_int, eq_str, ne_str, decide_true, decide_false, Nat.zero_add, hc, ho]
/-- what a draw leaves -/
theorem x_draw (a b many : Int) (hp : PotOk a b) (hm : 0 < many ∧ many < 1073741824) : ∃ d a' b', f_l_draw [.int a, .int b] [.int many] = (.ok (.int d), [.int a', .int b']) ∧ 0 ≤ d ∧ d < many ∧ PotOk a' b' := by
  obtain ⟨h1, h2, h3⟩ := drawV_ok a b many hp hm.1
  exact ⟨_, _, _, x_l_draw a b many hp hm, h1, h2, h3⟩
theorem x_drawN (a b : Int) (n : Nat) (hp : PotOk a b) (hm : 0 < n ∧ n < 1073741824) : ∃ (d : Nat) (a' b' : Int), f_l_draw [.int a, .int b] [.int n] = (.ok (.int d), [.int a', .int b']) ∧ d < n ∧ PotOk a' b' := by
  obtain ⟨d, a', b', e, h1, h2, h3⟩ := x_draw a b n hp ⟨by omega, by omega⟩
  refine ⟨d.toNat, a', b', ?_, by omega, h3⟩
  rw [show ((d.toNat : Nat) : Int) = d by omega]
  exact e
theorem x_pick (a b : Int) (hp : PotOk a b) (xs : List D) (h0 : xs ≠ []) (hl : xs.length < 1073741824) : ∃ d a' b', f_l_pick [.int a, .int b] [.lst xs] = (.ok d, [.int a', .int b']) ∧ d ∈ xs ∧ PotOk a' b' := by
  have hpos : 0 < xs.length := List.length_pos_iff.mpr h0
  obtain ⟨j, a', b', e, hj, h3⟩ := x_drawN a b xs.length hp ⟨hpos, hl⟩
  refine ⟨xs[j], a', b', ?_, List.getElem_mem _, h3⟩
  have l1 : lenF [.lst xs] = some (.int xs.length) := rfl
  have hx : ixF (.lst xs) (.int j) = some xs[j] := by
    show atI xs (j : Int) = _
    unfold atI ixN
    rw [if_pos (by omega), if_pos (by omega)]
    simp [hj]
  unfold f_l_pick g_l_pick runIO
  simp only [seqS, ifS, boolE, binE, unE, appE, ixOwnE, popOwnE, lenOwnE, cE, varE, retS, retNS, asgS, asgOwnS, parS, parOwnS, appendS, dropS, nopS, forS, forGo, seqI, range1I, range2I, enumI, rangeL, callE, callIO, callL, consA, nilA, nameT, tupT, consT, nilT, ownIxT, andE, orE, notE, andT, orT, notT, chainE, ifE, slE, someO, noO, lstE, lstF, appL, methE, isStrD, raiseS, rsIO, rsOf, own0, ofOpt, R.bind_ok, R.bind_er, R.bindS_ok, R.bindS_er, Option.bind_some, Option.map_some, List.map_cons, List.map_nil, List.cons_append, List.nil_append, List.replicate_succ, List.replicate_zero, List.getElem?_cons_zero, List.getElem?_cons_succ, List.length_cons, List.length_nil, List.set_cons_zero, List.set_cons_succ, isOwn, if_true, reduceIte, Bool.false_eq_true, Nat.reduceAdd, atI_0, atI_1, ixN_0, ixN_1, gt_int, lt_int, le_int, ge_int, add_int, sub_int, eq_int, ne_int, eq_str, ne_str, decide_true, decide_false, Nat.zero_add, l1, e, hx]
end K26
end L2
set_option linter.all false
set_option maxRecDepth 100000
set_option maxHeartbeats 1000000
namespace L2
namespace K26
open PySem PySem.Spec PL TL
open _root_.SX (S S_len S_cat S_tl S_inj split_S join_S num_S int_S)
/-! numbers as texts -/
def pad3 (n : Nat) : List Nat := List.replicate (3 - (numL n).length) 48 ++ numL n
theorem numL_len3 {n : Nat} (h : n < 1000) : 1 ≤ (numL n).length ∧ (numL n).length ≤ 3 := by
  have := numL_ne n
  refine ⟨?_, numL_len (by decide) (by omega)⟩
  cases e : numL n with
  | nil => exact absurd e this
  | cons a l => simp
theorem pad3_len {n : Nat} (h : n < 1000) : (pad3 n).length = 3 := by
  have := numL_len3 h
  unfold pad3
  rw [List.length_append, List.length_replicate]
  omega
theorem ofNum (n : Nat) : Str.ofString (toString ((n : Nat) : Int)) = S (numL n) := num_S n
theorem strI_ok (n : Nat) (h : n < 1000000) : strIF [.int n] = some (.str (S (numL n))) := by
  unfold strIF
  have hl : ((n : Int).natAbs).log2 < 1920 := by
    rw [Int.natAbs_natCast]
    by_cases h0 : n = 0
    · subst h0; decide
    · have : n.log2 < 20 := (Nat.log2_lt h0).mpr (Nat.lt_trans h (by decide))
      omega
  show (if _ then _ else _) = _
  rw [if_pos hl, ofNum]
theorem s_zero : ("0" : Str) = S [48] := rfl
theorem repS_1 (k : Nat) : repS (S [48]) k = S (List.replicate k 48) := by
  unfold repS
  suffices ∀ acc : Array Nat, (List.replicate k (S [48]).cps).foldl (· ++ ·) acc = (acc.toList ++ List.replicate k 48).toArray by
    rw [this #[]]
    rfl
  induction k with
  | zero => intro acc; simp
  | succ k ih =>
    intro acc
    rw [List.replicate_succ, List.foldl_cons, ih]
    simp [List.replicate_succ, S]
theorem mul0 (j : Nat) (h : j ≤ 3) : mulF (.str ("0" : Str)) (.int j) = some (.str (S (List.replicate j 48))) := by
  unfold mulF orF intsF strMulF
  rw [s_zero]
  have hl : (S [48]).length = 1 := rfl
  by_cases h0 : j = 0
  · subst h0; rfl
  · by_cases h1 : j = 1
    · subst h1; rfl
    · have a1 : ¬ ((j : Int) < 1 ∧ -(2 ^ 62) ≤ (j : Int)) := by omega
      have a2 : ¬ ((j : Int) = 1) := by omega
      have a3 : (1 : Int) < j ∧ 0 < (S [48]).length ∧ (S [48]).length * (j : Int).toNat ≤ lim ∧ (j : Int) ≤ lim := by
        rw [hl]
        unfold lim
        omega
      simp only [if_neg a1, if_neg a2]
      rw [if_pos a3, Int.toNat_natCast, repS_1]
theorem x_padded (n : Nat) (h : n < 1000) : f_padded [.int n] = .ok (.str (S (pad3 n))) := by
  have hl := numL_len3 h
  have l1 : lenF [.str (S (numL n))] = some (.int ((numL n).length : Nat)) := by
    unfold lenF lenSF lenTF
    simp only [S_len]
    rw [if_pos (by unfold lim; omega)]
  have c3 : c_DIGITS_slips = .int 3 := rfl
  have sb : subF (.int 3) (.int ((numL n).length : Nat)) = some (.int ((3 - (numL n).length : Nat) : Int)) := by
    rw [sub_int]
    congr 2
    omega
  have ad : addF (.str (S (List.replicate (3 - (numL n).length) 48))) (.str (S (numL n))) = some (.str (S (pad3 n))) := by
    rw [add_str (by rw [S_len, S_len, List.length_replicate]; unfold lim; omega), S_cat]
    rfl
  unfold f_padded g_padded runP
  simp only [seqS, ifS, boolE, binE, unE, appE, ixOwnE, popOwnE, lenOwnE, cE, varE, retS, retNS, asgS, asgOwnS, parS, parOwnS, appendS, dropS, nopS, forS, forGo, seqI, range1I, range2I, enumI, rangeL, callE, callIO, callL, consA, nilA, nameT, tupT, consT, nilT, ownIxT, andE, orE, notE, andT, orT, notT, chainE, ifE, slE, someO, noO, lstE, lstF, appL, methE, isStrD, raiseS, rsIO, rsOf, own0, ofOpt, R.bind_ok, R.bind_er, R.bindS_ok, R.bindS_er, Option.bind_some, Option.map_some, List.map_cons, List.map_nil, List.cons_append, List.nil_append, List.replicate_succ, List.replicate_zero, List.getElem?_cons_zero, List.getElem?_cons_succ, List.length_cons, List.length_nil, List.set_cons_zero, List.set_cons_succ, isOwn, if_true, reduceIte, Bool.false_eq_true, Nat.reduceAdd, atI_0, atI_1, ixN_0, ixN_1, gt_int, lt_int, le_int, ge_int, add_int, sub_int, eq_int, ne_int, eq_str, ne_str, decide_true, decide_false, Nat.zero_add, strI_ok n (by omega), l1, c3, sb, mul0 _ (show 3 - (numL n).length ≤ 3 by omega), ad]
end K26
end L2
set_option linter.all false
set_option maxRecDepth 100000
set_option maxHeartbeats 1000000
namespace L2
namespace K26
open PySem PySem.Spec PL TL
open _root_.SX (S S_len S_cat S_tl S_inj split_S join_S num_S int_S)
/-! the sums -/
theorem filt {α : Type} (l : List α) : l.filter (fun _ => true) = l := by simp
def codes (a : List Nat) : List Int := a.map fun (c : Nat) => (c : Int) - 32
def wsum : Nat → List Int → Int
  | _, [] => 0
  | i, c :: r => c * ((i : Int) + 1) + wsum (i + 1) r
def s1 (a : List Nat) : Int := (codes a).sum
def s2 (a : List Nat) : Int := wsum 0 (codes a)
def m997 (x : Int) : Nat := (x % 997).toNat
def chk (a : List Nat) : List Nat := pad3 (m997 (s1 a)) ++ pad3 (m997 (s2 a))
theorem m997_lt (x : Int) : m997 x < 997 := by
  unfold m997
  have := Int.emod_lt_of_pos x (show (0 : Int) < 997 by decide)
  have := Int.emod_nonneg x (show (997 : Int) ≠ 0 by decide)
  omega
theorem m997_int (x : Int) : ((m997 x : Nat) : Int) = x % 997 := by
  unfold m997
  have := Int.emod_nonneg x (show (997 : Int) ≠ 0 by decide)
  omega
theorem intsOf_ints : ∀ l : List Int, intsOf (l.map D.int) = some l
  | [] => rfl
  | x :: l => by
    show (intsOf (l.map D.int)).map (x :: ·) = _
    rw [intsOf_ints l]
    rfl
theorem sum_ints (l : List Int) : sumF [.lst (l.map D.int)] = some (.int l.sum) := by
  show (intsOf (l.map D.int)).map _ = _
  rw [intsOf_ints l]
  rfl
theorem ord_one (c : Nat) : ordChF [.str ⟨#[c]⟩] = some (.int c) := rfl
theorem ord_sp : ordChF [.str (" " : Str)] = some (.int 32) := rfl
def codeD : D → D
  | .str x => .int ((x.cps.getD 0 0 : Nat) - 32)
  | d => d
theorem signs_codes (a : List Nat) : (((signs (S a)).filter fun _ => true).map codeD) = (codes a).map D.int := by
  unfold signs codes
  rw [filt, List.map_map, List.map_map]
  rfl
def wtD : D → D
  | .tup [.int i, .int c] => .int (c * (i + 1))
  | d => d
theorem enum_w : ∀ (l : List Int) (i : Nat), (((enumL i (l.map D.int)).filter fun _ => true).map wtD) = (enumL i (l.map D.int)).map wtD := fun l i => by rw [filt]
theorem enum_sum : ∀ (l : List Int) (i : Nat), intsOf ((enumL i (l.map D.int)).map wtD) = some ((List.range l.length).zipWith (fun j c => c * ((i + j : Nat) + 1 : Int)) l) ∧ ((List.range l.length).zipWith (fun j c => c * ((i + j : Nat) + 1 : Int)) l).sum = wsum i l
  | [], i => ⟨rfl, rfl⟩
  | c :: l, i => by
    obtain ⟨h1, h2⟩ := enum_sum l (i + 1)
    have e : (List.range (c :: l).length).zipWith (fun j c => c * ((i + j : Nat) + 1 : Int)) (c :: l) = c * ((i : Int) + 1) :: (List.range l.length).zipWith (fun j c => c * ((i + 1 + j : Nat) + 1 : Int)) l := by
      rw [List.length_cons, List.range_succ_eq_map, List.zipWith_cons_cons, List.zipWith_map_left]
      congr 1
      congr 1
      funext j c
      congr 2
      push_cast
      omega
    constructor
    · show (intsOf ((enumL (i + 1) (l.map D.int)).map wtD)).map _ = _
      rw [h1, e]
      rfl
    · rw [e, List.sum_cons, h2]
      rfl
theorem wsum_ok (l : List Int) : sumF [.lst ((enumL 0 (l.map D.int)).map wtD)] = some (.int (wsum 0 l)) := by
  obtain ⟨h1, h2⟩ := enum_sum l 0
  show (intsOf _).map _ = _
  rw [h1]
  show some (D.int _) = _
  rw [h2]
theorem enum_mem : ∀ {l : List Int} {i : Nat} {d : D}, d ∈ enumL i (l.map D.int) → ∃ (j : Nat) (c : Int), d = .tup [.int j, .int c] ∧ j < i + l.length
  | [], _, _, h => by cases h
  | x :: l, i, d, h => by
    rcases List.mem_cons.mp h with e | h
    · exact ⟨i, x, e, by rw [List.length_cons]; omega⟩
    · obtain ⟨j, c, e, hj⟩ := enum_mem h
      exact ⟨j, c, e, by rw [List.length_cons]; omega⟩
theorem x_check_in (a : List Nat) (hl : a.length ≤ 1000) : f_check_in [.str (S a)] = .ok (.str (S (chk a))) := by
  have hc : lcE [3] (seqI (varE 0)) (nameT 3) yesT (binE subF (appE ordChF (consA (varE 3) nilA)) (appE ordChF (consA (cE (.str " ")) nilA))) [.d (.str (S a)), .un, .un, .un, .un, .un] = .ok ((codes a).map .int) [.d (.str (S a)), .un, .un, .un, .un, .un] := by
    refine (lcE_pure (vs := [3]) (gi := seqI (varE 0)) (fun _ => true) codeD (items := signs (S a)) (ρ1 := [.d (.str (S a)), .un, .un, .un, .un, .un]) rfl rfl (by unfold signs lim; simp; omega) rfl ?_).trans (by rw [signs_codes])
    intro d hd
    obtain ⟨c, hc, rfl⟩ := List.mem_map.mp hd
    exact ⟨_, rfl, rfl, rfl, fun _ => rfl⟩
  have hw : ∀ x : SV, lcE [4, 5] (enumI (consA (varE 1) nilA)) (tupT (consT (nameT 4) (consT (nameT 5) nilT))) yesT (binE mulF (varE 5) (binE addF (varE 4) (cE (.int 1)))) [x, .own ((codes a).map .int), .un, .un, .un, .un] = .ok ((enumL 0 ((codes a).map .int)).map wtD) [x, .d (.lst ((codes a).map .int)), .un, .un, .un, .un] := by
    intro x
    refine (lcE_pure (vs := [4, 5]) (gi := enumI (consA (varE 1) nilA)) (fun _ => true) wtD (items := enumL 0 ((codes a).map .int)) (ρ1 := [x, .d (.lst ((codes a).map .int)), .un, .un, .un, .un]) rfl rfl (by rw [enumL_len, List.length_map]; unfold codes lim; rw [List.length_map]; omega) rfl ?_).trans (by rw [enum_w])
    intro d hd
    obtain ⟨j, c, rfl, hj⟩ := enum_mem hd
    refine ⟨[x, .d (.lst ((codes a).map .int)), .un, .un, .d (.int j), .d (.int c)], rfl, rfl, rfl, fun _ => ?_⟩
    have hm : mulF (.int c) (.int ((j : Int) + 1)) = some (.int (c * ((j : Int) + 1))) := mul_int (by
      unfold codes at hj
      rw [List.length_map] at hj
      unfold small64b
      simp only [Bool.or_eq_true, decide_eq_true_eq]
      omega)
    simp only [seqS, ifS, boolE, binE, unE, appE, ixOwnE, popOwnE, lenOwnE, cE, varE, retS, retNS, asgS, asgOwnS, parS, parOwnS, appendS, dropS, nopS, forS, forGo, seqI, range1I, range2I, enumI, rangeL, callE, callIO, callL, consA, nilA, nameT, tupT, consT, nilT, ownIxT, andE, orE, notE, andT, orT, notT, chainE, ifE, slE, someO, noO, lstE, lstF, appL, methE, isStrD, raiseS, rsIO, rsOf, own0, ofOpt, R.bind_ok, R.bind_er, R.bindS_ok, R.bindS_er, Option.bind_some, Option.map_some, List.map_cons, List.map_nil, List.cons_append, List.nil_append, List.replicate_succ, List.replicate_zero, List.getElem?_cons_zero, List.getElem?_cons_succ, List.length_cons, List.length_nil, List.set_cons_zero, List.set_cons_succ, isOwn, if_true, reduceIte, Bool.false_eq_true, Nat.reduceAdd, atI_0, atI_1, ixN_0, ixN_1, gt_int, lt_int, le_int, ge_int, add_int, sub_int, eq_int, ne_int, eq_str, ne_str, decide_true, decide_false, Nat.zero_add, hm]
    rfl
  have hp : c_PRIME = .int 997 := rfl
  have e1 : ∀ x, modF (.int x) (.int 997) = some (.int (x % 997)) := fun x => mod_int (by decide)
  have p1 : ∀ x : Int, f_padded [.int (x % 997)] = .ok (.str (S (pad3 (m997 x)))) := fun x => by
    rw [← m997_int]
    exact x_padded _ (by have := m997_lt x; omega)
  have ad : addF (.str (S (pad3 (m997 (codes a).sum)))) (.str (S (pad3 (m997 (wsum 0 (codes a)))))) = some (.str (S (chk a))) := by
    rw [add_str (by rw [S_len, S_len, pad3_len (by have := m997_lt (codes a).sum; omega), pad3_len (by have := m997_lt (wsum 0 (codes a)); omega)]; unfold lim; omega), S_cat]
    rfl
  have w1 := wsum_ok (codes a)
  have w2 := sum_ints (codes a)
  unfold f_check_in g_check_in runP
  simp only [seqS, ifS, boolE, binE, unE, appE, ixOwnE, popOwnE, lenOwnE, cE, varE, retS, retNS, asgS, asgOwnS, parS, parOwnS, appendS, dropS, nopS, forS, forGo, seqI, range1I, range2I, enumI, rangeL, callE, callIO, callL, consA, nilA, nameT, tupT, consT, nilT, ownIxT, andE, orE, notE, andT, orT, notT, chainE, ifE, slE, someO, noO, lstE, lstF, appL, methE, isStrD, raiseS, rsIO, rsOf, own0, ofOpt, R.bind_ok, R.bind_er, R.bindS_ok, R.bindS_er, Option.bind_some, Option.map_some, List.map_cons, List.map_nil, List.cons_append, List.nil_append, List.replicate_succ, List.replicate_zero, List.getElem?_cons_zero, List.getElem?_cons_succ, List.length_cons, List.length_nil, List.set_cons_zero, List.set_cons_succ, isOwn, if_true, reduceIte, Bool.false_eq_true, Nat.reduceAdd, atI_0, atI_1, ixN_0, ixN_1, gt_int, lt_int, le_int, ge_int, add_int, sub_int, eq_int, ne_int, eq_str, ne_str, decide_true, decide_false, Nat.zero_add, hc, hw, w1, w2, hp, e1, p1, ad]
end K26
end L2
set_option linter.all false
set_option maxRecDepth 100000
set_option maxHeartbeats 1000000
namespace L2
namespace K26
open PySem PySem.Spec PL TL
open _root_.SX (S S_len S_cat S_tl S_inj split_S join_S num_S int_S)
theorem s_000 : ("000" : Str) = S [48, 48, 48] := rfl
theorem drop000 (n : Nat) (h : n < 1000) : ([48, 48, 48] ++ numL n).drop (numL n).length = pad3 n := by
  have hl := numL_len3 h
  unfold pad3
  rw [List.drop_append_of_le_length (by simp; omega)]
  congr 1
  have : (numL n).length = 1 ∨ (numL n).length = 2 ∨ (numL n).length = 3 := by omega
  rcases this with e | e | e <;> rw [e] <;> rfl
theorem cut3 (n : Nat) (h : n < 1000) : slF (.str (S ([48, 48, 48] ++ numL n))) (some (-3)) none = some (.str (S (pad3 n))) := by
  have hl := numL_len3 h
  have e : (S ([48, 48, 48] ++ numL n)).length = 3 + (numL n).length := by rw [S_len, List.length_append]; rfl
  show (if (S ([48, 48, 48] ++ numL n)).length ≤ lim then some (D.str (cutS (S ([48, 48, 48] ++ numL n)) (some (-3)) none)) else none) = _
  rw [if_pos (by rw [e]; unfold lim; omega)]
  unfold cutS
  rw [e]
  have i1 : HT.sIx (3 + (numL n).length) 0 (some (-3)) = (numL n).length := by
    unfold HT.sIx
    simp
    omega
  rw [i1]
  show some (D.str (S _)) = _
  congr 3
  show ((([48, 48, 48] ++ numL n).drop (numL n).length).take (3 + (numL n).length - (numL n).length)) = _
  rw [drop000 n h, Nat.add_sub_cancel, List.take_of_length_le (by rw [pad3_len h]; exact Nat.le_refl _)]
def z3 (n : Nat) : List Nat := [48, 48, 48] ++ numL n
theorem x_l_check (a : List Nat) (hl : a.length ≤ 1000) : f_l_check [.str (S a)] = .ok (.str (S (chk a))) := by
  have hc : lcE [4] (seqI (varE 0)) (nameT 4) yesT (binE subF (appE ordChF (consA (varE 4) nilA)) (cE (.int 32))) [.d (.str (S a)), .un, .un, .un, .un, .un, .un] = .ok ((codes a).map .int) [.d (.str (S a)), .un, .un, .un, .un, .un, .un] := by
    refine (lcE_pure (vs := [4]) (gi := seqI (varE 0)) (fun _ => true) codeD (items := signs (S a)) (ρ1 := [.d (.str (S a)), .un, .un, .un, .un, .un, .un]) rfl rfl (by unfold signs lim; simp; omega) rfl ?_).trans (by rw [signs_codes])
    intro d hd
    obtain ⟨c, hc, rfl⟩ := List.mem_map.mp hd
    exact ⟨_, rfl, rfl, rfl, fun _ => rfl⟩
  have hw : ∀ x : SV, lcE [5, 6] (enumI (consA (varE 1) nilA)) (tupT (consT (nameT 5) (consT (nameT 6) nilT))) yesT (binE mulF (varE 6) (binE addF (varE 5) (cE (.int 1)))) [x, .d (.lst ((codes a).map .int)), .un, .un, .un, .un, .un] = .ok ((enumL 0 ((codes a).map .int)).map wtD) [x, .d (.lst ((codes a).map .int)), .un, .un, .un, .un, .un] := by
    intro x
    refine (lcE_pure (vs := [5, 6]) (gi := enumI (consA (varE 1) nilA)) (fun _ => true) wtD (items := enumL 0 ((codes a).map .int)) (ρ1 := [x, .d (.lst ((codes a).map .int)), .un, .un, .un, .un, .un]) rfl rfl (by rw [enumL_len, List.length_map]; unfold codes lim; rw [List.length_map]; omega) rfl ?_).trans (by rw [enum_w])
    intro d hd
    obtain ⟨j, c, rfl, hj⟩ := enum_mem hd
    refine ⟨[x, .d (.lst ((codes a).map .int)), .un, .un, .un, .d (.int j), .d (.int c)], rfl, rfl, rfl, fun _ => ?_⟩
    have hm : mulF (.int c) (.int ((j : Int) + 1)) = some (.int (c * ((j : Int) + 1))) := mul_int (by
      unfold codes at hj
      rw [List.length_map] at hj
      unfold small64b
      simp only [Bool.or_eq_true, decide_eq_true_eq]
      omega)
    simp only [seqS, ifS, boolE, binE, unE, appE, ixOwnE, popOwnE, lenOwnE, cE, varE, retS, retNS, asgS, asgOwnS, parS, parOwnS, appendS, dropS, nopS, forS, forGo, seqI, range1I, range2I, enumI, rangeL, callE, callIO, callL, consA, nilA, nameT, tupT, consT, nilT, ownIxT, andE, orE, notE, andT, orT, notT, chainE, ifE, slE, someO, noO, lstE, lstF, appL, methE, isStrD, raiseS, rsIO, rsOf, own0, ofOpt, R.bind_ok, R.bind_er, R.bindS_ok, R.bindS_er, Option.bind_some, Option.map_some, List.map_cons, List.map_nil, List.cons_append, List.nil_append, List.replicate_succ, List.replicate_zero, List.getElem?_cons_zero, List.getElem?_cons_succ, List.length_cons, List.length_nil, List.set_cons_zero, List.set_cons_succ, isOwn, if_true, reduceIte, Bool.false_eq_true, Nat.reduceAdd, atI_0, atI_1, ixN_0, ixN_1, gt_int, lt_int, le_int, ge_int, add_int, sub_int, eq_int, ne_int, eq_str, ne_str, decide_true, decide_false, Nat.zero_add, hm]
    rfl
  have e1 : ∀ x, modF (.int x) (.int 997) = some (.int (x % 997)) := fun x => mod_int (by decide)
  have t1 : ∀ x : Int, strIF [.int (x % 997)] = some (.str (S (numL (m997 x)))) := fun x => by
    rw [← m997_int]
    exact strI_ok _ (by have := m997_lt x; omega)
  have a1 : ∀ x : Int, addF (.str ("000" : Str)) (.str (S (numL (m997 x)))) = some (.str (S (z3 (m997 x)))) := fun x => by
    have := numL_len3 (show m997 x < 1000 by have := m997_lt x; omega)
    rw [s_000, add_str (by rw [S_len, S_len]; unfold lim; simp; omega), S_cat]
    rfl
  have n1 : negF (.int 3) = some (.int (-3)) := rfl
  have c1 : ∀ x : Int, slF (.str (S (z3 (m997 x)))) (some (-3)) none = some (.str (S (pad3 (m997 x)))) := fun x => cut3 _ (by have := m997_lt x; omega)
  have ad : addF (.str (S (pad3 (m997 (codes a).sum)))) (.str (S (pad3 (m997 (wsum 0 (codes a)))))) = some (.str (S (chk a))) := by
    rw [add_str (by rw [S_len, S_len, pad3_len (by have := m997_lt (codes a).sum; omega), pad3_len (by have := m997_lt (wsum 0 (codes a)); omega)]; unfold lim; omega), S_cat]
    rfl
  have w1 := wsum_ok (codes a)
  have w2 := sum_ints (codes a)
  unfold f_l_check g_l_check runP
  simp only [seqS, ifS, boolE, binE, unE, appE, ixOwnE, popOwnE, lenOwnE, cE, varE, retS, retNS, asgS, asgOwnS, parS, parOwnS, appendS, dropS, nopS, forS, forGo, seqI, range1I, range2I, enumI, rangeL, callE, callIO, callL, consA, nilA, nameT, tupT, consT, nilT, ownIxT, andE, orE, notE, andT, orT, notT, chainE, ifE, slE, someO, noO, lstE, lstF, appL, methE, isStrD, raiseS, rsIO, rsOf, own0, ofOpt, R.bind_ok, R.bind_er, R.bindS_ok, R.bindS_er, Option.bind_some, Option.map_some, List.map_cons, List.map_nil, List.cons_append, List.nil_append, List.replicate_succ, List.replicate_zero, List.getElem?_cons_zero, List.getElem?_cons_succ, List.length_cons, List.length_nil, List.set_cons_zero, List.set_cons_succ, isOwn, if_true, reduceIte, Bool.false_eq_true, Nat.reduceAdd, atI_0, atI_1, ixN_0, ixN_1, gt_int, lt_int, le_int, ge_int, add_int, sub_int, eq_int, ne_int, eq_str, ne_str, decide_true, decide_false, Nat.zero_add, hc, hw, w1, w2, e1, t1, a1, n1, c1, ad]
end K26
end L2
set_option linter.all false
set_option maxRecDepth 100000
set_option maxHeartbeats 1000000
namespace L2
namespace K26
open PySem PySem.Spec PL TL
open _root_.SX (S S_len S_cat S_tl S_inj split_S join_S num_S int_S)
/-! slips -/
def verb : Nat → List Nat
  | 0 => [121, 105, 101, 108, 100, 115]
  | 1 => [100, 114, 97, 119, 115]
  | _ => [98, 101, 97, 116, 115]
theorem verb_0 : ("yields" : Str) = S (verb 0) := rfl
theorem verb_1 : ("draws" : Str) = S (verb 1) := rfl
theorem verb_2 : ("beats" : Str) = S (verb 2) := rfl
def slipD (n : Nat) (one other : List Nat) (t m : Nat) : D := .tup [.str ("slip" : Str), .int n, .str (S one), .str (S other), .int t, .int m]
def bodyL (n : Nat) (one other : List Nat) (t m : Nat) : List Nat := joinL [32] [numL n, one, verb t, other, numL m]
def textL (n : Nat) (one other : List Nat) (t m : Nat) : List Nat := bodyL n one other t m ++ (32 :: chk (bodyL n one other t m))
structure Good (n : Nat) (one other : List Nat) (t m : Nat) : Prop where
  n : n ≤ 99
  m : m ≤ 99
  t : t ≤ 2
  one : one.length ≤ 12
  other : other.length ≤ 12
theorem verb_len (t : Nat) : (verb t).length ≤ 6 := by
  match t with
  | 0 => decide
  | 1 => decide
  | k + 2 => exact (by decide : 5 ≤ 6)
section
variable {n t m : Nat} {one other : List Nat}
theorem bodyL_len (h : Good n one other t m) : (bodyL n one other t m).length ≤ 100 := by
  have h1 := (numL_len3 (show n < 1000 by have := h.n; omega)).2
  have h2 := (numL_len3 (show m < 1000 by have := h.m; omega)).2
  have h3 := verb_len t
  have h4 := h.one
  have h5 := h.other
  unfold bodyL
  simp only [joinL, List.length_append, List.length_cons, List.length_nil]
  omega
theorem verbs_ix (ht : t ≤ 2) : ixF c_VERBS (.int t) = some (.str (S (verb t))) := by
  have : t = 0 ∨ t = 1 ∨ t = 2 := by omega
  rcases this with e | e | e <;> subst e <;> rfl
theorem x_body_of (h : Good n one other t m) : f_body_of [slipD n one other t m] = .ok (.str (S (bodyL n one other t m))) := by
  have hb := bodyL_len h
  have i1 : ixF (slipD n one other t m) (.int 1) = some (.int n) := rfl
  have i2 : ixF (slipD n one other t m) (.int 2) = some (.str (S one)) := rfl
  have i3 : ixF (slipD n one other t m) (.int 3) = some (.str (S other)) := rfl
  have i4 : ixF (slipD n one other t m) (.int 4) = some (.int t) := rfl
  have i5 : ixF (slipD n one other t m) (.int 5) = some (.int m) := rfl
  have t1 := strI_ok n (by have := h.n; omega)
  have t2 := strI_ok m (by have := h.m; omega)
  have vx := verbs_ix h.t
  have lm : (5 : Nat) ≤ lim := by decide
  have jn : joinF (.str (" " : Str)) [.lst [.str (S (numL n)), .str (S one), .str (S (verb t)), .str (S other), .str (S (numL m))]] = some (.str (S (bodyL n one other t m))) := by
    have e : [S (numL n), S one, S (verb t), S other, S (numL m)] = [numL n, one, verb t, other, numL m].map S := rfl
    show (if _ then some (D.str (Txt.join (" " : Str) [S (numL n), S one, S (verb t), S other, S (numL m)])) else none) = _
    have h1 := (numL_len3 (show n < 1000 by have := h.n; omega)).2
    have h2 := (numL_len3 (show m < 1000 by have := h.m; omega)).2
    have h3 := verb_len t
    have h4 := h.one
    have h5 := h.other
    rw [if_pos (by
      simp only [List.map_cons, List.map_nil, S_len, List.sum_cons, List.sum_nil, List.length_cons, List.length_nil]
      have : (" " : Str).length = 1 := rfl
      rw [this]
      unfold lim
      omega), e]
    show some (D.str (Txt.join (S [32]) _)) = _
    rw [join_S]
    rfl
  unfold f_body_of g_body_of runP
  simp only [seqS, ifS, boolE, binE, unE, appE, ixOwnE, popOwnE, lenOwnE, cE, varE, retS, retNS, asgS, asgOwnS, parS, parOwnS, appendS, dropS, nopS, forS, forGo, seqI, range1I, range2I, enumI, rangeL, callE, callIO, callL, consA, nilA, nameT, tupT, consT, nilT, ownIxT, andE, orE, notE, andT, orT, notT, chainE, ifE, slE, someO, noO, lstE, lstF, appL, methE, isStrD, raiseS, rsIO, rsOf, own0, ofOpt, R.bind_ok, R.bind_er, R.bindS_ok, R.bindS_er, Option.bind_some, Option.map_some, List.map_cons, List.map_nil, List.cons_append, List.nil_append, List.replicate_succ, List.replicate_zero, List.getElem?_cons_zero, List.getElem?_cons_succ, List.length_cons, List.length_nil, List.set_cons_zero, List.set_cons_succ, isOwn, if_true, reduceIte, Bool.false_eq_true, Nat.reduceAdd, atI_0, atI_1, ixN_0, ixN_1, gt_int, lt_int, le_int, ge_int, add_int, sub_int, eq_int, ne_int, eq_str, ne_str, decide_true, decide_false, Nat.zero_add, i1, i2, i3, i4, i5, t1, t2, vx, lm, jn]
theorem chk_len (a : List Nat) : (chk a).length = 6 := by
  unfold chk
  rw [List.length_append, pad3_len (by have := m997_lt (s1 a); omega), pad3_len (by have := m997_lt (s2 a); omega)]
theorem add_sp (a : List Nat) (ha : a.length ≤ 1000) : addF (.str (S a)) (.str (" " : Str)) = some (.str (S (a ++ [32]))) := by
  show addF (.str (S a)) (.str (S [32])) = _
  rw [add_str (by rw [S_len, S_len]; unfold lim; simp; omega), S_cat]
theorem add_chk (a : List Nat) (ha : a.length ≤ 1000) : addF (.str (S (a ++ [32]))) (.str (S (chk a))) = some (.str (S (a ++ 32 :: chk a))) := by
  rw [add_str (by rw [S_len, S_len, chk_len]; unfold lim; simp; omega), S_cat, List.append_assoc]
  rfl
theorem x_text_of (h : Good n one other t m) : f_text_of [slipD n one other t m] = .ok (.str (S (textL n one other t m))) := by
  have hb := bodyL_len h
  have c1 := x_check_in (bodyL n one other t m) (by omega)
  have a1 := add_sp (bodyL n one other t m) (by omega)
  have a2 := add_chk (bodyL n one other t m) (by omega)
  unfold f_text_of g_text_of runP
  simp only [seqS, ifS, boolE, binE, unE, appE, ixOwnE, popOwnE, lenOwnE, cE, varE, retS, retNS, asgS, asgOwnS, parS, parOwnS, appendS, dropS, nopS, forS, forGo, seqI, range1I, range2I, enumI, rangeL, callE, callIO, callL, consA, nilA, nameT, tupT, consT, nilT, ownIxT, andE, orE, notE, andT, orT, notT, chainE, ifE, slE, someO, noO, lstE, lstF, appL, methE, isStrD, raiseS, rsIO, rsOf, own0, ofOpt, R.bind_ok, R.bind_er, R.bindS_ok, R.bindS_er, Option.bind_some, Option.map_some, List.map_cons, List.map_nil, List.cons_append, List.nil_append, List.replicate_succ, List.replicate_zero, List.getElem?_cons_zero, List.getElem?_cons_succ, List.length_cons, List.length_nil, List.set_cons_zero, List.set_cons_succ, isOwn, if_true, reduceIte, Bool.false_eq_true, Nat.reduceAdd, atI_0, atI_1, ixN_0, ixN_1, gt_int, lt_int, le_int, ge_int, add_int, sub_int, eq_int, ne_int, eq_str, ne_str, decide_true, decide_false, Nat.zero_add, x_body_of h, c1, a1, a2]
  rfl
theorem add_S (a b : List Nat) (h : a.length + b.length ≤ 1000) : addF (.str (S a)) (.str (S b)) = some (.str (S (a ++ b))) := by
  rw [add_str (by rw [S_len, S_len]; unfold lim; omega), S_cat]
theorem x_l_slip_text (h : Good n one other t m) : f_l_slip_text [slipD n one other t m] = .ok (.str (S (textL n one other t m))) := by
  have hb := bodyL_len h
  have h1 := (numL_len3 (show n < 1000 by have := h.n; omega)).2
  have h2 := (numL_len3 (show m < 1000 by have := h.m; omega)).2
  have h3 := verb_len t
  have h4 := h.one
  have h5 := h.other
  have t1 := strI_ok n (by have := h.n; omega)
  have t2 := strI_ok m (by have := h.m; omega)
  have vx : ixF (.lst [.str ("yields" : Str), .str ("draws" : Str), .str ("beats" : Str)]) (.int t) = some (.str (S (verb t))) := by
    have := h.t
    have : t = 0 ∨ t = 1 ∨ t = 2 := by omega
    rcases this with e | e | e <;> subst e <;> rfl
  have lm : (3 : Nat) ≤ lim := by decide
  have c1 := x_l_check (bodyL n one other t m) (by omega)
  have a1 := add_sp (bodyL n one other t m) (by omega)
  have a2 := add_chk (bodyL n one other t m) (by omega)
  have b1 := add_sp (numL n) (by omega)
  have b2 := add_S (numL n ++ [32]) one (by simp; omega)
  have b3 := add_sp (numL n ++ [32] ++ one) (by simp; omega)
  have b4 := add_S (numL n ++ [32] ++ one ++ [32]) (verb t) (by simp; omega)
  have b5 := add_sp (numL n ++ [32] ++ one ++ [32] ++ verb t) (by simp; omega)
  have b6 := add_S (numL n ++ [32] ++ one ++ [32] ++ verb t ++ [32]) other (by simp; omega)
  have b7 := add_sp (numL n ++ [32] ++ one ++ [32] ++ verb t ++ [32] ++ other) (by simp; omega)
  have b8 : addF (.str (S (numL n ++ [32] ++ one ++ [32] ++ verb t ++ [32] ++ other ++ [32]))) (.str (S (numL m))) = some (.str (S (bodyL n one other t m))) := by
    rw [add_S _ _ (by simp; omega)]
    congr 3
    unfold bodyL
    simp [joinL]
  generalize numL n ++ [32] ++ one ++ [32] ++ verb t ++ [32] ++ other ++ [32] = z8 at b7 b8
  generalize numL n ++ [32] ++ one ++ [32] ++ verb t ++ [32] ++ other = z7 at b6 b7
  generalize numL n ++ [32] ++ one ++ [32] ++ verb t ++ [32] = z6 at b5 b6
  generalize numL n ++ [32] ++ one ++ [32] ++ verb t = z5 at b4 b5
  generalize numL n ++ [32] ++ one ++ [32] = z4 at b3 b4
  generalize numL n ++ [32] ++ one = z3' at b2 b3
  generalize numL n ++ [32] = z2 at b1 b2
  unfold f_l_slip_text g_l_slip_text runP slipD
  simp only [seqS, ifS, boolE, binE, unE, appE, ixOwnE, popOwnE, lenOwnE, cE, varE, retS, retNS, asgS, asgOwnS, parS, parOwnS, appendS, dropS, nopS, forS, forGo, seqI, range1I, range2I, enumI, rangeL, callE, callIO, callL, consA, nilA, nameT, tupT, consT, nilT, ownIxT, andE, orE, notE, andT, orT, notT, chainE, ifE, slE, someO, noO, lstE, lstF, appL, methE, isStrD, raiseS, rsIO, rsOf, own0, ofOpt, R.bind_ok, R.bind_er, R.bindS_ok, R.bindS_er, Option.bind_some, Option.map_some, List.map_cons, List.map_nil, List.cons_append, List.nil_append, List.replicate_succ, List.replicate_zero, List.getElem?_cons_zero, List.getElem?_cons_succ, List.length_cons, List.length_nil, List.set_cons_zero, List.set_cons_succ, isOwn, if_true, reduceIte, Bool.false_eq_true, Nat.reduceAdd, atI_0, atI_1, ixN_0, ixN_1, gt_int, lt_int, le_int, ge_int, add_int, sub_int, eq_int, ne_int, eq_str, ne_str, decide_true, decide_false, Nat.zero_add, t1, t2, vx, lm, b1, b2, b3, b4, b5, b6, b7, b8, c1, a1, a2]
  rfl
end
end K26
end L2
set_option linter.all false
set_option maxRecDepth 100000
set_option maxHeartbeats 1000000
namespace L2
namespace K26
open PySem PySem.Spec PL TL
open _root_.SX (S S_len S_cat S_tl S_inj split_S join_S num_S int_S)
/-! what is a slip -/
def isInt : D → Bool | .int _ => true | _ => false
def within (d : D) (a b : Int) : Bool := match d with | .int i => decide (a ≤ i) && decide (i ≤ b) | _ => false
theorem x_is_integer (d : D) : f_is_integer [d] = .ok (.bl (isInt d)) := by cases d <;> rfl
theorem x_is_within (d : D) (a b : Int) : f_is_within [d, .int a, .int b] = .ok (.bl (within d a b)) := by
  unfold f_is_within g_is_within runP
  simp only [seqS, ifS, boolE, binE, unE, appE, ixOwnE, popOwnE, lenOwnE, cE, varE, retS, retNS, asgS, asgOwnS, parS, parOwnS, appendS, dropS, nopS, forS, forGo, seqI, range1I, range2I, enumI, rangeL, callE, callIO, callL, consA, nilA, nameT, tupT, consT, nilT, ownIxT, andE, orE, notE, andT, orT, notT, chainE, ifE, slE, someO, noO, lstE, lstF, appL, methE, isStrD, raiseS, rsIO, rsOf, own0, ofOpt, R.bind_ok, R.bind_er, R.bindS_ok, R.bindS_er, Option.bind_some, Option.map_some, List.map_cons, List.map_nil, List.cons_append, List.nil_append, List.replicate_succ, List.replicate_zero, List.getElem?_cons_zero, List.getElem?_cons_succ, List.length_cons, List.length_nil, List.set_cons_zero, List.set_cons_succ, isOwn, if_true, reduceIte, Bool.false_eq_true, Nat.reduceAdd, atI_0, atI_1, ixN_0, ixN_1, gt_int, lt_int, le_int, ge_int, add_int, sub_int, eq_int, ne_int, eq_str, ne_str, decide_true, decide_false, Nat.zero_add, x_is_integer]
  cases d with
  | int i =>
    simp only [isInt, within]
    by_cases h : a ≤ i
    · simp only [seqS, ifS, boolE, binE, unE, appE, ixOwnE, popOwnE, lenOwnE, cE, varE, retS, retNS, asgS, asgOwnS, parS, parOwnS, appendS, dropS, nopS, forS, forGo, seqI, range1I, range2I, enumI, rangeL, callE, callIO, callL, consA, nilA, nameT, tupT, consT, nilT, ownIxT, andE, orE, notE, andT, orT, notT, chainE, ifE, slE, someO, noO, lstE, lstF, appL, methE, isStrD, raiseS, rsIO, rsOf, own0, ofOpt, R.bind_ok, R.bind_er, R.bindS_ok, R.bindS_er, Option.bind_some, Option.map_some, List.map_cons, List.map_nil, List.cons_append, List.nil_append, List.replicate_succ, List.replicate_zero, List.getElem?_cons_zero, List.getElem?_cons_succ, List.length_cons, List.length_nil, List.set_cons_zero, List.set_cons_succ, isOwn, if_true, reduceIte, Bool.false_eq_true, Nat.reduceAdd, atI_0, atI_1, ixN_0, ixN_1, gt_int, lt_int, le_int, ge_int, add_int, sub_int, eq_int, ne_int, eq_str, ne_str, decide_true, decide_false, Nat.zero_add, h, Bool.true_and]
    · simp only [seqS, ifS, boolE, binE, unE, appE, ixOwnE, popOwnE, lenOwnE, cE, varE, retS, retNS, asgS, asgOwnS, parS, parOwnS, appendS, dropS, nopS, forS, forGo, seqI, range1I, range2I, enumI, rangeL, callE, callIO, callL, consA, nilA, nameT, tupT, consT, nilT, ownIxT, andE, orE, notE, andT, orT, notT, chainE, ifE, slE, someO, noO, lstE, lstF, appL, methE, isStrD, raiseS, rsIO, rsOf, own0, ofOpt, R.bind_ok, R.bind_er, R.bindS_ok, R.bindS_er, Option.bind_some, Option.map_some, List.map_cons, List.map_nil, List.cons_append, List.nil_append, List.replicate_succ, List.replicate_zero, List.getElem?_cons_zero, List.getElem?_cons_succ, List.length_cons, List.length_nil, List.set_cons_zero, List.set_cons_succ, isOwn, if_true, reduceIte, Bool.false_eq_true, Nat.reduceAdd, atI_0, atI_1, ixN_0, ixN_1, gt_int, lt_int, le_int, ge_int, add_int, sub_int, eq_int, ne_int, eq_str, ne_str, decide_true, decide_false, Nat.zero_add, h, Bool.false_and]
  | _ => rfl
def isTup (d : D) (n : Nat) : Bool := match d with | .tup xs => decide (xs.length = n) | _ => false
theorem x_is_tuple (d : D) (n : Nat) : f_is_tuple [d, .int n] = .ok (.bl (isTup d n)) := by
  unfold f_is_tuple g_is_tuple runP
  cases d with
  | tup xs =>
    have e1 : isiF "tuple" (.tup xs) = some (.bl true) := rfl
    have e2 : lenF [.tup xs] = some (.int xs.length) := rfl
    simp only [seqS, ifS, boolE, binE, unE, appE, ixOwnE, popOwnE, lenOwnE, cE, varE, retS, retNS, asgS, asgOwnS, parS, parOwnS, appendS, dropS, nopS, forS, forGo, seqI, range1I, range2I, enumI, rangeL, callE, callIO, callL, consA, nilA, nameT, tupT, consT, nilT, ownIxT, andE, orE, notE, andT, orT, notT, chainE, ifE, slE, someO, noO, lstE, lstF, appL, methE, isStrD, raiseS, rsIO, rsOf, own0, ofOpt, R.bind_ok, R.bind_er, R.bindS_ok, R.bindS_er, Option.bind_some, Option.map_some, List.map_cons, List.map_nil, List.cons_append, List.nil_append, List.replicate_succ, List.replicate_zero, List.getElem?_cons_zero, List.getElem?_cons_succ, List.length_cons, List.length_nil, List.set_cons_zero, List.set_cons_succ, isOwn, if_true, reduceIte, Bool.false_eq_true, Nat.reduceAdd, atI_0, atI_1, ixN_0, ixN_1, gt_int, lt_int, le_int, ge_int, add_int, sub_int, eq_int, ne_int, eq_str, ne_str, decide_true, decide_false, Nat.zero_add, e1, e2, isTup]
    congr 2
    by_cases h : xs.length = n
    · simp [h]
    · have : ¬ ((xs.length : Int) = (n : Int)) := by omega
      simp [h, this]
  | _ => rfl
def low (c : Nat) : Bool := decide (97 ≤ c) && decide (c ≤ 122)
def isName (a : List Nat) : Bool := decide (1 ≤ a.length) && decide (a.length ≤ 12) && a.all low
def isNameD : D → Bool | .str x => isName x.cps.toList | _ => false
theorem letters_is : c_LETTERS = .str (S (List.range' 97 26)) := rfl
theorem in_letters (c : Nat) : inF (.str ⟨#[c]⟩) c_LETTERS = some (.bl (low c)) := by
  rw [letters_is]
  show some (D.bl (decide (c ∈ List.range' 97 26))) = _
  congr 2
  unfold low
  rw [← Bool.decide_and]
  apply decide_eq_decide.mpr
  rw [List.mem_range'_1]
  omega
theorem bls_map (p : Nat → Bool) : ∀ l : List Nat, blsOf (l.map fun c => D.bl (p c)) = some (l.map p)
  | [] => rfl
  | c :: l => by
    show (blsOf (l.map fun c => D.bl (p c))).map (p c :: ·) = _
    rw [bls_map p l]
    rfl
theorem all_map (p : Nat → Bool) (l : List Nat) : allF [.lst (l.map fun c => D.bl (p c))] = some (.bl (l.all p)) := by
  show (blsOf _).map _ = _
  rw [bls_map]
  show some (D.bl ((l.map p).all id)) = _
  rw [List.all_map]
  rfl
def chD (p : Nat → Bool) : D → D
  | .str x => .bl (p (x.cps.getD 0 0))
  | d => d
theorem signs_ch (p : Nat → Bool) (a : List Nat) : (((signs (S a)).filter fun _ => true).map (chD p)) = a.map fun c => D.bl (p c) := by
  unfold signs
  rw [filt, List.map_map]
  rfl
theorem x_is_name (a : List Nat) (hl : a.length ≤ 1000) : f_is_name_value [.str (S a)] = .ok (.bl (isName a)) := by
  have hc : lcE [1] (seqI (varE 0)) (nameT 1) yesT (binE inF (varE 1) (cE c_LETTERS)) [.d (.str (S a)), .un] = .ok (a.map fun c => D.bl (low c)) [.d (.str (S a)), .un] := by
    refine (lcE_pure (vs := [1]) (gi := seqI (varE 0)) (fun _ => true) (chD low) (items := signs (S a)) (ρ1 := [.d (.str (S a)), .un]) rfl rfl (by unfold signs lim; simp; omega) rfl ?_).trans (by rw [signs_ch])
    intro d hd
    obtain ⟨c, hc, rfl⟩ := List.mem_map.mp hd
    refine ⟨[.d (.str (S a)), .d (.str ⟨#[c]⟩)], rfl, rfl, rfl, fun _ => ?_⟩
    simp only [seqS, ifS, boolE, binE, unE, appE, ixOwnE, popOwnE, lenOwnE, cE, varE, retS, retNS, asgS, asgOwnS, parS, parOwnS, appendS, dropS, nopS, forS, forGo, seqI, range1I, range2I, enumI, rangeL, callE, callIO, callL, consA, nilA, nameT, tupT, consT, nilT, ownIxT, andE, orE, notE, andT, orT, notT, chainE, ifE, slE, someO, noO, lstE, lstF, appL, methE, isStrD, raiseS, rsIO, rsOf, own0, ofOpt, R.bind_ok, R.bind_er, R.bindS_ok, R.bindS_er, Option.bind_some, Option.map_some, List.map_cons, List.map_nil, List.cons_append, List.nil_append, List.replicate_succ, List.replicate_zero, List.getElem?_cons_zero, List.getElem?_cons_succ, List.length_cons, List.length_nil, List.set_cons_zero, List.set_cons_succ, isOwn, if_true, reduceIte, Bool.false_eq_true, Nat.reduceAdd, atI_0, atI_1, ixN_0, ixN_1, gt_int, lt_int, le_int, ge_int, add_int, sub_int, eq_int, ne_int, eq_str, ne_str, decide_true, decide_false, Nat.zero_add, in_letters]
    rfl
  have e1 : isiF "str" (.str (S a)) = some (.bl true) := rfl
  have e2 : lenF [.str (S a)] = some (.int a.length) := by
    unfold lenF lenSF lenTF
    simp only [S_len]
    rw [if_pos (by unfold lim; omega)]
  have e3 : c_MOST_NAME = .int 12 := rfl
  have e4 := all_map low a
  unfold f_is_name_value g_is_name_value runP isName
  by_cases h1 : 1 ≤ a.length
  · have h1' : (1 : Int) ≤ a.length := by omega
    by_cases h2 : a.length ≤ 12
    · have h2' : (a.length : Int) ≤ 12 := by omega
      simp only [seqS, ifS, boolE, binE, unE, appE, ixOwnE, popOwnE, lenOwnE, cE, varE, retS, retNS, asgS, asgOwnS, parS, parOwnS, appendS, dropS, nopS, forS, forGo, seqI, range1I, range2I, enumI, rangeL, callE, callIO, callL, consA, nilA, nameT, tupT, consT, nilT, ownIxT, andE, orE, notE, andT, orT, notT, chainE, ifE, slE, someO, noO, lstE, lstF, appL, methE, isStrD, raiseS, rsIO, rsOf, own0, ofOpt, R.bind_ok, R.bind_er, R.bindS_ok, R.bindS_er, Option.bind_some, Option.map_some, List.map_cons, List.map_nil, List.cons_append, List.nil_append, List.replicate_succ, List.replicate_zero, List.getElem?_cons_zero, List.getElem?_cons_succ, List.length_cons, List.length_nil, List.set_cons_zero, List.set_cons_succ, isOwn, if_true, reduceIte, Bool.false_eq_true, Nat.reduceAdd, atI_0, atI_1, ixN_0, ixN_1, gt_int, lt_int, le_int, ge_int, add_int, sub_int, eq_int, ne_int, eq_str, ne_str, decide_true, decide_false, Nat.zero_add, e1, e2, e3, h1', h2', hc, e4, h1, h2, Bool.true_and]
    · have h2' : ¬ (a.length : Int) ≤ 12 := by omega
      simp only [seqS, ifS, boolE, binE, unE, appE, ixOwnE, popOwnE, lenOwnE, cE, varE, retS, retNS, asgS, asgOwnS, parS, parOwnS, appendS, dropS, nopS, forS, forGo, seqI, range1I, range2I, enumI, rangeL, callE, callIO, callL, consA, nilA, nameT, tupT, consT, nilT, ownIxT, andE, orE, notE, andT, orT, notT, chainE, ifE, slE, someO, noO, lstE, lstF, appL, methE, isStrD, raiseS, rsIO, rsOf, own0, ofOpt, R.bind_ok, R.bind_er, R.bindS_ok, R.bindS_er, Option.bind_some, Option.map_some, List.map_cons, List.map_nil, List.cons_append, List.nil_append, List.replicate_succ, List.replicate_zero, List.getElem?_cons_zero, List.getElem?_cons_succ, List.length_cons, List.length_nil, List.set_cons_zero, List.set_cons_succ, isOwn, if_true, reduceIte, Bool.false_eq_true, Nat.reduceAdd, atI_0, atI_1, ixN_0, ixN_1, gt_int, lt_int, le_int, ge_int, add_int, sub_int, eq_int, ne_int, eq_str, ne_str, decide_true, decide_false, Nat.zero_add, e1, e2, e3, h1', h2', hc, e4, h1, h2, Bool.true_and, Bool.false_and]
  · have h1' : ¬ (1 : Int) ≤ a.length := by omega
    simp only [seqS, ifS, boolE, binE, unE, appE, ixOwnE, popOwnE, lenOwnE, cE, varE, retS, retNS, asgS, asgOwnS, parS, parOwnS, appendS, dropS, nopS, forS, forGo, seqI, range1I, range2I, enumI, rangeL, callE, callIO, callL, consA, nilA, nameT, tupT, consT, nilT, ownIxT, andE, orE, notE, andT, orT, notT, chainE, ifE, slE, someO, noO, lstE, lstF, appL, methE, isStrD, raiseS, rsIO, rsOf, own0, ofOpt, R.bind_ok, R.bind_er, R.bindS_ok, R.bindS_er, Option.bind_some, Option.map_some, List.map_cons, List.map_nil, List.cons_append, List.nil_append, List.replicate_succ, List.replicate_zero, List.getElem?_cons_zero, List.getElem?_cons_succ, List.length_cons, List.length_nil, List.set_cons_zero, List.set_cons_succ, isOwn, if_true, reduceIte, Bool.false_eq_true, Nat.reduceAdd, atI_0, atI_1, ixN_0, ixN_1, gt_int, lt_int, le_int, ge_int, add_int, sub_int, eq_int, ne_int, eq_str, ne_str, decide_true, decide_false, Nat.zero_add, e1, e2, e3, h1', hc, e4, h1, Bool.false_and]
theorem x_is_nameD (d : D) (hl : ∀ x, d = .str x → x.length ≤ 1000) : f_is_name_value [d] = .ok (.bl (isNameD d)) := by
  cases d with
  | str x =>
    have e : x = S x.cps.toList := (S_tl x).symm
    have := hl x rfl
    rw [e]
    exact x_is_name _ (by rw [← S_len, ← e]; exact this)
  | _ => rfl
/-! a tuple of six -/
def sameS : D → D → Bool
  | .str x, .str y => decide (x = y)
  | _, _ => true
theorem ne_names {c d : D} (hn : isNameD c = true) (hm : isNameD d = true) : neF c d = some (.bl (!sameS c d)) := by
  cases c <;> first | cases hn | skip
  cases d <;> first | cases hm | skip
  rfl
def okSix (a b c d e f : D) : Bool := match a with
  | .str z => decide (z = ("slip" : Str)) && (within b 0 99 && (within f 0 99 && (within e 0 2 && (isNameD c && (isNameD d && !sameS c d)))))
  | _ => false
theorem x_is_slip6 (a b c d e f : D) (hc : ∀ x, c = .str x → x.length ≤ 1000) (hd : ∀ x, d = .str x → x.length ≤ 1000) : f_is_slip_value [.tup [a, b, c, d, e, f]] = .ok (.bl (okSix a b c d e f)) := by
  have t6 : f_is_tuple [.tup [a, b, c, d, e, f], .int 6] = .ok (.bl true) := x_is_tuple (.tup [a, b, c, d, e, f]) 6
  have i0 : ixF (.tup [a, b, c, d, e, f]) (.int 0) = some a := rfl
  have i1 : ixF (.tup [a, b, c, d, e, f]) (.int 1) = some b := rfl
  have i2 : ixF (.tup [a, b, c, d, e, f]) (.int 2) = some c := rfl
  have i3 : ixF (.tup [a, b, c, d, e, f]) (.int 3) = some d := rfl
  have i4 : ixF (.tup [a, b, c, d, e, f]) (.int 4) = some e := rfl
  have i5 : ixF (.tup [a, b, c, d, e, f]) (.int 5) = some f := rfl
  have c1 : c_SLIP = .str ("slip" : Str) := rfl
  have c2 : c_MOST_NUMBER = .int 99 := rfl
  have w1 := x_is_within b 0 99
  have w2 := x_is_within f 0 99
  have w3 := x_is_within e 0 2
  have n1 := x_is_nameD c hc
  have n2 := x_is_nameD d hd
  unfold f_is_slip_value g_is_slip_value runP
  cases a with
  | str z =>
    have s1 : isiF "str" (.str z) = some (.bl true) := rfl
    unfold okSix
    by_cases hz : z = ("slip" : Str)
    · subst hz
      have hz : decide (("slip" : Str) = ("slip" : Str)) = true := decide_eq_true rfl
      cases hb : within b 0 99
      · simp only [seqS, ifS, boolE, binE, unE, appE, ixOwnE, popOwnE, lenOwnE, cE, varE, retS, retNS, asgS, asgOwnS, parS, parOwnS, appendS, dropS, nopS, forS, forGo, seqI, range1I, range2I, enumI, rangeL, callE, callIO, callL, consA, nilA, nameT, tupT, consT, nilT, ownIxT, andE, orE, notE, andT, orT, notT, chainE, ifE, slE, someO, noO, lstE, lstF, appL, methE, isStrD, raiseS, rsIO, rsOf, own0, ofOpt, R.bind_ok, R.bind_er, R.bindS_ok, R.bindS_er, Option.bind_some, Option.map_some, List.map_cons, List.map_nil, List.cons_append, List.nil_append, List.replicate_succ, List.replicate_zero, List.getElem?_cons_zero, List.getElem?_cons_succ, List.length_cons, List.length_nil, List.set_cons_zero, List.set_cons_succ, isOwn, if_true, reduceIte, Bool.false_eq_true, Nat.reduceAdd, atI_0, atI_1, ixN_0, ixN_1, gt_int, lt_int, le_int, ge_int, add_int, sub_int, eq_int, ne_int, eq_str, ne_str, decide_true, decide_false, Nat.zero_add, t6, i0, i1, s1, c1, c2, hz, w1, hb, Bool.not_true, Bool.not_false, Bool.true_and, Bool.false_and]
      · cases hf : within f 0 99
        · simp only [seqS, ifS, boolE, binE, unE, appE, ixOwnE, popOwnE, lenOwnE, cE, varE, retS, retNS, asgS, asgOwnS, parS, parOwnS, appendS, dropS, nopS, forS, forGo, seqI, range1I, range2I, enumI, rangeL, callE, callIO, callL, consA, nilA, nameT, tupT, consT, nilT, ownIxT, andE, orE, notE, andT, orT, notT, chainE, ifE, slE, someO, noO, lstE, lstF, appL, methE, isStrD, raiseS, rsIO, rsOf, own0, ofOpt, R.bind_ok, R.bind_er, R.bindS_ok, R.bindS_er, Option.bind_some, Option.map_some, List.map_cons, List.map_nil, List.cons_append, List.nil_append, List.replicate_succ, List.replicate_zero, List.getElem?_cons_zero, List.getElem?_cons_succ, List.length_cons, List.length_nil, List.set_cons_zero, List.set_cons_succ, isOwn, if_true, reduceIte, Bool.false_eq_true, Nat.reduceAdd, atI_0, atI_1, ixN_0, ixN_1, gt_int, lt_int, le_int, ge_int, add_int, sub_int, eq_int, ne_int, eq_str, ne_str, decide_true, decide_false, Nat.zero_add, t6, i0, i1, i5, s1, c1, c2, hz, w1, w2, hb, hf, Bool.not_true, Bool.not_false, Bool.true_and, Bool.false_and]
        · cases he : within e 0 2
          · simp only [seqS, ifS, boolE, binE, unE, appE, ixOwnE, popOwnE, lenOwnE, cE, varE, retS, retNS, asgS, asgOwnS, parS, parOwnS, appendS, dropS, nopS, forS, forGo, seqI, range1I, range2I, enumI, rangeL, callE, callIO, callL, consA, nilA, nameT, tupT, consT, nilT, ownIxT, andE, orE, notE, andT, orT, notT, chainE, ifE, slE, someO, noO, lstE, lstF, appL, methE, isStrD, raiseS, rsIO, rsOf, own0, ofOpt, R.bind_ok, R.bind_er, R.bindS_ok, R.bindS_er, Option.bind_some, Option.map_some, List.map_cons, List.map_nil, List.cons_append, List.nil_append, List.replicate_succ, List.replicate_zero, List.getElem?_cons_zero, List.getElem?_cons_succ, List.length_cons, List.length_nil, List.set_cons_zero, List.set_cons_succ, isOwn, if_true, reduceIte, Bool.false_eq_true, Nat.reduceAdd, atI_0, atI_1, ixN_0, ixN_1, gt_int, lt_int, le_int, ge_int, add_int, sub_int, eq_int, ne_int, eq_str, ne_str, decide_true, decide_false, Nat.zero_add, t6, i0, i1, i4, i5, s1, c1, c2, hz, w1, w2, w3, hb, hf, he, Bool.not_true, Bool.not_false, Bool.true_and, Bool.false_and]
          · cases hn : isNameD c
            · simp only [seqS, ifS, boolE, binE, unE, appE, ixOwnE, popOwnE, lenOwnE, cE, varE, retS, retNS, asgS, asgOwnS, parS, parOwnS, appendS, dropS, nopS, forS, forGo, seqI, range1I, range2I, enumI, rangeL, callE, callIO, callL, consA, nilA, nameT, tupT, consT, nilT, ownIxT, andE, orE, notE, andT, orT, notT, chainE, ifE, slE, someO, noO, lstE, lstF, appL, methE, isStrD, raiseS, rsIO, rsOf, own0, ofOpt, R.bind_ok, R.bind_er, R.bindS_ok, R.bindS_er, Option.bind_some, Option.map_some, List.map_cons, List.map_nil, List.cons_append, List.nil_append, List.replicate_succ, List.replicate_zero, List.getElem?_cons_zero, List.getElem?_cons_succ, List.length_cons, List.length_nil, List.set_cons_zero, List.set_cons_succ, isOwn, if_true, reduceIte, Bool.false_eq_true, Nat.reduceAdd, atI_0, atI_1, ixN_0, ixN_1, gt_int, lt_int, le_int, ge_int, add_int, sub_int, eq_int, ne_int, eq_str, ne_str, decide_true, decide_false, Nat.zero_add, t6, i0, i1, i2, i4, i5, s1, c1, c2, hz, w1, w2, w3, n1, hb, hf, he, hn, Bool.not_true, Bool.not_false, Bool.true_and, Bool.false_and]
            · cases hm : isNameD d
              · simp only [seqS, ifS, boolE, binE, unE, appE, ixOwnE, popOwnE, lenOwnE, cE, varE, retS, retNS, asgS, asgOwnS, parS, parOwnS, appendS, dropS, nopS, forS, forGo, seqI, range1I, range2I, enumI, rangeL, callE, callIO, callL, consA, nilA, nameT, tupT, consT, nilT, ownIxT, andE, orE, notE, andT, orT, notT, chainE, ifE, slE, someO, noO, lstE, lstF, appL, methE, isStrD, raiseS, rsIO, rsOf, own0, ofOpt, R.bind_ok, R.bind_er, R.bindS_ok, R.bindS_er, Option.bind_some, Option.map_some, List.map_cons, List.map_nil, List.cons_append, List.nil_append, List.replicate_succ, List.replicate_zero, List.getElem?_cons_zero, List.getElem?_cons_succ, List.length_cons, List.length_nil, List.set_cons_zero, List.set_cons_succ, isOwn, if_true, reduceIte, Bool.false_eq_true, Nat.reduceAdd, atI_0, atI_1, ixN_0, ixN_1, gt_int, lt_int, le_int, ge_int, add_int, sub_int, eq_int, ne_int, eq_str, ne_str, decide_true, decide_false, Nat.zero_add, t6, i0, i1, i2, i3, i4, i5, s1, c1, c2, hz, w1, w2, w3, n1, n2, hb, hf, he, hn, hm, Bool.not_true, Bool.not_false, Bool.true_and, Bool.false_and]
              · have e1 := ne_names hn hm
                simp only [seqS, ifS, boolE, binE, unE, appE, ixOwnE, popOwnE, lenOwnE, cE, varE, retS, retNS, asgS, asgOwnS, parS, parOwnS, appendS, dropS, nopS, forS, forGo, seqI, range1I, range2I, enumI, rangeL, callE, callIO, callL, consA, nilA, nameT, tupT, consT, nilT, ownIxT, andE, orE, notE, andT, orT, notT, chainE, ifE, slE, someO, noO, lstE, lstF, appL, methE, isStrD, raiseS, rsIO, rsOf, own0, ofOpt, R.bind_ok, R.bind_er, R.bindS_ok, R.bindS_er, Option.bind_some, Option.map_some, List.map_cons, List.map_nil, List.cons_append, List.nil_append, List.replicate_succ, List.replicate_zero, List.getElem?_cons_zero, List.getElem?_cons_succ, List.length_cons, List.length_nil, List.set_cons_zero, List.set_cons_succ, isOwn, if_true, reduceIte, Bool.false_eq_true, Nat.reduceAdd, atI_0, atI_1, ixN_0, ixN_1, gt_int, lt_int, le_int, ge_int, add_int, sub_int, eq_int, ne_int, eq_str, ne_str, decide_true, decide_false, Nat.zero_add, t6, i0, i1, i2, i3, i4, i5, s1, c1, c2, hz, w1, w2, w3, n1, n2, hb, hf, he, hn, hm, e1, Bool.not_true, Bool.not_false, Bool.true_and, Bool.false_and]
    · simp only [seqS, ifS, boolE, binE, unE, appE, ixOwnE, popOwnE, lenOwnE, cE, varE, retS, retNS, asgS, asgOwnS, parS, parOwnS, appendS, dropS, nopS, forS, forGo, seqI, range1I, range2I, enumI, rangeL, callE, callIO, callL, consA, nilA, nameT, tupT, consT, nilT, ownIxT, andE, orE, notE, andT, orT, notT, chainE, ifE, slE, someO, noO, lstE, lstF, appL, methE, isStrD, raiseS, rsIO, rsOf, own0, ofOpt, R.bind_ok, R.bind_er, R.bindS_ok, R.bindS_er, Option.bind_some, Option.map_some, List.map_cons, List.map_nil, List.cons_append, List.nil_append, List.replicate_succ, List.replicate_zero, List.getElem?_cons_zero, List.getElem?_cons_succ, List.length_cons, List.length_nil, List.set_cons_zero, List.set_cons_succ, isOwn, if_true, reduceIte, Bool.false_eq_true, Nat.reduceAdd, atI_0, atI_1, ixN_0, ixN_1, gt_int, lt_int, le_int, ge_int, add_int, sub_int, eq_int, ne_int, eq_str, ne_str, decide_true, decide_false, Nat.zero_add, t6, i0, s1, c1, hz, Bool.not_true, Bool.not_false, Bool.true_and, Bool.false_and]
  | _ => rfl
end K26
end L2
set_option linter.all false
set_option maxRecDepth 100000
set_option maxHeartbeats 1000000
namespace L2
namespace K26
open PySem PySem.Spec PL TL
open _root_.SX (S S_len S_cat S_tl S_inj split_S join_S num_S int_S)
/-! the law's own look at a slip -/
def T1 : GE Bool := orT (notT (boolE (unE (isiF "int") (varE 1)))) (orT (boolE (unE (isiF "bool") (varE 1))) (notT (boolE (chainE leF leF (cE (.int 0)) (varE 1) (varE 2)))))
theorem T1_ok (x y w : SV) (d : D) (most : Int) : T1 [x, .d d, .d (.int most), y, w] = .ok (!within d 0 most) [x, .d d, .d (.int most), y, w] := by
  unfold T1
  cases d with
  | int i =>
    have e1 : isiF "int" (.int i) = some (.bl true) := rfl
    have e2 : isiF "bool" (.int i) = some (.bl false) := rfl
    unfold within
    by_cases h : 0 ≤ i
    · simp only [seqS, ifS, boolE, binE, unE, appE, ixOwnE, popOwnE, lenOwnE, cE, varE, retS, retNS, asgS, asgOwnS, parS, parOwnS, appendS, dropS, nopS, forS, forGo, seqI, range1I, range2I, enumI, rangeL, callE, callIO, callL, consA, nilA, nameT, tupT, consT, nilT, ownIxT, andE, orE, notE, andT, orT, notT, chainE, ifE, slE, someO, noO, lstE, lstF, appL, methE, isStrD, raiseS, rsIO, rsOf, own0, ofOpt, R.bind_ok, R.bind_er, R.bindS_ok, R.bindS_er, Option.bind_some, Option.map_some, List.map_cons, List.map_nil, List.cons_append, List.nil_append, List.replicate_succ, List.replicate_zero, List.getElem?_cons_zero, List.getElem?_cons_succ, List.length_cons, List.length_nil, List.set_cons_zero, List.set_cons_succ, isOwn, if_true, reduceIte, Bool.false_eq_true, Nat.reduceAdd, atI_0, atI_1, ixN_0, ixN_1, gt_int, lt_int, le_int, ge_int, add_int, sub_int, eq_int, ne_int, eq_str, ne_str, decide_true, decide_false, Nat.zero_add, e1, e2, h, Bool.not_true, Bool.not_false, Bool.true_and]
    · simp only [seqS, ifS, boolE, binE, unE, appE, ixOwnE, popOwnE, lenOwnE, cE, varE, retS, retNS, asgS, asgOwnS, parS, parOwnS, appendS, dropS, nopS, forS, forGo, seqI, range1I, range2I, enumI, rangeL, callE, callIO, callL, consA, nilA, nameT, tupT, consT, nilT, ownIxT, andE, orE, notE, andT, orT, notT, chainE, ifE, slE, someO, noO, lstE, lstF, appL, methE, isStrD, raiseS, rsIO, rsOf, own0, ofOpt, R.bind_ok, R.bind_er, R.bindS_ok, R.bindS_er, Option.bind_some, Option.map_some, List.map_cons, List.map_nil, List.cons_append, List.nil_append, List.replicate_succ, List.replicate_zero, List.getElem?_cons_zero, List.getElem?_cons_succ, List.length_cons, List.length_nil, List.set_cons_zero, List.set_cons_succ, isOwn, if_true, reduceIte, Bool.false_eq_true, Nat.reduceAdd, atI_0, atI_1, ixN_0, ixN_1, gt_int, lt_int, le_int, ge_int, add_int, sub_int, eq_int, ne_int, eq_str, ne_str, decide_true, decide_false, Nat.zero_add, e1, e2, h, Bool.not_true, Bool.not_false, Bool.false_and]
  | _ => rfl
theorem lt_one (c b : Nat) : sLt ⟨#[c]⟩ (S [b]) = decide (c < b) := by
  unfold sLt
  apply decide_eq_decide.mpr
  show ([c] : List Nat) < [b] ↔ c < b
  rw [List.cons_lt_cons_iff]
  constructor
  · rintro (h | ⟨_, h⟩)
    · exact h
    · cases h
  · exact fun h => .inl h
theorem lt_one' (c b : Nat) : sLt (S [b]) ⟨#[c]⟩ = decide (b < c) := by
  unfold sLt
  apply decide_eq_decide.mpr
  show ([b] : List Nat) < [c] ↔ b < c
  rw [List.cons_lt_cons_iff]
  constructor
  · rintro (h | ⟨_, h⟩)
    · exact h
    · cases h
  · exact fun h => .inl h
end K26
end L2
set_option linter.all false
set_option maxRecDepth 100000
set_option maxHeartbeats 1000000
namespace L2
namespace K26
open PySem PySem.Spec PL TL
open _root_.SX (S S_len S_cat S_tl S_inj split_S join_S num_S int_S)
def asc (l : List Nat) : Bool := l.all fun c => decide (c < 128)
theorem toPs_strs : ∀ l : List Nat, D.toPs (l.map fun c => D.str ⟨#[c]⟩) = some (l.map fun c => PyData.str ⟨#[c]⟩)
  | [] => rfl
  | c :: l => by
    show (match D.toP (.str ⟨#[c]⟩), D.toPs (l.map fun c => D.str ⟨#[c]⟩) with | some p, some ps => some (p :: ps) | _, _ => none) = _
    rw [toPs_strs l]
    rfl
theorem depth_strs : ∀ l : List Nat, PyData.depthAll (l.map fun c => PyData.str ⟨#[c]⟩) = 0
  | [] => rfl
  | c :: l => by
    show max (PyData.depth (.str ⟨#[c]⟩)) (PyData.depthAll (l.map fun c => PyData.str ⟨#[c]⟩)) = 0
    rw [depth_strs l]
    rfl
theorem strOk_one {c : Nat} (h : c < 128) : PyData.canLay0 (.str ⟨#[c]⟩) = true := by
  have : ∀ c : Nat, c < 128 → PyData.canLay0 (.str ⟨#[c]⟩) = true := by decide +kernel
  exact this c h
theorem lay_strs : ∀ l : List Nat, asc l = true → PyData.canLayAll0 (l.map fun c => PyData.str ⟨#[c]⟩) = true
  | [], _ => rfl
  | c :: l, h => by
    have h' : (decide (c < 128) && asc l) = true := h
    obtain ⟨h1, h2⟩ := Bool.and_eq_true_iff.mp h'
    show (PyData.canLay0 (.str ⟨#[c]⟩) && PyData.canLayAll0 (l.map fun c => PyData.str ⟨#[c]⟩)) = true
    rw [strOk_one (of_decide_eq_true h1), lay_strs l h2]
    rfl
theorem ne_empty (l : List Nat) (h : asc l = true) : neF (.lst (l.map fun c => D.str ⟨#[c]⟩)) (.lst []) = some (.bl (!l.isEmpty)) := by
  have e : neF (.lst (l.map fun c => D.str ⟨#[c]⟩)) (.lst []) = eqPF true (.lst (l.map fun c => D.str ⟨#[c]⟩)) (.lst []) := rfl
  rw [e]
  have p1 : D.toP (.lst (l.map fun c => D.str ⟨#[c]⟩)) = some (.list (l.map fun c => PyData.str ⟨#[c]⟩)) := by
    show (D.toPs _).map _ = _
    rw [toPs_strs]
    rfl
  have s1 : SeqAt.shaped (.list (l.map fun c => PyData.str ⟨#[c]⟩)) = true := by
    show (PyData.canLayAll0 _ && decide (PyData.depthAll _ + 1 ≤ 64)) = true
    rw [lay_strs l h, depth_strs]
    rfl
  unfold eqPF
  rw [p1]
  have s2 : SeqAt.shaped (.list []) = true := by decide
  show (if (SeqAt.shaped (.list (l.map fun c => PyData.str ⟨#[c]⟩)) && SeqAt.shaped (.list [])) = true then _ else _) = _
  rw [s1, s2]
  cases l <;> rfl
end K26
end L2
set_option linter.all false
set_option maxRecDepth 100000
set_option maxHeartbeats 1000000
namespace L2
namespace K26
open PySem PySem.Spec PL TL
open _root_.SX (S S_len S_cat S_tl S_inj split_S join_S num_S int_S)
def T2 : GE Bool := orT (notT (boolE (unE (isiF "str") (varE 3)))) (orT (notT (boolE (chainE leF leF (cE (.int 1)) (appE lenF (consA (varE 3) nilA)) (cE (.int 12))))) (boolE (binE neF (lstE (lcE [4] (seqI (varE 3)) (nameT 4) (notT (boolE (chainE leF leF (cE (.str "a")) (varE 4) (cE (.str "z"))))) (varE 4))) (lstE (lstF nilA)))))
def notLow : D → Bool
  | .str x => !low (x.cps.getD 0 0)
  | _ => false
theorem signs_notLow (a : List Nat) : ((signs (S a)).filter notLow).map id = (a.filter fun c => !low c).map fun c => D.str ⟨#[c]⟩ := by
  unfold signs
  rw [List.map_id, List.filter_map]
  rfl
theorem az_chain (c : Nat) (ρ : PEnv) (x y z : SV) {w3 : SV} : notT (boolE (chainE leF leF (cE (.str "a")) (varE 4) (cE (.str "z")))) [x, y, z, w3, .d (.str ⟨#[c]⟩)] = .ok (!low c) [x, y, z, w3, .d (.str ⟨#[c]⟩)] := by
  have e1 : leF (.str ("a" : Str)) (.str ⟨#[c]⟩) = some (.bl (!decide (c < 97))) := by
    show some (D.bl (!sLt ⟨#[c]⟩ (S [97]))) = _
    rw [lt_one]
  have e2 : leF (.str ⟨#[c]⟩) (.str ("z" : Str)) = some (.bl (!decide (122 < c))) := by
    show some (D.bl (!sLt (S [122]) ⟨#[c]⟩)) = _
    rw [lt_one']
  unfold low
  by_cases h : c < 97
  · have h' : ¬ 97 ≤ c := by omega
    simp only [seqS, ifS, boolE, binE, unE, appE, ixOwnE, popOwnE, lenOwnE, cE, varE, retS, retNS, asgS, asgOwnS, parS, parOwnS, appendS, dropS, nopS, forS, forGo, seqI, range1I, range2I, enumI, rangeL, callE, callIO, callL, consA, nilA, nameT, tupT, consT, nilT, ownIxT, andE, orE, notE, andT, orT, notT, chainE, ifE, slE, someO, noO, lstE, lstF, appL, methE, isStrD, raiseS, rsIO, rsOf, own0, ofOpt, R.bind_ok, R.bind_er, R.bindS_ok, R.bindS_er, Option.bind_some, Option.map_some, List.map_cons, List.map_nil, List.cons_append, List.nil_append, List.replicate_succ, List.replicate_zero, List.getElem?_cons_zero, List.getElem?_cons_succ, List.length_cons, List.length_nil, List.set_cons_zero, List.set_cons_succ, isOwn, if_true, reduceIte, Bool.false_eq_true, Nat.reduceAdd, atI_0, atI_1, ixN_0, ixN_1, gt_int, lt_int, le_int, ge_int, add_int, sub_int, eq_int, ne_int, eq_str, ne_str, decide_true, decide_false, Nat.zero_add, e1, e2, h, h', Bool.not_true, Bool.not_false, Bool.false_and]
  · have h' : 97 ≤ c := by omega
    by_cases k : 122 < c
    · have k' : ¬ c ≤ 122 := by omega
      simp only [seqS, ifS, boolE, binE, unE, appE, ixOwnE, popOwnE, lenOwnE, cE, varE, retS, retNS, asgS, asgOwnS, parS, parOwnS, appendS, dropS, nopS, forS, forGo, seqI, range1I, range2I, enumI, rangeL, callE, callIO, callL, consA, nilA, nameT, tupT, consT, nilT, ownIxT, andE, orE, notE, andT, orT, notT, chainE, ifE, slE, someO, noO, lstE, lstF, appL, methE, isStrD, raiseS, rsIO, rsOf, own0, ofOpt, R.bind_ok, R.bind_er, R.bindS_ok, R.bindS_er, Option.bind_some, Option.map_some, List.map_cons, List.map_nil, List.cons_append, List.nil_append, List.replicate_succ, List.replicate_zero, List.getElem?_cons_zero, List.getElem?_cons_succ, List.length_cons, List.length_nil, List.set_cons_zero, List.set_cons_succ, isOwn, if_true, reduceIte, Bool.false_eq_true, Nat.reduceAdd, atI_0, atI_1, ixN_0, ixN_1, gt_int, lt_int, le_int, ge_int, add_int, sub_int, eq_int, ne_int, eq_str, ne_str, decide_true, decide_false, Nat.zero_add, e1, e2, h, h', k, k', Bool.not_true, Bool.not_false, Bool.true_and]
    · have k' : c ≤ 122 := by omega
      simp only [seqS, ifS, boolE, binE, unE, appE, ixOwnE, popOwnE, lenOwnE, cE, varE, retS, retNS, asgS, asgOwnS, parS, parOwnS, appendS, dropS, nopS, forS, forGo, seqI, range1I, range2I, enumI, rangeL, callE, callIO, callL, consA, nilA, nameT, tupT, consT, nilT, ownIxT, andE, orE, notE, andT, orT, notT, chainE, ifE, slE, someO, noO, lstE, lstF, appL, methE, isStrD, raiseS, rsIO, rsOf, own0, ofOpt, R.bind_ok, R.bind_er, R.bindS_ok, R.bindS_er, Option.bind_some, Option.map_some, List.map_cons, List.map_nil, List.cons_append, List.nil_append, List.replicate_succ, List.replicate_zero, List.getElem?_cons_zero, List.getElem?_cons_succ, List.length_cons, List.length_nil, List.set_cons_zero, List.set_cons_succ, isOwn, if_true, reduceIte, Bool.false_eq_true, Nat.reduceAdd, atI_0, atI_1, ixN_0, ixN_1, gt_int, lt_int, le_int, ge_int, add_int, sub_int, eq_int, ne_int, eq_str, ne_str, decide_true, decide_false, Nat.zero_add, e1, e2, h, h', k, k', Bool.not_true, Bool.not_false, Bool.true_and]
theorem asc_filter {a : List Nat} (h : asc a = true) (p : Nat → Bool) : asc (a.filter p) = true := by
  unfold asc at h ⊢
  rw [List.all_eq_true] at h ⊢
  exact fun c hc => h c (List.mem_filter.mp hc).1
theorem empty_filter (a : List Nat) : (a.filter fun c => !low c).isEmpty = a.all low := by
  induction a with
  | nil => rfl
  | cons c a ih =>
    rw [List.filter_cons, List.all_cons]
    cases h : low c
    · rfl
    · simpa using ih
theorem T2_ok (x y z : SV) (a : List Nat) (hl : a.length ≤ 1000) (ha : asc a = true) : T2 [x, y, z, .d (.str (S a)), .un] = .ok (!isName a) [x, y, z, .d (.str (S a)), .un] := by
  have hc : lcE [4] (seqI (varE 3)) (nameT 4) (notT (boolE (chainE leF leF (cE (.str "a")) (varE 4) (cE (.str "z"))))) (varE 4) [x, y, z, .d (.str (S a)), .un] = .ok ((a.filter fun c => !low c).map fun c => D.str ⟨#[c]⟩) [x, y, z, .d (.str (S a)), .un] := by
    refine (lcE_pure (vs := [4]) (gi := seqI (varE 3)) notLow id (items := signs (S a)) (ρ1 := [x, y, z, .d (.str (S a)), .un]) rfl rfl (by unfold signs lim; simp; omega) rfl ?_).trans (by rw [signs_notLow])
    intro d hd
    obtain ⟨c, hc, rfl⟩ := List.mem_map.mp hd
    exact ⟨[x, y, z, .d (.str (S a)), .d (.str ⟨#[c]⟩)], rfl, az_chain c [] x y z, rfl, fun _ => rfl⟩
  have e1 : isiF "str" (.str (S a)) = some (.bl true) := rfl
  have e2 : lenF [.str (S a)] = some (.int a.length) := by
    unfold lenF lenSF lenTF
    simp only [S_len]
    rw [if_pos (by unfold lim; omega)]
  have e3 := ne_empty (a.filter fun c => !low c) (asc_filter ha _)
  rw [empty_filter] at e3
  have l0 : (0 : Nat) ≤ lim := by decide
  unfold T2 isName
  by_cases h1 : 1 ≤ a.length
  · have h1' : (1 : Int) ≤ a.length := by omega
    by_cases h2 : a.length ≤ 12
    · have h2' : (a.length : Int) ≤ 12 := by omega
      simp only [seqS, ifS, boolE, binE, unE, appE, ixOwnE, popOwnE, lenOwnE, cE, varE, retS, retNS, asgS, asgOwnS, parS, parOwnS, appendS, dropS, nopS, forS, forGo, seqI, range1I, range2I, enumI, rangeL, callE, callIO, callL, consA, nilA, nameT, tupT, consT, nilT, ownIxT, andE, orE, notE, andT, orT, notT, chainE, ifE, slE, someO, noO, lstE, lstF, appL, methE, isStrD, raiseS, rsIO, rsOf, own0, ofOpt, R.bind_ok, R.bind_er, R.bindS_ok, R.bindS_er, Option.bind_some, Option.map_some, List.map_cons, List.map_nil, List.cons_append, List.nil_append, List.replicate_succ, List.replicate_zero, List.getElem?_cons_zero, List.getElem?_cons_succ, List.length_cons, List.length_nil, List.set_cons_zero, List.set_cons_succ, isOwn, if_true, reduceIte, Bool.false_eq_true, Nat.reduceAdd, atI_0, atI_1, ixN_0, ixN_1, gt_int, lt_int, le_int, ge_int, add_int, sub_int, eq_int, ne_int, eq_str, ne_str, decide_true, decide_false, Nat.zero_add, e1, e2, e3, h1', h2', hc, h1, h2, l0, Bool.true_and, Bool.not_true, Bool.not_false]
    · have h2' : ¬ (a.length : Int) ≤ 12 := by omega
      simp only [seqS, ifS, boolE, binE, unE, appE, ixOwnE, popOwnE, lenOwnE, cE, varE, retS, retNS, asgS, asgOwnS, parS, parOwnS, appendS, dropS, nopS, forS, forGo, seqI, range1I, range2I, enumI, rangeL, callE, callIO, callL, consA, nilA, nameT, tupT, consT, nilT, ownIxT, andE, orE, notE, andT, orT, notT, chainE, ifE, slE, someO, noO, lstE, lstF, appL, methE, isStrD, raiseS, rsIO, rsOf, own0, ofOpt, R.bind_ok, R.bind_er, R.bindS_ok, R.bindS_er, Option.bind_some, Option.map_some, List.map_cons, List.map_nil, List.cons_append, List.nil_append, List.replicate_succ, List.replicate_zero, List.getElem?_cons_zero, List.getElem?_cons_succ, List.length_cons, List.length_nil, List.set_cons_zero, List.set_cons_succ, isOwn, if_true, reduceIte, Bool.false_eq_true, Nat.reduceAdd, atI_0, atI_1, ixN_0, ixN_1, gt_int, lt_int, le_int, ge_int, add_int, sub_int, eq_int, ne_int, eq_str, ne_str, decide_true, decide_false, Nat.zero_add, e1, e2, e3, h1', h2', hc, h1, h2, l0, Bool.true_and, Bool.false_and, Bool.not_true, Bool.not_false]
  · have h1' : ¬ (1 : Int) ≤ a.length := by omega
    simp only [seqS, ifS, boolE, binE, unE, appE, ixOwnE, popOwnE, lenOwnE, cE, varE, retS, retNS, asgS, asgOwnS, parS, parOwnS, appendS, dropS, nopS, forS, forGo, seqI, range1I, range2I, enumI, rangeL, callE, callIO, callL, consA, nilA, nameT, tupT, consT, nilT, ownIxT, andE, orE, notE, andT, orT, notT, chainE, ifE, slE, someO, noO, lstE, lstF, appL, methE, isStrD, raiseS, rsIO, rsOf, own0, ofOpt, R.bind_ok, R.bind_er, R.bindS_ok, R.bindS_er, Option.bind_some, Option.map_some, List.map_cons, List.map_nil, List.cons_append, List.nil_append, List.replicate_succ, List.replicate_zero, List.getElem?_cons_zero, List.getElem?_cons_succ, List.length_cons, List.length_nil, List.set_cons_zero, List.set_cons_succ, isOwn, if_true, reduceIte, Bool.false_eq_true, Nat.reduceAdd, atI_0, atI_1, ixN_0, ixN_1, gt_int, lt_int, le_int, ge_int, add_int, sub_int, eq_int, ne_int, eq_str, ne_str, decide_true, decide_false, Nat.zero_add, e1, e2, h1', h1, Bool.false_and, Bool.not_true, Bool.not_false]
end K26
end L2
set_option linter.all false
set_option maxRecDepth 100000
set_option maxHeartbeats 1000000
namespace L2
namespace K26
open PySem PySem.Spec PL TL
open _root_.SX (S S_len S_cat S_tl S_inj split_S join_S num_S int_S)
/-- texts told in 7 bits, not long -/
def okStr (d : D) : Prop := ∀ x, d = .str x → x.length ≤ 1000 ∧ asc x.cps.toList = true
theorem T2_okD (x y z : SV) (d : D) (h : okStr d) : T2 [x, y, z, .d d, .un] = .ok (!isNameD d) [x, y, z, .d d, .un] := by
  cases d with
  | str s =>
    have e : s = S s.cps.toList := (S_tl s).symm
    obtain ⟨h1, h2⟩ := h s rfl
    rw [e]
    exact T2_ok x y z _ (by rw [← S_len, ← e]; exact h1) h2
  | _ => rfl
def T0 : GE Bool := orT (notT (boolE (unE (isiF "tuple") (varE 0)))) (orT (boolE (binE neF (appE lenF (consA (varE 0) nilA)) (cE (.int 6)))) (orT (notT (boolE (unE (isiF "str") (binE ixF (varE 0) (cE (.int 0)))))) (boolE (binE neF (binE ixF (varE 0) (cE (.int 0))) (cE (.str "slip"))))))
theorem l_is_slip_is : g_l_is_slip = seqS (ifS T0 (retS (cE (.bl false))) nopS)
    (seqS (forS (seqI (appE tupF (consA (appE tupF (consA (binE ixF (varE 0) (cE (.int 1))) (consA (cE (.int 99)) nilA))) (consA (appE tupF (consA (binE ixF (varE 0) (cE (.int 4))) (consA (cE (.int 2)) nilA))) (consA (appE tupF (consA (binE ixF (varE 0) (cE (.int 5))) (consA (cE (.int 99)) nilA))) nilA))))) (tupT (consT (nameT 1) (consT (nameT 2) nilT))) (ifS T1 (retS (cE (.bl false))) nopS))
    (seqS (forS (seqI (slE (varE 0) (someO (cE (.int 2))) (someO (cE (.int 4))))) (nameT 3) (ifS T2 (retS (cE (.bl false))) nopS))
    (retS (binE neF (binE ixF (varE 0) (cE (.int 2))) (binE ixF (varE 0) (cE (.int 3))))))) := rfl
def headOk : D → Bool
  | .str z => decide (z = ("slip" : Str))
  | _ => false
theorem T0_6 (a b c d e f : D) (x y z w : SV) : T0 [.d (.tup [a, b, c, d, e, f]), x, y, z, w] = .ok (!headOk a) [.d (.tup [a, b, c, d, e, f]), x, y, z, w] := by
  unfold T0
  have t6 : isiF "tuple" (.tup [a, b, c, d, e, f]) = some (.bl true) := rfl
  have l6 : lenF [.tup [a, b, c, d, e, f]] = some (.int 6) := rfl
  have i0 : ixF (.tup [a, b, c, d, e, f]) (.int 0) = some a := rfl
  cases a with
  | str s =>
    have s1 : isiF "str" (.str s) = some (.bl true) := rfl
    simp only [seqS, ifS, boolE, binE, unE, appE, ixOwnE, popOwnE, lenOwnE, cE, varE, retS, retNS, asgS, asgOwnS, parS, parOwnS, appendS, dropS, nopS, forS, forGo, seqI, range1I, range2I, enumI, rangeL, callE, callIO, callL, consA, nilA, nameT, tupT, consT, nilT, ownIxT, andE, orE, notE, andT, orT, notT, chainE, ifE, slE, someO, noO, lstE, lstF, appL, methE, isStrD, raiseS, rsIO, rsOf, own0, ofOpt, R.bind_ok, R.bind_er, R.bindS_ok, R.bindS_er, Option.bind_some, Option.map_some, List.map_cons, List.map_nil, List.cons_append, List.nil_append, List.replicate_succ, List.replicate_zero, List.getElem?_cons_zero, List.getElem?_cons_succ, List.length_cons, List.length_nil, List.set_cons_zero, List.set_cons_succ, isOwn, if_true, reduceIte, Bool.false_eq_true, Nat.reduceAdd, atI_0, atI_1, ixN_0, ixN_1, gt_int, lt_int, le_int, ge_int, add_int, sub_int, eq_int, ne_int, eq_str, ne_str, decide_true, decide_false, Nat.zero_add, t6, l6, i0, s1, headOk, Bool.not_true, Bool.not_false]
  | _ => rfl
theorem x_l_is_slip6 (a b c d e f : D) (hc : okStr c) (hd : okStr d) : f_l_is_slip [.tup [a, b, c, d, e, f]] = .ok (.bl (headOk a && (within b 0 99 && (within e 0 2 && (within f 0 99 && (isNameD c && (isNameD d && !sameS c d))))))) := by
  have i1 : ixF (.tup [a, b, c, d, e, f]) (.int 1) = some b := rfl
  have i2 : ixF (.tup [a, b, c, d, e, f]) (.int 2) = some c := rfl
  have i3 : ixF (.tup [a, b, c, d, e, f]) (.int 3) = some d := rfl
  have i4 : ixF (.tup [a, b, c, d, e, f]) (.int 4) = some e := rfl
  have i5 : ixF (.tup [a, b, c, d, e, f]) (.int 5) = some f := rfl
  have sl : slF (.tup [a, b, c, d, e, f]) (some 2) (some 4) = some (.tup [c, d]) := rfl
  have p2 : ∀ x y : D, tupF [x, y] = some (.tup [x, y]) := fun _ _ => rfl
  have p3 : ∀ x y z : D, tupF [x, y, z] = some (.tup [x, y, z]) := fun _ _ _ => rfl
  unfold f_l_is_slip runP
  rw [l_is_slip_is]
  cases h0 : headOk a
  · simp only [seqS, ifS, boolE, binE, unE, appE, ixOwnE, popOwnE, lenOwnE, cE, varE, retS, retNS, asgS, asgOwnS, parS, parOwnS, appendS, dropS, nopS, forS, forGo, seqI, range1I, range2I, enumI, rangeL, callE, callIO, callL, consA, nilA, nameT, tupT, consT, nilT, ownIxT, andE, orE, notE, andT, orT, notT, chainE, ifE, slE, someO, noO, lstE, lstF, appL, methE, isStrD, raiseS, rsIO, rsOf, own0, ofOpt, R.bind_ok, R.bind_er, R.bindS_ok, R.bindS_er, Option.bind_some, Option.map_some, List.map_cons, List.map_nil, List.cons_append, List.nil_append, List.replicate_succ, List.replicate_zero, List.getElem?_cons_zero, List.getElem?_cons_succ, List.length_cons, List.length_nil, List.set_cons_zero, List.set_cons_succ, isOwn, if_true, reduceIte, Bool.false_eq_true, Nat.reduceAdd, atI_0, atI_1, ixN_0, ixN_1, gt_int, lt_int, le_int, ge_int, add_int, sub_int, eq_int, ne_int, eq_str, ne_str, decide_true, decide_false, Nat.zero_add, T0_6, h0, Bool.not_false, Bool.false_and]
  · cases h1 : within b 0 99
    · simp only [seqS, ifS, boolE, binE, unE, appE, ixOwnE, popOwnE, lenOwnE, cE, varE, retS, retNS, asgS, asgOwnS, parS, parOwnS, appendS, dropS, nopS, forS, forGo, seqI, range1I, range2I, enumI, rangeL, callE, callIO, callL, consA, nilA, nameT, tupT, consT, nilT, ownIxT, andE, orE, notE, andT, orT, notT, chainE, ifE, slE, someO, noO, lstE, lstF, appL, methE, isStrD, raiseS, rsIO, rsOf, own0, ofOpt, R.bind_ok, R.bind_er, R.bindS_ok, R.bindS_er, Option.bind_some, Option.map_some, List.map_cons, List.map_nil, List.cons_append, List.nil_append, List.replicate_succ, List.replicate_zero, List.getElem?_cons_zero, List.getElem?_cons_succ, List.length_cons, List.length_nil, List.set_cons_zero, List.set_cons_succ, isOwn, if_true, reduceIte, Bool.false_eq_true, Nat.reduceAdd, atI_0, atI_1, ixN_0, ixN_1, gt_int, lt_int, le_int, ge_int, add_int, sub_int, eq_int, ne_int, eq_str, ne_str, decide_true, decide_false, Nat.zero_add, T0_6, h0, i1, i4, i5, p2, p3, T1_ok, h1, Bool.not_true, Bool.not_false, Bool.true_and, Bool.false_and]
    · cases h2 : within e 0 2
      · simp only [seqS, ifS, boolE, binE, unE, appE, ixOwnE, popOwnE, lenOwnE, cE, varE, retS, retNS, asgS, asgOwnS, parS, parOwnS, appendS, dropS, nopS, forS, forGo, seqI, range1I, range2I, enumI, rangeL, callE, callIO, callL, consA, nilA, nameT, tupT, consT, nilT, ownIxT, andE, orE, notE, andT, orT, notT, chainE, ifE, slE, someO, noO, lstE, lstF, appL, methE, isStrD, raiseS, rsIO, rsOf, own0, ofOpt, R.bind_ok, R.bind_er, R.bindS_ok, R.bindS_er, Option.bind_some, Option.map_some, List.map_cons, List.map_nil, List.cons_append, List.nil_append, List.replicate_succ, List.replicate_zero, List.getElem?_cons_zero, List.getElem?_cons_succ, List.length_cons, List.length_nil, List.set_cons_zero, List.set_cons_succ, isOwn, if_true, reduceIte, Bool.false_eq_true, Nat.reduceAdd, atI_0, atI_1, ixN_0, ixN_1, gt_int, lt_int, le_int, ge_int, add_int, sub_int, eq_int, ne_int, eq_str, ne_str, decide_true, decide_false, Nat.zero_add, T0_6, h0, i1, i4, i5, p2, p3, T1_ok, h1, h2, Bool.not_true, Bool.not_false, Bool.true_and, Bool.false_and]
      · cases h3 : within f 0 99
        · simp only [seqS, ifS, boolE, binE, unE, appE, ixOwnE, popOwnE, lenOwnE, cE, varE, retS, retNS, asgS, asgOwnS, parS, parOwnS, appendS, dropS, nopS, forS, forGo, seqI, range1I, range2I, enumI, rangeL, callE, callIO, callL, consA, nilA, nameT, tupT, consT, nilT, ownIxT, andE, orE, notE, andT, orT, notT, chainE, ifE, slE, someO, noO, lstE, lstF, appL, methE, isStrD, raiseS, rsIO, rsOf, own0, ofOpt, R.bind_ok, R.bind_er, R.bindS_ok, R.bindS_er, Option.bind_some, Option.map_some, List.map_cons, List.map_nil, List.cons_append, List.nil_append, List.replicate_succ, List.replicate_zero, List.getElem?_cons_zero, List.getElem?_cons_succ, List.length_cons, List.length_nil, List.set_cons_zero, List.set_cons_succ, isOwn, if_true, reduceIte, Bool.false_eq_true, Nat.reduceAdd, atI_0, atI_1, ixN_0, ixN_1, gt_int, lt_int, le_int, ge_int, add_int, sub_int, eq_int, ne_int, eq_str, ne_str, decide_true, decide_false, Nat.zero_add, T0_6, h0, i1, i4, i5, p2, p3, T1_ok, h1, h2, h3, Bool.not_true, Bool.not_false, Bool.true_and, Bool.false_and]
        · cases h4 : isNameD c
          · simp only [seqS, ifS, boolE, binE, unE, appE, ixOwnE, popOwnE, lenOwnE, cE, varE, retS, retNS, asgS, asgOwnS, parS, parOwnS, appendS, dropS, nopS, forS, forGo, seqI, range1I, range2I, enumI, rangeL, callE, callIO, callL, consA, nilA, nameT, tupT, consT, nilT, ownIxT, andE, orE, notE, andT, orT, notT, chainE, ifE, slE, someO, noO, lstE, lstF, appL, methE, isStrD, raiseS, rsIO, rsOf, own0, ofOpt, R.bind_ok, R.bind_er, R.bindS_ok, R.bindS_er, Option.bind_some, Option.map_some, List.map_cons, List.map_nil, List.cons_append, List.nil_append, List.replicate_succ, List.replicate_zero, List.getElem?_cons_zero, List.getElem?_cons_succ, List.length_cons, List.length_nil, List.set_cons_zero, List.set_cons_succ, isOwn, if_true, reduceIte, Bool.false_eq_true, Nat.reduceAdd, atI_0, atI_1, ixN_0, ixN_1, gt_int, lt_int, le_int, ge_int, add_int, sub_int, eq_int, ne_int, eq_str, ne_str, decide_true, decide_false, Nat.zero_add, T0_6, h0, i1, i4, i5, p2, p3, T1_ok, sl, T2_okD _ _ _ c hc, h1, h2, h3, h4, Bool.not_true, Bool.not_false, Bool.true_and, Bool.false_and]
          · cases h5 : isNameD d
            · simp only [seqS, ifS, boolE, binE, unE, appE, ixOwnE, popOwnE, lenOwnE, cE, varE, retS, retNS, asgS, asgOwnS, parS, parOwnS, appendS, dropS, nopS, forS, forGo, seqI, range1I, range2I, enumI, rangeL, callE, callIO, callL, consA, nilA, nameT, tupT, consT, nilT, ownIxT, andE, orE, notE, andT, orT, notT, chainE, ifE, slE, someO, noO, lstE, lstF, appL, methE, isStrD, raiseS, rsIO, rsOf, own0, ofOpt, R.bind_ok, R.bind_er, R.bindS_ok, R.bindS_er, Option.bind_some, Option.map_some, List.map_cons, List.map_nil, List.cons_append, List.nil_append, List.replicate_succ, List.replicate_zero, List.getElem?_cons_zero, List.getElem?_cons_succ, List.length_cons, List.length_nil, List.set_cons_zero, List.set_cons_succ, isOwn, if_true, reduceIte, Bool.false_eq_true, Nat.reduceAdd, atI_0, atI_1, ixN_0, ixN_1, gt_int, lt_int, le_int, ge_int, add_int, sub_int, eq_int, ne_int, eq_str, ne_str, decide_true, decide_false, Nat.zero_add, T0_6, h0, i1, i4, i5, p2, p3, T1_ok, sl, T2_okD _ _ _ c hc, T2_okD _ _ _ d hd, h1, h2, h3, h4, h5, Bool.not_true, Bool.not_false, Bool.true_and, Bool.false_and]
            · have e1 := ne_names h4 h5
              simp only [seqS, ifS, boolE, binE, unE, appE, ixOwnE, popOwnE, lenOwnE, cE, varE, retS, retNS, asgS, asgOwnS, parS, parOwnS, appendS, dropS, nopS, forS, forGo, seqI, range1I, range2I, enumI, rangeL, callE, callIO, callL, consA, nilA, nameT, tupT, consT, nilT, ownIxT, andE, orE, notE, andT, orT, notT, chainE, ifE, slE, someO, noO, lstE, lstF, appL, methE, isStrD, raiseS, rsIO, rsOf, own0, ofOpt, R.bind_ok, R.bind_er, R.bindS_ok, R.bindS_er, Option.bind_some, Option.map_some, List.map_cons, List.map_nil, List.cons_append, List.nil_append, List.replicate_succ, List.replicate_zero, List.getElem?_cons_zero, List.getElem?_cons_succ, List.length_cons, List.length_nil, List.set_cons_zero, List.set_cons_succ, isOwn, if_true, reduceIte, Bool.false_eq_true, Nat.reduceAdd, atI_0, atI_1, ixN_0, ixN_1, gt_int, lt_int, le_int, ge_int, add_int, sub_int, eq_int, ne_int, eq_str, ne_str, decide_true, decide_false, Nat.zero_add, T0_6, h0, i1, i2, i3, i4, i5, p2, p3, T1_ok, sl, T2_okD _ _ _ c hc, T2_okD _ _ _ d hd, h1, h2, h3, h4, h5, e1, Bool.not_true, Bool.not_false, Bool.true_and, Bool.false_and]
end K26
end L2
set_option linter.all false
set_option maxRecDepth 100000
set_option maxHeartbeats 1000000
namespace L2
namespace K26
open PySem PySem.Spec PL TL
open _root_.SX (S S_len S_cat S_tl S_inj split_S join_S num_S int_S)
theorem x_is_slip_no (d : D) (h : isTup d 6 = false) : f_is_slip_value [d] = .ok (.bl false) := by
  have t6 : f_is_tuple [d, .int 6] = .ok (.bl (isTup d 6)) := x_is_tuple d 6
  unfold f_is_slip_value g_is_slip_value runP
  simp only [seqS, ifS, boolE, binE, unE, appE, ixOwnE, popOwnE, lenOwnE, cE, varE, retS, retNS, asgS, asgOwnS, parS, parOwnS, appendS, dropS, nopS, forS, forGo, seqI, range1I, range2I, enumI, rangeL, callE, callIO, callL, consA, nilA, nameT, tupT, consT, nilT, ownIxT, andE, orE, notE, andT, orT, notT, chainE, ifE, slE, someO, noO, lstE, lstF, appL, methE, isStrD, raiseS, rsIO, rsOf, own0, ofOpt, R.bind_ok, R.bind_er, R.bindS_ok, R.bindS_er, Option.bind_some, Option.map_some, List.map_cons, List.map_nil, List.cons_append, List.nil_append, List.replicate_succ, List.replicate_zero, List.getElem?_cons_zero, List.getElem?_cons_succ, List.length_cons, List.length_nil, List.set_cons_zero, List.set_cons_succ, isOwn, if_true, reduceIte, Bool.false_eq_true, Nat.reduceAdd, atI_0, atI_1, ixN_0, ixN_1, gt_int, lt_int, le_int, ge_int, add_int, sub_int, eq_int, ne_int, eq_str, ne_str, decide_true, decide_false, Nat.zero_add, t6, h, Bool.not_true, Bool.not_false]
theorem T0_no (d : D) (h : isTup d 6 = false) (x y z w : SV) : T0 [.d d, x, y, z, w] = .ok true [.d d, x, y, z, w] := by
  unfold T0
  cases d with
  | tup xs =>
    have t6 : isiF "tuple" (.tup xs) = some (.bl true) := rfl
    have l6 : lenF [.tup xs] = some (.int xs.length) := rfl
    have hn : ¬ xs.length = 6 := of_decide_eq_false h
    have hn' : ¬ (xs.length : Int) = 6 := by omega
    simp only [seqS, ifS, boolE, binE, unE, appE, ixOwnE, popOwnE, lenOwnE, cE, varE, retS, retNS, asgS, asgOwnS, parS, parOwnS, appendS, dropS, nopS, forS, forGo, seqI, range1I, range2I, enumI, rangeL, callE, callIO, callL, consA, nilA, nameT, tupT, consT, nilT, ownIxT, andE, orE, notE, andT, orT, notT, chainE, ifE, slE, someO, noO, lstE, lstF, appL, methE, isStrD, raiseS, rsIO, rsOf, own0, ofOpt, R.bind_ok, R.bind_er, R.bindS_ok, R.bindS_er, Option.bind_some, Option.map_some, List.map_cons, List.map_nil, List.cons_append, List.nil_append, List.replicate_succ, List.replicate_zero, List.getElem?_cons_zero, List.getElem?_cons_succ, List.length_cons, List.length_nil, List.set_cons_zero, List.set_cons_succ, isOwn, if_true, reduceIte, Bool.false_eq_true, Nat.reduceAdd, atI_0, atI_1, ixN_0, ixN_1, gt_int, lt_int, le_int, ge_int, add_int, sub_int, eq_int, ne_int, eq_str, ne_str, decide_true, decide_false, Nat.zero_add, t6, l6, hn', Bool.not_true, Bool.not_false]
  | _ => rfl
theorem x_l_is_slip_no (d : D) (h : isTup d 6 = false) : f_l_is_slip [d] = .ok (.bl false) := by
  unfold f_l_is_slip runP
  rw [l_is_slip_is]
  simp only [seqS, ifS, boolE, binE, unE, appE, ixOwnE, popOwnE, lenOwnE, cE, varE, retS, retNS, asgS, asgOwnS, parS, parOwnS, appendS, dropS, nopS, forS, forGo, seqI, range1I, range2I, enumI, rangeL, callE, callIO, callL, consA, nilA, nameT, tupT, consT, nilT, ownIxT, andE, orE, notE, andT, orT, notT, chainE, ifE, slE, someO, noO, lstE, lstF, appL, methE, isStrD, raiseS, rsIO, rsOf, own0, ofOpt, R.bind_ok, R.bind_er, R.bindS_ok, R.bindS_er, Option.bind_some, Option.map_some, List.map_cons, List.map_nil, List.cons_append, List.nil_append, List.replicate_succ, List.replicate_zero, List.getElem?_cons_zero, List.getElem?_cons_succ, List.length_cons, List.length_nil, List.set_cons_zero, List.set_cons_succ, isOwn, if_true, reduceIte, Bool.false_eq_true, Nat.reduceAdd, atI_0, atI_1, ixN_0, ixN_1, gt_int, lt_int, le_int, ge_int, add_int, sub_int, eq_int, ne_int, eq_str, ne_str, decide_true, decide_false, Nat.zero_add, T0_no d h]
/-- both looks at a slip say the same -/
theorem same_look (a b c d e f : D) (hc : okStr c) (hd : okStr d) : f_is_slip_value [.tup [a, b, c, d, e, f]] = f_l_is_slip [.tup [a, b, c, d, e, f]] := by
  rw [x_is_slip6 a b c d e f (fun x h => (hc x h).1) (fun x h => (hd x h).1), x_l_is_slip6 a b c d e f hc hd]
  congr 2
  unfold okSix headOk
  cases a <;> first | rfl | (cases within b 0 99 <;> cases within f 0 99 <;> cases within e 0 2 <;> simp)
theorem x_is_slip {d x : D} (h : f_is_slip_value [d] = .ok x) : f_is_slip [d] = .ok x := by
  unfold f_is_slip g_is_slip runP
  simp only [seqS, ifS, boolE, binE, unE, appE, ixOwnE, popOwnE, lenOwnE, cE, varE, retS, retNS, asgS, asgOwnS, parS, parOwnS, appendS, dropS, nopS, forS, forGo, seqI, range1I, range2I, enumI, rangeL, callE, callIO, callL, consA, nilA, nameT, tupT, consT, nilT, ownIxT, andE, orE, notE, andT, orT, notT, chainE, ifE, slE, someO, noO, lstE, lstF, appL, methE, isStrD, raiseS, rsIO, rsOf, own0, ofOpt, R.bind_ok, R.bind_er, R.bindS_ok, R.bindS_er, Option.bind_some, Option.map_some, List.map_cons, List.map_nil, List.cons_append, List.nil_append, List.replicate_succ, List.replicate_zero, List.getElem?_cons_zero, List.getElem?_cons_succ, List.length_cons, List.length_nil, List.set_cons_zero, List.set_cons_succ, isOwn, if_true, reduceIte, Bool.false_eq_true, Nat.reduceAdd, atI_0, atI_1, ixN_0, ixN_1, gt_int, lt_int, le_int, ge_int, add_int, sub_int, eq_int, ne_int, eq_str, ne_str, decide_true, decide_false, Nat.zero_add, h]
/-! slices -/
theorem cut_to1 (p : List Nat) (h : p.length ≤ 1000) : slF (.str (S p)) none (some 1) = some (.str (S (p.take 1))) := by
  show (if (S p).length ≤ lim then some (D.str (cutS (S p) none (some 1))) else none) = _
  rw [if_pos (by rw [S_len]; unfold lim; omega)]
  unfold cutS
  rw [S_len]
  have i1 : HT.sIx p.length p.length (some 1) = min 1 p.length := HT.sIx_nat p.length p.length 1
  have i0 : HT.sIx p.length 0 none = 0 := rfl
  rw [i1, i0]
  show some (D.str (S ((p.drop 0).take (min 1 p.length - 0)))) = _
  congr 3
  cases p with
  | nil => rfl
  | cons c r =>
    have : min 1 (c :: r).length = 1 := by rw [List.length_cons]; omega
    rw [this]
    rfl
theorem cut_from1 (p : List Nat) (h : p.length ≤ 1000) : slF (.str (S p)) (some 1) none = some (.str (S (p.drop 1))) := by
  show (if (S p).length ≤ lim then some (D.str (cutS (S p) (some 1) none)) else none) = _
  rw [if_pos (by rw [S_len]; unfold lim; omega)]
  unfold cutS
  rw [S_len]
  have i1 : HT.sIx p.length 0 (some 1) = min 1 p.length := HT.sIx_nat p.length 0 1
  have i0 : HT.sIx p.length p.length none = p.length := rfl
  rw [i1, i0]
  show some (D.str (S ((p.drop (min 1 p.length)).take (p.length - min 1 p.length)))) = _
  congr 3
  cases p with
  | nil => rfl
  | cons c r =>
    have : min 1 (c :: r).length = 1 := by rw [List.length_cons]; omega
    rw [this]
    show r.take (r.length + 1 - 1) = r
    rw [Nat.add_sub_cancel, List.take_length]
end K26
end L2
set_option linter.all false
set_option maxRecDepth 100000
set_option maxHeartbeats 1000000
namespace L2
namespace K26
open PySem PySem.Spec PL TL
open _root_.SX (S S_len S_cat S_tl S_inj split_S join_S num_S int_S)
def dig (c : Nat) : Bool := decide (48 ≤ c) && decide (c ≤ 57)
theorem digits_is : c_DIGITS_forms = .str (S (List.range' 48 10)) := rfl
theorem in_digits (c : Nat) : inF (.str ⟨#[c]⟩) c_DIGITS_forms = some (.bl (dig c)) := by
  rw [digits_is]
  show some (D.bl (decide (c ∈ List.range' 48 10))) = _
  congr 2
  unfold dig
  rw [← Bool.decide_and]
  apply decide_eq_decide.mpr
  rw [List.mem_range'_1]
  omega
def dashed (p : List Nat) : Bool := decide (p.take 1 = [45])
def core (p : List Nat) : List Nat := if dashed p then p.drop 1 else p
def numE1 : GE D := (ifE (boolE (binE eqF (slE (varE 0) noO (someO (cE (.int 1)))) (cE c_MINUS))) (slE (varE 0) (someO (cE (.int 1))) noO) (varE 0))
theorem S_eq (a b : List Nat) : decide (S a = S b) = decide (a = b) := by
  apply decide_eq_decide.mpr
  exact ⟨fun h => S_inj h, fun h => by rw [h]⟩
theorem numE1_ok (p : List Nat) (hl : p.length ≤ 1000) (x y : SV) : numE1 [.d (.str (S p)), x, y] = .ok (.str (S (core p))) [.d (.str (S p)), x, y] := by
  have c1 := cut_to1 p hl
  have c2 := cut_from1 p hl
  have e1 : eqF (.str (S (p.take 1))) c_MINUS = some (.bl (dashed p)) := by
    show some (D.bl (decide (S (p.take 1) = S [45]))) = _
    rw [S_eq]
    rfl
  unfold numE1 core
  cases h : dashed p
  · simp only [seqS, ifS, boolE, binE, unE, appE, ixOwnE, popOwnE, lenOwnE, cE, varE, retS, retNS, asgS, asgOwnS, parS, parOwnS, appendS, dropS, nopS, forS, forGo, seqI, range1I, range2I, enumI, rangeL, callE, callIO, callL, consA, nilA, nameT, tupT, consT, nilT, ownIxT, andE, orE, notE, andT, orT, notT, chainE, ifE, slE, someO, noO, lstE, lstF, appL, methE, isStrD, raiseS, rsIO, rsOf, own0, ofOpt, R.bind_ok, R.bind_er, R.bindS_ok, R.bindS_er, Option.bind_some, Option.map_some, List.map_cons, List.map_nil, List.cons_append, List.nil_append, List.replicate_succ, List.replicate_zero, List.getElem?_cons_zero, List.getElem?_cons_succ, List.length_cons, List.length_nil, List.set_cons_zero, List.set_cons_succ, isOwn, if_true, reduceIte, Bool.false_eq_true, Nat.reduceAdd, atI_0, atI_1, ixN_0, ixN_1, gt_int, lt_int, le_int, ge_int, add_int, sub_int, eq_int, ne_int, eq_str, ne_str, decide_true, decide_false, Nat.zero_add, c1, e1, h]
  · simp only [seqS, ifS, boolE, binE, unE, appE, ixOwnE, popOwnE, lenOwnE, cE, varE, retS, retNS, asgS, asgOwnS, parS, parOwnS, appendS, dropS, nopS, forS, forGo, seqI, range1I, range2I, enumI, rangeL, callE, callIO, callL, consA, nilA, nameT, tupT, consT, nilT, ownIxT, andE, orE, notE, andT, orT, notT, chainE, ifE, slE, someO, noO, lstE, lstF, appL, methE, isStrD, raiseS, rsIO, rsOf, own0, ofOpt, R.bind_ok, R.bind_er, R.bindS_ok, R.bindS_er, Option.bind_some, Option.map_some, List.map_cons, List.map_nil, List.cons_append, List.nil_append, List.replicate_succ, List.replicate_zero, List.getElem?_cons_zero, List.getElem?_cons_succ, List.length_cons, List.length_nil, List.set_cons_zero, List.set_cons_succ, isOwn, if_true, reduceIte, Bool.false_eq_true, Nat.reduceAdd, atI_0, atI_1, ixN_0, ixN_1, gt_int, lt_int, le_int, ge_int, add_int, sub_int, eq_int, ne_int, eq_str, ne_str, decide_true, decide_false, Nat.zero_add, c1, c2, e1, h]
end K26
end L2
set_option linter.all false
set_option maxRecDepth 100000
set_option maxHeartbeats 1000000
namespace L2
namespace K26
open PySem PySem.Spec PL TL
open _root_.SX (S S_len S_cat S_tl S_inj split_S join_S num_S int_S)
def okDig (q : List Nat) : Bool := !q.isEmpty && (decide (q.length ≤ 13) && q.all dig)
def N2 : GE Bool := orT (boolE (binE eqF (varE 1) (cE (.str "")))) (orT (boolE (binE gtF (appE lenF (consA (varE 1) nilA)) (cE c_MOST_DIGITS))) (notT (boolE (appE allF (consA (lstE (lcE [2] (seqI (varE 1)) (nameT 2) yesT (binE inF (varE 2) (cE c_DIGITS_forms)))) nilA)))))
theorem N2_ok (x : SV) (q : List Nat) (hl : q.length ≤ 1000) : N2 [x, .d (.str (S q)), .un] = .ok (!okDig q) [x, .d (.str (S q)), .un] := by
  have hc : lcE [2] (seqI (varE 1)) (nameT 2) yesT (binE inF (varE 2) (cE c_DIGITS_forms)) [x, .d (.str (S q)), .un] = .ok (q.map fun c => D.bl (dig c)) [x, .d (.str (S q)), .un] := by
    refine (lcE_pure (vs := [2]) (gi := seqI (varE 1)) (fun _ => true) (chD dig) (items := signs (S q)) (ρ1 := [x, .d (.str (S q)), .un]) rfl rfl (by unfold signs lim; simp; omega) rfl ?_).trans (by rw [signs_ch])
    intro d hd
    obtain ⟨c, hc, rfl⟩ := List.mem_map.mp hd
    refine ⟨[x, .d (.str (S q)), .d (.str ⟨#[c]⟩)], rfl, rfl, rfl, fun _ => ?_⟩
    simp only [seqS, ifS, boolE, binE, unE, appE, ixOwnE, popOwnE, lenOwnE, cE, varE, retS, retNS, asgS, asgOwnS, parS, parOwnS, appendS, dropS, nopS, forS, forGo, seqI, range1I, range2I, enumI, rangeL, callE, callIO, callL, consA, nilA, nameT, tupT, consT, nilT, ownIxT, andE, orE, notE, andT, orT, notT, chainE, ifE, slE, someO, noO, lstE, lstF, appL, methE, isStrD, raiseS, rsIO, rsOf, own0, ofOpt, R.bind_ok, R.bind_er, R.bindS_ok, R.bindS_er, Option.bind_some, Option.map_some, List.map_cons, List.map_nil, List.cons_append, List.nil_append, List.replicate_succ, List.replicate_zero, List.getElem?_cons_zero, List.getElem?_cons_succ, List.length_cons, List.length_nil, List.set_cons_zero, List.set_cons_succ, isOwn, if_true, reduceIte, Bool.false_eq_true, Nat.reduceAdd, atI_0, atI_1, ixN_0, ixN_1, gt_int, lt_int, le_int, ge_int, add_int, sub_int, eq_int, ne_int, eq_str, ne_str, decide_true, decide_false, Nat.zero_add, in_digits]
    rfl
  have e1 : eqF (.str (S q)) (.str ("" : Str)) = some (.bl q.isEmpty) := by
    show some (D.bl (decide (S q = S []))) = _
    rw [S_eq]
    cases q <;> rfl
  have e2 : lenF [.str (S q)] = some (.int q.length) := by
    unfold lenF lenSF lenTF
    simp only [S_len]
    rw [if_pos (by unfold lim; omega)]
  have e3 : c_MOST_DIGITS = .int 13 := rfl
  have e4 := all_map dig q
  unfold N2 okDig
  cases h0 : q.isEmpty
  · by_cases h1 : q.length ≤ 13
    · have h1' : ¬ ((13 : Int) < q.length) := by omega
      simp only [seqS, ifS, boolE, binE, unE, appE, ixOwnE, popOwnE, lenOwnE, cE, varE, retS, retNS, asgS, asgOwnS, parS, parOwnS, appendS, dropS, nopS, forS, forGo, seqI, range1I, range2I, enumI, rangeL, callE, callIO, callL, consA, nilA, nameT, tupT, consT, nilT, ownIxT, andE, orE, notE, andT, orT, notT, chainE, ifE, slE, someO, noO, lstE, lstF, appL, methE, isStrD, raiseS, rsIO, rsOf, own0, ofOpt, R.bind_ok, R.bind_er, R.bindS_ok, R.bindS_er, Option.bind_some, Option.map_some, List.map_cons, List.map_nil, List.cons_append, List.nil_append, List.replicate_succ, List.replicate_zero, List.getElem?_cons_zero, List.getElem?_cons_succ, List.length_cons, List.length_nil, List.set_cons_zero, List.set_cons_succ, isOwn, if_true, reduceIte, Bool.false_eq_true, Nat.reduceAdd, atI_0, atI_1, ixN_0, ixN_1, gt_int, lt_int, le_int, ge_int, add_int, sub_int, eq_int, ne_int, eq_str, ne_str, decide_true, decide_false, Nat.zero_add, e1, e2, e3, e4, hc, h0, h1, h1', Bool.not_false, Bool.true_and]
    · have h1' : ((13 : Int) < q.length) := by omega
      simp only [seqS, ifS, boolE, binE, unE, appE, ixOwnE, popOwnE, lenOwnE, cE, varE, retS, retNS, asgS, asgOwnS, parS, parOwnS, appendS, dropS, nopS, forS, forGo, seqI, range1I, range2I, enumI, rangeL, callE, callIO, callL, consA, nilA, nameT, tupT, consT, nilT, ownIxT, andE, orE, notE, andT, orT, notT, chainE, ifE, slE, someO, noO, lstE, lstF, appL, methE, isStrD, raiseS, rsIO, rsOf, own0, ofOpt, R.bind_ok, R.bind_er, R.bindS_ok, R.bindS_er, Option.bind_some, Option.map_some, List.map_cons, List.map_nil, List.cons_append, List.nil_append, List.replicate_succ, List.replicate_zero, List.getElem?_cons_zero, List.getElem?_cons_succ, List.length_cons, List.length_nil, List.set_cons_zero, List.set_cons_succ, isOwn, if_true, reduceIte, Bool.false_eq_true, Nat.reduceAdd, atI_0, atI_1, ixN_0, ixN_1, gt_int, lt_int, le_int, ge_int, add_int, sub_int, eq_int, ne_int, eq_str, ne_str, decide_true, decide_false, Nat.zero_add, e1, e2, e3, h0, h1, h1', Bool.not_false, Bool.true_and, Bool.false_and]
  · simp only [seqS, ifS, boolE, binE, unE, appE, ixOwnE, popOwnE, lenOwnE, cE, varE, retS, retNS, asgS, asgOwnS, parS, parOwnS, appendS, dropS, nopS, forS, forGo, seqI, range1I, range2I, enumI, rangeL, callE, callIO, callL, consA, nilA, nameT, tupT, consT, nilT, ownIxT, andE, orE, notE, andT, orT, notT, chainE, ifE, slE, someO, noO, lstE, lstF, appL, methE, isStrD, raiseS, rsIO, rsOf, own0, ofOpt, R.bind_ok, R.bind_er, R.bindS_ok, R.bindS_er, Option.bind_some, Option.map_some, List.map_cons, List.map_nil, List.cons_append, List.nil_append, List.replicate_succ, List.replicate_zero, List.getElem?_cons_zero, List.getElem?_cons_succ, List.length_cons, List.length_nil, List.set_cons_zero, List.set_cons_succ, isOwn, if_true, reduceIte, Bool.false_eq_true, Nat.reduceAdd, atI_0, atI_1, ixN_0, ixN_1, gt_int, lt_int, le_int, ge_int, add_int, sub_int, eq_int, ne_int, eq_str, ne_str, decide_true, decide_false, Nat.zero_add, e1, h0, Bool.not_true, Bool.false_and, Bool.not_false]
end K26
end L2
set_option linter.all false
set_option maxRecDepth 100000
set_option maxHeartbeats 1000000
namespace L2
namespace K26
open PySem PySem.Spec PL TL
open _root_.SX (S S_len S_cat S_tl S_inj split_S join_S num_S int_S)
def N3 : GE Bool := andT (boolE (binE eqF (binE ixF (varE 1) (cE (.int 0))) (cE (.str "0")))) (boolE (binE neF (varE 0) (cE (.str "0"))))
def lead (p q : List Nat) : Bool := decide (q.take 1 = [48]) && !decide (p = [48])
theorem N3_ok (p q : List Nat) (y : SV) (h0 : q ≠ []) (hl : q.length ≤ 1000) : N3 [.d (.str (S p)), .d (.str (S q)), y] = .ok (lead p q) [.d (.str (S p)), .d (.str (S q)), y] := by
  have i0 : ixF (.str (S q)) (.int 0) = some (.str (S (q.take 1))) := by
    show (if (S q).length ≤ lim then (atI (S q).cps.toList 0).map fun c => D.str ⟨#[c]⟩ else none) = _
    rw [if_pos (by rw [S_len]; unfold lim; omega)]
    cases q with
    | nil => exact absurd rfl h0
    | cons c r =>
      show (atI (c :: r) 0).map _ = _
      rw [atI_0]
      rfl
  have e1 : eqF (.str (S (q.take 1))) (.str ("0" : Str)) = some (.bl (decide (q.take 1 = [48]))) := by
    show some (D.bl (decide (S (q.take 1) = S [48]))) = _
    rw [S_eq]
  have e2 : neF (.str (S p)) (.str ("0" : Str)) = some (.bl (!decide (p = [48]))) := by
    show some (D.bl (!decide (S p = S [48]))) = _
    rw [S_eq]
  unfold N3 lead
  cases h : decide (q.take 1 = [48])
  · simp only [seqS, ifS, boolE, binE, unE, appE, ixOwnE, popOwnE, lenOwnE, cE, varE, retS, retNS, asgS, asgOwnS, parS, parOwnS, appendS, dropS, nopS, forS, forGo, seqI, range1I, range2I, enumI, rangeL, callE, callIO, callL, consA, nilA, nameT, tupT, consT, nilT, ownIxT, andE, orE, notE, andT, orT, notT, chainE, ifE, slE, someO, noO, lstE, lstF, appL, methE, isStrD, raiseS, rsIO, rsOf, own0, ofOpt, R.bind_ok, R.bind_er, R.bindS_ok, R.bindS_er, Option.bind_some, Option.map_some, List.map_cons, List.map_nil, List.cons_append, List.nil_append, List.replicate_succ, List.replicate_zero, List.getElem?_cons_zero, List.getElem?_cons_succ, List.length_cons, List.length_nil, List.set_cons_zero, List.set_cons_succ, isOwn, if_true, reduceIte, Bool.false_eq_true, Nat.reduceAdd, atI_0, atI_1, ixN_0, ixN_1, gt_int, lt_int, le_int, ge_int, add_int, sub_int, eq_int, ne_int, eq_str, ne_str, decide_true, decide_false, Nat.zero_add, i0, e1, e2, h, Bool.false_and]
  · simp only [seqS, ifS, boolE, binE, unE, appE, ixOwnE, popOwnE, lenOwnE, cE, varE, retS, retNS, asgS, asgOwnS, parS, parOwnS, appendS, dropS, nopS, forS, forGo, seqI, range1I, range2I, enumI, rangeL, callE, callIO, callL, consA, nilA, nameT, tupT, consT, nilT, ownIxT, andE, orE, notE, andT, orT, notT, chainE, ifE, slE, someO, noO, lstE, lstF, appL, methE, isStrD, raiseS, rsIO, rsOf, own0, ofOpt, R.bind_ok, R.bind_er, R.bindS_ok, R.bindS_er, Option.bind_some, Option.map_some, List.map_cons, List.map_nil, List.cons_append, List.nil_append, List.replicate_succ, List.replicate_zero, List.getElem?_cons_zero, List.getElem?_cons_succ, List.length_cons, List.length_nil, List.set_cons_zero, List.set_cons_succ, isOwn, if_true, reduceIte, Bool.false_eq_true, Nat.reduceAdd, atI_0, atI_1, ixN_0, ixN_1, gt_int, lt_int, le_int, ge_int, add_int, sub_int, eq_int, ne_int, eq_str, ne_str, decide_true, decide_false, Nat.zero_add, i0, e1, e2, h, Bool.true_and]
theorem number_in_is : g_number_in = seqS (asgS numE1 (nameT 1)) (seqS (ifS N2 (retS (cE .non)) nopS) (seqS (ifS N3 (retS (cE .non)) nopS) (retS (appE intF (consA (varE 0) nilA))))) := rfl
def numV (p : List Nat) : Int := if dashed p then -((NumText.digitsVal (core p) : Nat) : Int) else ((NumText.digitsVal (core p) : Nat) : Int)
theorem intF_num (p : List Nat) (h : okDig (core p) = true) (hl : p.length ≤ 640) : intF [.str (S p)] = some (.int (numV p)) := by
  obtain ⟨h1, h2⟩ := Bool.and_eq_true_iff.mp (show (!(core p).isEmpty && (decide ((core p).length ≤ 13) && (core p).all dig)) = true from h)
  obtain ⟨h2, h3⟩ := Bool.and_eq_true_iff.mp h2
  have hne : core p ≠ [] := fun z => by rw [z] at h1; cases h1
  have hd : NumText.AllDigits (core p) := fun c hc => by
    have := List.all_eq_true.mp h3 c hc
    obtain ⟨k1, k2⟩ := Bool.and_eq_true_iff.mp this
    exact ⟨of_decide_eq_true k1, of_decide_eq_true k2⟩
  have it : PySem.intText? (S p) = some (numV p) := by
    unfold numV
    cases e : dashed p
    · have ec : core p = p := by unfold core; rw [e]; rfl
      rw [ec] at hd hne ⊢
      exact intText_digits (x := S p) hd hne (by rw [S_len]; omega)
    · have ec : core p = p.drop 1 := by unfold core; rw [e]; rfl
      have hp : p = 45 :: core p := by
        have := of_decide_eq_true e
        rw [ec]
        cases p with
        | nil => cases this
        | cons c r =>
          have : [c] = [45] := this
          cases this
          rfl
      exact intText_neg (x := S p) (cs := core p) hp hd hne (by rw [S_len]; omega)
  show (match intIF [.str (S p)] with | some d => some d | none => intSF [.str (S p)]) = _
  show (if (S p).length ≤ 640 then (PySem.intText? (S p)).map D.int else none) = _
  rw [if_pos (by rw [S_len]; exact hl), it]
  rfl
def numOk (p : List Nat) : Bool := okDig (core p) && !lead p (core p)
theorem x_number_in (p : List Nat) (hl : p.length ≤ 640) : f_number_in [.str (S p)] = .ok (if numOk p then .int (numV p) else .non) := by
  have hc : (core p).length ≤ 1000 := by
    unfold core
    split
    · rw [List.length_drop]; omega
    · omega
  have n1 := numE1_ok p (by omega)
  unfold f_number_in runP numOk
  rw [number_in_is]
  cases h : okDig (core p)
  · simp only [seqS, ifS, boolE, binE, unE, appE, ixOwnE, popOwnE, lenOwnE, cE, varE, retS, retNS, asgS, asgOwnS, parS, parOwnS, appendS, dropS, nopS, forS, forGo, seqI, range1I, range2I, enumI, rangeL, callE, callIO, callL, consA, nilA, nameT, tupT, consT, nilT, ownIxT, andE, orE, notE, andT, orT, notT, chainE, ifE, slE, someO, noO, lstE, lstF, appL, methE, isStrD, raiseS, rsIO, rsOf, own0, ofOpt, R.bind_ok, R.bind_er, R.bindS_ok, R.bindS_er, Option.bind_some, Option.map_some, List.map_cons, List.map_nil, List.cons_append, List.nil_append, List.replicate_succ, List.replicate_zero, List.getElem?_cons_zero, List.getElem?_cons_succ, List.length_cons, List.length_nil, List.set_cons_zero, List.set_cons_succ, isOwn, if_true, reduceIte, Bool.false_eq_true, Nat.reduceAdd, atI_0, atI_1, ixN_0, ixN_1, gt_int, lt_int, le_int, ge_int, add_int, sub_int, eq_int, ne_int, eq_str, ne_str, decide_true, decide_false, Nat.zero_add, n1, N2_ok _ _ hc, h, Bool.not_false, Bool.false_and]
  · have hne : core p ≠ [] := fun z => by rw [z] at h; cases h
    have iv := intF_num p h hl
    cases k : lead p (core p)
    · simp only [seqS, ifS, boolE, binE, unE, appE, ixOwnE, popOwnE, lenOwnE, cE, varE, retS, retNS, asgS, asgOwnS, parS, parOwnS, appendS, dropS, nopS, forS, forGo, seqI, range1I, range2I, enumI, rangeL, callE, callIO, callL, consA, nilA, nameT, tupT, consT, nilT, ownIxT, andE, orE, notE, andT, orT, notT, chainE, ifE, slE, someO, noO, lstE, lstF, appL, methE, isStrD, raiseS, rsIO, rsOf, own0, ofOpt, R.bind_ok, R.bind_er, R.bindS_ok, R.bindS_er, Option.bind_some, Option.map_some, List.map_cons, List.map_nil, List.cons_append, List.nil_append, List.replicate_succ, List.replicate_zero, List.getElem?_cons_zero, List.getElem?_cons_succ, List.length_cons, List.length_nil, List.set_cons_zero, List.set_cons_succ, isOwn, if_true, reduceIte, Bool.false_eq_true, Nat.reduceAdd, atI_0, atI_1, ixN_0, ixN_1, gt_int, lt_int, le_int, ge_int, add_int, sub_int, eq_int, ne_int, eq_str, ne_str, decide_true, decide_false, Nat.zero_add, n1, N2_ok _ _ hc, N3_ok p (core p) _ hne hc, h, k, iv, Bool.not_true, Bool.not_false, Bool.true_and]
    · simp only [seqS, ifS, boolE, binE, unE, appE, ixOwnE, popOwnE, lenOwnE, cE, varE, retS, retNS, asgS, asgOwnS, parS, parOwnS, appendS, dropS, nopS, forS, forGo, seqI, range1I, range2I, enumI, rangeL, callE, callIO, callL, consA, nilA, nameT, tupT, consT, nilT, ownIxT, andE, orE, notE, andT, orT, notT, chainE, ifE, slE, someO, noO, lstE, lstF, appL, methE, isStrD, raiseS, rsIO, rsOf, own0, ofOpt, R.bind_ok, R.bind_er, R.bindS_ok, R.bindS_er, Option.bind_some, Option.map_some, List.map_cons, List.map_nil, List.cons_append, List.nil_append, List.replicate_succ, List.replicate_zero, List.getElem?_cons_zero, List.getElem?_cons_succ, List.length_cons, List.length_nil, List.set_cons_zero, List.set_cons_succ, isOwn, if_true, reduceIte, Bool.false_eq_true, Nat.reduceAdd, atI_0, atI_1, ixN_0, ixN_1, gt_int, lt_int, le_int, ge_int, add_int, sub_int, eq_int, ne_int, eq_str, ne_str, decide_true, decide_false, Nat.zero_add, n1, N2_ok _ _ hc, N3_ok p (core p) _ hne hc, h, k, Bool.not_true, Bool.not_false, Bool.true_and]
end K26
end L2
set_option linter.all false
set_option maxRecDepth 100000
set_option maxHeartbeats 1000000
namespace L2
namespace K26
open PySem PySem.Spec PL TL
open _root_.SX (S S_len S_cat S_tl S_inj split_S join_S num_S int_S)
abbrev parts (a : List Nat) : List (List Nat) := TL.spl [32] 0 [] a
theorem split_ok (a : List Nat) (hl : a.length ≤ 1000) : splitF (.str (S a)) [.str (" " : Str)] = some (.lst ((parts a).map fun p => D.str (S p))) := by
  show (if _ then some (D.lst ((Txt.split (S a) (S [32])).map D.str)) else none) = _
  rw [if_pos ⟨rfl, by rw [S_len]; unfold lim; omega⟩, split_S (by simp) (by decide), List.map_map]
  rfl
theorem part_len {a p : List Nat} (h : p ∈ parts a) : p.length ≤ a.length := by
  have : S p ∈ Txt.split (S a) (S [32]) := by
    rw [split_S (by simp) (by decide)]
    exact List.mem_map.mpr ⟨p, h, rfl⟩
  have := PyProof.Rows.part_short this
  rw [S_len, S_len] at this
  exact this
theorem part_free {a p : List Nat} (h : p ∈ parts a) : 32 ∉ p := by
  have : S p ∈ Txt.split (S a) (S [32]) := by
    rw [split_S (by simp) (by decide)]
    exact List.mem_map.mpr ⟨p, h, rfl⟩
  exact PySem.StrLaws.split_free (S a) 32 (S p) this
theorem parts_join (a : List Nat) : joinL [32] (parts a) = a := by
  have h := PySem.StrLaws.join_split (S a) (S [32])
  rw [split_S (by simp) (by decide), ← TL.join_eq, join_S] at h
  exact S_inj h
end K26
end L2
set_option linter.all false
set_option maxRecDepth 100000
set_option maxHeartbeats 1000000
namespace L2
namespace K26
open PySem PySem.Spec PL TL
open _root_.SX (S S_len S_cat S_tl S_inj split_S join_S num_S int_S)
def isVerb (p : List Nat) : Bool := decide (p = verb 0) || (decide (p = verb 1) || decide (p = verb 2))
theorem S_beq (a b : List Nat) : (S a == S b) = decide (a = b) := by
  rw [← S_eq]
  rfl
theorem notin_verbs (p : List Nat) : notInF (.str (S p)) c_VERBS = some (.bl (!isVerb p)) := by
  show some (D.bl (!((S (verb 0) == S p) || ((S (verb 1) == S p) || ((S (verb 2) == S p) || false))))) = _
  rw [S_beq, S_beq, S_beq, Bool.or_false]
  unfold isVerb
  rw [show decide (verb 0 = p) = decide (p = verb 0) from decide_eq_decide.mpr eq_comm, show decide (verb 1 = p) = decide (p = verb 1) from decide_eq_decide.mpr eq_comm, show decide (verb 2 = p) = decide (p = verb 2) from decide_eq_decide.mpr eq_comm]
theorem verb_of {p : List Nat} (h : isVerb p = true) : ∃ t, t ≤ 2 ∧ p = verb t := by
  unfold isVerb at h
  rcases Bool.or_eq_true_iff.mp h with h | h
  · exact ⟨0, by decide, of_decide_eq_true h⟩
  · rcases Bool.or_eq_true_iff.mp h with h | h
    · exact ⟨1, by decide, of_decide_eq_true h⟩
    · exact ⟨2, by decide, of_decide_eq_true h⟩
theorem index_verb {t : Nat} (h : t ≤ 2) : indexF ss_VERBS [.str (S (verb t))] = some (.int t) := by
  have : t = 0 ∨ t = 1 ∨ t = 2 := by omega
  rcases this with e | e | e <;> subst e <;> rfl
end K26
end L2
set_option linter.all false
set_option maxRecDepth 100000
set_option maxHeartbeats 1000000
namespace L2
namespace K26
open PySem PySem.Spec PL TL
open _root_.SX (S S_len S_cat S_tl S_inj split_S join_S num_S int_S)
/-! slip_in by its parts -/
theorem six_of {a : List Nat} (h : (parts a).length = 6) : ∃ p0 p1 p2 p3 p4 p5, parts a = [p0, p1, p2, p3, p4, p5] := by
  match e : parts a, h with
  | [p0, p1, p2, p3, p4, p5], _ => exact ⟨p0, p1, p2, p3, p4, p5, rfl⟩
theorem slip_in_few (a : List Nat) (hl : a.length ≤ 600) (h : ¬ (parts a).length = 6) : f_slip_in [.str (S a)] = .ok .non := by
  have s1 := split_ok a (by omega)
  have l1 : lenF [.lst ((parts a).map fun p => D.str (S p))] = some (.int (parts a).length) := by
    show some (D.int ((parts a).map fun p => D.str (S p)).length) = _
    rw [List.length_map]
  have h' : ¬ ((parts a).length : Int) = 6 := by omega
  unfold f_slip_in g_slip_in runP
  simp only [seqS, ifS, boolE, binE, unE, appE, ixOwnE, popOwnE, lenOwnE, cE, varE, retS, retNS, asgS, asgOwnS, parS, parOwnS, appendS, dropS, nopS, forS, forGo, seqI, range1I, range2I, enumI, rangeL, callE, callIO, callL, consA, nilA, nameT, tupT, consT, nilT, ownIxT, andE, orE, notE, andT, orT, notT, chainE, ifE, slE, someO, noO, lstE, lstF, appL, methE, isStrD, raiseS, rsIO, rsOf, own0, ofOpt, R.bind_ok, R.bind_er, R.bindS_ok, R.bindS_er, Option.bind_some, Option.map_some, List.map_cons, List.map_nil, List.cons_append, List.nil_append, List.replicate_succ, List.replicate_zero, List.getElem?_cons_zero, List.getElem?_cons_succ, List.length_cons, List.length_nil, List.set_cons_zero, List.set_cons_succ, isOwn, if_true, reduceIte, Bool.false_eq_true, Nat.reduceAdd, atI_0, atI_1, ixN_0, ixN_1, gt_int, lt_int, le_int, ge_int, add_int, sub_int, eq_int, ne_int, eq_str, ne_str, decide_true, decide_false, Nat.zero_add, s1, l1, h', Bool.not_false]
end K26
end L2
set_option linter.all false
set_option maxRecDepth 100000
set_option maxHeartbeats 1000000
namespace L2
namespace K26
open PySem PySem.Spec PL TL
open _root_.SX (S S_len S_cat S_tl S_inj split_S join_S num_S int_S)
def numD (p : List Nat) : D := if numOk p then .int (numV p) else .non
def ixAt (xs : List D) (i : Nat) (d : D) (h : xs[i]? = some d) (hi : i < xs.length) : ixF (.lst xs) (.int i) = some d := by
  show atI xs (i : Int) = _
  unfold atI ixN
  rw [if_pos (by omega), if_pos (by omega)]
  simpa using h
theorem slip_in_six (a p0 p1 p2 p3 p4 p5 : List Nat) (hl : a.length ≤ 600) (e : parts a = [p0, p1, p2, p3, p4, p5]) {t : Nat} (ht : t ≤ 2) (ev : p2 = verb t) {z : List Nat} {b : Bool}
    (hs : f_is_slip_value [.tup [c_SLIP, numD p0, .str (S p1), .str (S p3), .int t, numD p4]] = .ok (.bl b)) (hx : b = true → f_text_of [.tup [c_SLIP, numD p0, .str (S p1), .str (S p3), .int t, numD p4]] = .ok (.str (S z))) :
    f_slip_in [.str (S a)] = .ok (if b && decide (z = a) then .tup [c_SLIP, numD p0, .str (S p1), .str (S p3), .int t, numD p4] else .non) := by
  have s1 := split_ok a (by omega)
  rw [e] at s1
  have len : ∀ p ∈ parts a, p.length ≤ 600 := fun p hp => Nat.le_trans (part_len hp) hl
  rw [e] at len
  have n0 : f_number_in [.str (S p0)] = .ok (numD p0) := x_number_in p0 (by have := len p0 (by simp); omega)
  have n4 : f_number_in [.str (S p4)] = .ok (numD p4) := x_number_in p4 (by have := len p4 (by simp); omega)
  have l6 : lenF [.lst ([p0, p1, p2, p3, p4, p5].map fun p => D.str (S p))] = some (.int 6) := rfl
  have i0 : ixF (.lst ([p0, p1, p2, p3, p4, p5].map fun p => D.str (S p))) (.int 0) = some (.str (S p0)) := rfl
  have i1 : ixF (.lst ([p0, p1, p2, p3, p4, p5].map fun p => D.str (S p))) (.int 1) = some (.str (S p1)) := rfl
  have i2 : ixF (.lst ([p0, p1, p2, p3, p4, p5].map fun p => D.str (S p))) (.int 2) = some (.str (S p2)) := rfl
  have i3 : ixF (.lst ([p0, p1, p2, p3, p4, p5].map fun p => D.str (S p))) (.int 3) = some (.str (S p3)) := rfl
  have i4 : ixF (.lst ([p0, p1, p2, p3, p4, p5].map fun p => D.str (S p))) (.int 4) = some (.str (S p4)) := rfl
  have t6 : ∀ x0 x1 x2 x3 x4 x5 : D, tupF [x0, x1, x2, x3, x4, x5] = some (.tup [x0, x1, x2, x3, x4, x5]) := fun _ _ _ _ _ _ => rfl
  have nv := notin_verbs p2
  generalize ([p0, p1, p2, p3, p4, p5].map fun p => D.str (S p)) = L at s1 l6 i0 i1 i2 i3 i4
  unfold f_slip_in g_slip_in runP
  have hv : isVerb p2 = true := by
    have : t = 0 ∨ t = 1 ∨ t = 2 := by omega
    rcases this with e | e | e <;> subst e <;> subst ev <;> decide
  have ix : indexF ss_VERBS [.str (S p2)] = some (.int t) := by rw [ev]; exact index_verb ht
  cases b
  · simp only [seqS, ifS, boolE, binE, unE, appE, ixOwnE, popOwnE, lenOwnE, cE, varE, retS, retNS, asgS, asgOwnS, parS, parOwnS, appendS, dropS, nopS, forS, forGo, seqI, range1I, range2I, enumI, rangeL, callE, callIO, callL, consA, nilA, nameT, tupT, consT, nilT, ownIxT, andE, orE, notE, andT, orT, notT, chainE, ifE, slE, someO, noO, lstE, lstF, appL, methE, isStrD, raiseS, rsIO, rsOf, own0, ofOpt, R.bind_ok, R.bind_er, R.bindS_ok, R.bindS_er, Option.bind_some, Option.map_some, List.map_cons, List.map_nil, List.cons_append, List.nil_append, List.replicate_succ, List.replicate_zero, List.getElem?_cons_zero, List.getElem?_cons_succ, List.length_cons, List.length_nil, List.set_cons_zero, List.set_cons_succ, isOwn, if_true, reduceIte, Bool.false_eq_true, Nat.reduceAdd, atI_0, atI_1, ixN_0, ixN_1, gt_int, lt_int, le_int, ge_int, add_int, sub_int, eq_int, ne_int, eq_str, ne_str, decide_true, decide_false, Nat.zero_add, s1, l6, i0, i1, i2, i3, i4, nv, hv, n0, n4, ix, t6, hs, Bool.not_true, Bool.not_false, Bool.false_and]
  · have q1 := hx rfl
    have e1 : eqF (.str (S z)) (.str (S a)) = some (.bl (decide (z = a))) := by
      show some (D.bl (decide (S z = S a))) = _
      rw [S_eq]
    cases hz : decide (z = a)
    · simp only [seqS, ifS, boolE, binE, unE, appE, ixOwnE, popOwnE, lenOwnE, cE, varE, retS, retNS, asgS, asgOwnS, parS, parOwnS, appendS, dropS, nopS, forS, forGo, seqI, range1I, range2I, enumI, rangeL, callE, callIO, callL, consA, nilA, nameT, tupT, consT, nilT, ownIxT, andE, orE, notE, andT, orT, notT, chainE, ifE, slE, someO, noO, lstE, lstF, appL, methE, isStrD, raiseS, rsIO, rsOf, own0, ofOpt, R.bind_ok, R.bind_er, R.bindS_ok, R.bindS_er, Option.bind_some, Option.map_some, List.map_cons, List.map_nil, List.cons_append, List.nil_append, List.replicate_succ, List.replicate_zero, List.getElem?_cons_zero, List.getElem?_cons_succ, List.length_cons, List.length_nil, List.set_cons_zero, List.set_cons_succ, isOwn, if_true, reduceIte, Bool.false_eq_true, Nat.reduceAdd, atI_0, atI_1, ixN_0, ixN_1, gt_int, lt_int, le_int, ge_int, add_int, sub_int, eq_int, ne_int, eq_str, ne_str, decide_true, decide_false, Nat.zero_add, s1, l6, i0, i1, i2, i3, i4, nv, hv, n0, n4, ix, t6, hs, q1, e1, hz, Bool.not_true, Bool.not_false, Bool.true_and]
    · simp only [seqS, ifS, boolE, binE, unE, appE, ixOwnE, popOwnE, lenOwnE, cE, varE, retS, retNS, asgS, asgOwnS, parS, parOwnS, appendS, dropS, nopS, forS, forGo, seqI, range1I, range2I, enumI, rangeL, callE, callIO, callL, consA, nilA, nameT, tupT, consT, nilT, ownIxT, andE, orE, notE, andT, orT, notT, chainE, ifE, slE, someO, noO, lstE, lstF, appL, methE, isStrD, raiseS, rsIO, rsOf, own0, ofOpt, R.bind_ok, R.bind_er, R.bindS_ok, R.bindS_er, Option.bind_some, Option.map_some, List.map_cons, List.map_nil, List.cons_append, List.nil_append, List.replicate_succ, List.replicate_zero, List.getElem?_cons_zero, List.getElem?_cons_succ, List.length_cons, List.length_nil, List.set_cons_zero, List.set_cons_succ, isOwn, if_true, reduceIte, Bool.false_eq_true, Nat.reduceAdd, atI_0, atI_1, ixN_0, ixN_1, gt_int, lt_int, le_int, ge_int, add_int, sub_int, eq_int, ne_int, eq_str, ne_str, decide_true, decide_false, Nat.zero_add, s1, l6, i0, i1, i2, i3, i4, nv, hv, n0, n4, ix, t6, hs, q1, e1, hz, Bool.not_true, Bool.not_false, Bool.true_and]
end K26
end L2
set_option linter.all false
set_option maxRecDepth 100000
set_option maxHeartbeats 1000000
namespace L2
namespace K26
open PySem PySem.Spec PL TL
open _root_.SX (S S_len S_cat S_tl S_inj split_S join_S num_S int_S)
theorem slip_in_noverb (a p0 p1 p2 p3 p4 p5 : List Nat) (hl : a.length ≤ 600) (e : parts a = [p0, p1, p2, p3, p4, p5]) (hv : isVerb p2 = false) : f_slip_in [.str (S a)] = .ok .non := by
  have s1 := split_ok a (by omega)
  rw [e] at s1
  have l6 : lenF [.lst ([p0, p1, p2, p3, p4, p5].map fun p => D.str (S p))] = some (.int 6) := rfl
  have i2 : ixF (.lst ([p0, p1, p2, p3, p4, p5].map fun p => D.str (S p))) (.int 2) = some (.str (S p2)) := rfl
  have nv := notin_verbs p2
  generalize ([p0, p1, p2, p3, p4, p5].map fun p => D.str (S p)) = L at s1 l6 i2
  unfold f_slip_in g_slip_in runP
  simp only [seqS, ifS, boolE, binE, unE, appE, ixOwnE, popOwnE, lenOwnE, cE, varE, retS, retNS, asgS, asgOwnS, parS, parOwnS, appendS, dropS, nopS, forS, forGo, seqI, range1I, range2I, enumI, rangeL, callE, callIO, callL, consA, nilA, nameT, tupT, consT, nilT, ownIxT, andE, orE, notE, andT, orT, notT, chainE, ifE, slE, someO, noO, lstE, lstF, appL, methE, isStrD, raiseS, rsIO, rsOf, own0, ofOpt, R.bind_ok, R.bind_er, R.bindS_ok, R.bindS_er, Option.bind_some, Option.map_some, List.map_cons, List.map_nil, List.cons_append, List.nil_append, List.replicate_succ, List.replicate_zero, List.getElem?_cons_zero, List.getElem?_cons_succ, List.length_cons, List.length_nil, List.set_cons_zero, List.set_cons_succ, isOwn, if_true, reduceIte, Bool.false_eq_true, Nat.reduceAdd, atI_0, atI_1, ixN_0, ixN_1, gt_int, lt_int, le_int, ge_int, add_int, sub_int, eq_int, ne_int, eq_str, ne_str, decide_true, decide_false, Nat.zero_add, s1, l6, i2, nv, hv, Bool.not_true, Bool.not_false]
theorem x_slip_of_text {a : List Nat} {d : D} (h : f_slip_in [.str (S a)] = .ok d) : f_slip_of_text [.str (S a)] = .ok d := by
  have e1 : isiF "str" (.str (S a)) = some (.bl true) := rfl
  unfold f_slip_of_text g_slip_of_text runP
  simp only [seqS, ifS, boolE, binE, unE, appE, ixOwnE, popOwnE, lenOwnE, cE, varE, retS, retNS, asgS, asgOwnS, parS, parOwnS, appendS, dropS, nopS, forS, forGo, seqI, range1I, range2I, enumI, rangeL, callE, callIO, callL, consA, nilA, nameT, tupT, consT, nilT, ownIxT, andE, orE, notE, andT, orT, notT, chainE, ifE, slE, someO, noO, lstE, lstF, appL, methE, isStrD, raiseS, rsIO, rsOf, own0, ofOpt, R.bind_ok, R.bind_er, R.bindS_ok, R.bindS_er, Option.bind_some, Option.map_some, List.map_cons, List.map_nil, List.cons_append, List.nil_append, List.replicate_succ, List.replicate_zero, List.getElem?_cons_zero, List.getElem?_cons_succ, List.length_cons, List.length_nil, List.set_cons_zero, List.set_cons_succ, isOwn, if_true, reduceIte, Bool.false_eq_true, Nat.reduceAdd, atI_0, atI_1, ixN_0, ixN_1, gt_int, lt_int, le_int, ge_int, add_int, sub_int, eq_int, ne_int, eq_str, ne_str, decide_true, decide_false, Nat.zero_add, e1, h, Bool.not_true]
end K26
end L2
set_option linter.all false
set_option maxRecDepth 100000
set_option maxHeartbeats 1000000
namespace L2
namespace K26
open PySem PySem.Spec PL TL
open _root_.SX (S S_len S_cat S_tl S_inj split_S join_S num_S int_S)
/-! the law's own reading: numbers, names -/
def val (p : List Nat) : Nat := NumText.digitsVal p
def num2 (p : List Nat) : Bool := !p.isEmpty && (p.all dig && (decide (p.length ≤ 2) && decide (p = numL (val p))))
theorem val2_lt {p : List Nat} (hd : p.all dig = true) (h2 : p.length ≤ 2) : val p < 100 := by
  unfold val
  have hb : ∀ c ∈ p, 48 ≤ c ∧ c ≤ 57 := fun c hc => by
    obtain ⟨k1, k2⟩ := Bool.and_eq_true_iff.mp (List.all_eq_true.mp hd c hc)
    exact ⟨of_decide_eq_true k1, of_decide_eq_true k2⟩
  match p, h2 with
  | [], _ => decide
  | [c], _ =>
    have := hb c (by simp)
    show (0 * 10 + (c - 48)) < 100
    omega
  | [c, d], _ =>
    have := hb c (by simp)
    have := hb d (by simp)
    show ((0 * 10 + (c - 48)) * 10 + (d - 48)) < 100
    omega
  | _ :: _ :: _ :: _, h => simp at h
def L2T : GE Bool := orT (boolE (binE eqF (varE 2) (cE (.str "")))) (orT (boolE (binE neF (lstE (lcE [4] (seqI (varE 2)) (nameT 4) (boolE (binE notInF (varE 4) (cE (.str "0123456789")))) (varE 4))) (lstE (lstF nilA)))) (orT (boolE (binE gtF (appE lenF (consA (varE 2) nilA)) (cE (.int 2)))) (boolE (binE neF (varE 2) (appE strIF (consA (appE intF (consA (varE 2) nilA)) nilA))))))
def notDig : D → Bool
  | .str x => !dig (x.cps.getD 0 0)
  | _ => false
theorem signs_notDig (a : List Nat) : ((signs (S a)).filter notDig).map id = (a.filter fun c => !dig c).map fun c => D.str ⟨#[c]⟩ := by
  unfold signs
  rw [List.map_id, List.filter_map]
  rfl
theorem notin_digits (c : Nat) : notInF (.str ⟨#[c]⟩) (.str ("0123456789" : Str)) = some (.bl (!dig c)) := by
  show some (D.bl (!decide (c ∈ List.range' 48 10))) = _
  congr 3
  unfold dig
  rw [← Bool.decide_and]
  apply decide_eq_decide.mpr
  rw [List.mem_range'_1]
  omega
theorem empty_notDig (a : List Nat) : (a.filter fun c => !dig c).isEmpty = a.all dig := by
  induction a with
  | nil => rfl
  | cons c a ih =>
    rw [List.filter_cons, List.all_cons]
    cases h : dig c
    · rfl
    · simpa using ih
theorem intF_dig {p : List Nat} (h0 : p ≠ []) (hd : p.all dig = true) (hl : p.length ≤ 2) : intF [.str (S p)] = some (.int (val p : Nat)) := by
  have it : PySem.intText? (S p) = some ((val p : Nat) : Int) := intText_digits (x := S p) (fun c hc => by
    obtain ⟨k1, k2⟩ := Bool.and_eq_true_iff.mp (List.all_eq_true.mp hd c hc)
    exact ⟨of_decide_eq_true k1, of_decide_eq_true k2⟩) h0 (by rw [S_len]; omega)
  show (if (S p).length ≤ 640 then (PySem.intText? (S p)).map D.int else none) = _
  rw [if_pos (by rw [S_len]; omega), it]
  rfl
theorem L2T_ok (x y z : SV) (p : List Nat) (hl : p.length ≤ 600) (ha : asc p = true) : L2T [x, y, .d (.str (S p)), z, .un] = .ok (!num2 p) [x, y, .d (.str (S p)), z, .un] := by
  have hc : lcE [4] (seqI (varE 2)) (nameT 4) (boolE (binE notInF (varE 4) (cE (.str "0123456789")))) (varE 4) [x, y, .d (.str (S p)), z, .un] = .ok ((p.filter fun c => !dig c).map fun c => D.str ⟨#[c]⟩) [x, y, .d (.str (S p)), z, .un] := by
    refine (lcE_pure (vs := [4]) (gi := seqI (varE 2)) notDig id (items := signs (S p)) (ρ1 := [x, y, .d (.str (S p)), z, .un]) rfl rfl (by unfold signs lim; simp; omega) rfl ?_).trans (by rw [signs_notDig])
    intro d hd
    obtain ⟨c, hc, rfl⟩ := List.mem_map.mp hd
    refine ⟨[x, y, .d (.str (S p)), z, .d (.str ⟨#[c]⟩)], rfl, ?_, rfl, fun _ => rfl⟩
    simp only [seqS, ifS, boolE, binE, unE, appE, ixOwnE, popOwnE, lenOwnE, cE, varE, retS, retNS, asgS, asgOwnS, parS, parOwnS, appendS, dropS, nopS, forS, forGo, seqI, range1I, range2I, enumI, rangeL, callE, callIO, callL, consA, nilA, nameT, tupT, consT, nilT, ownIxT, andE, orE, notE, andT, orT, notT, chainE, ifE, slE, someO, noO, lstE, lstF, appL, methE, isStrD, raiseS, rsIO, rsOf, own0, ofOpt, R.bind_ok, R.bind_er, R.bindS_ok, R.bindS_er, Option.bind_some, Option.map_some, List.map_cons, List.map_nil, List.cons_append, List.nil_append, List.replicate_succ, List.replicate_zero, List.getElem?_cons_zero, List.getElem?_cons_succ, List.length_cons, List.length_nil, List.set_cons_zero, List.set_cons_succ, isOwn, if_true, reduceIte, Bool.false_eq_true, Nat.reduceAdd, atI_0, atI_1, ixN_0, ixN_1, gt_int, lt_int, le_int, ge_int, add_int, sub_int, eq_int, ne_int, eq_str, ne_str, decide_true, decide_false, Nat.zero_add, notin_digits]
    rfl
  have e0 : eqF (.str (S p)) (.str ("" : Str)) = some (.bl p.isEmpty) := by
    show some (D.bl (decide (S p = S []))) = _
    rw [S_eq]
    cases p <;> rfl
  have e2 : lenF [.str (S p)] = some (.int p.length) := by
    unfold lenF lenSF lenTF
    simp only [S_len]
    rw [if_pos (by unfold lim; omega)]
  have e3 := ne_empty (p.filter fun c => !dig c) (asc_filter ha _)
  rw [empty_notDig] at e3
  have l0 : (0 : Nat) ≤ lim := by decide
  unfold L2T num2
  cases h0 : p.isEmpty
  · have hne : p ≠ [] := fun z => by rw [z] at h0; cases h0
    cases h1 : p.all dig
    · rw [h1] at e3
      simp only [seqS, ifS, boolE, binE, unE, appE, ixOwnE, popOwnE, lenOwnE, cE, varE, retS, retNS, asgS, asgOwnS, parS, parOwnS, appendS, dropS, nopS, forS, forGo, seqI, range1I, range2I, enumI, rangeL, callE, callIO, callL, consA, nilA, nameT, tupT, consT, nilT, ownIxT, andE, orE, notE, andT, orT, notT, chainE, ifE, slE, someO, noO, lstE, lstF, appL, methE, isStrD, raiseS, rsIO, rsOf, own0, ofOpt, R.bind_ok, R.bind_er, R.bindS_ok, R.bindS_er, Option.bind_some, Option.map_some, List.map_cons, List.map_nil, List.cons_append, List.nil_append, List.replicate_succ, List.replicate_zero, List.getElem?_cons_zero, List.getElem?_cons_succ, List.length_cons, List.length_nil, List.set_cons_zero, List.set_cons_succ, isOwn, if_true, reduceIte, Bool.false_eq_true, Nat.reduceAdd, atI_0, atI_1, ixN_0, ixN_1, gt_int, lt_int, le_int, ge_int, add_int, sub_int, eq_int, ne_int, eq_str, ne_str, decide_true, decide_false, Nat.zero_add, e0, e3, h0, hc, l0, Bool.not_false, Bool.true_and, Bool.false_and]
    · rw [h1] at e3
      by_cases h2 : p.length ≤ 2
      · have h2' : ¬ ((2 : Int) < p.length) := by omega
        have e4 := intF_dig hne h1 h2
        have e5 := strI_ok (val p) (by have := val2_lt h1 h2; omega)
        have e6 : neF (.str (S p)) (.str (S (numL (val p)))) = some (.bl (!decide (p = numL (val p)))) := by
          show some (D.bl (!decide (S p = S (numL (val p))))) = _
          rw [S_eq]
        simp only [seqS, ifS, boolE, binE, unE, appE, ixOwnE, popOwnE, lenOwnE, cE, varE, retS, retNS, asgS, asgOwnS, parS, parOwnS, appendS, dropS, nopS, forS, forGo, seqI, range1I, range2I, enumI, rangeL, callE, callIO, callL, consA, nilA, nameT, tupT, consT, nilT, ownIxT, andE, orE, notE, andT, orT, notT, chainE, ifE, slE, someO, noO, lstE, lstF, appL, methE, isStrD, raiseS, rsIO, rsOf, own0, ofOpt, R.bind_ok, R.bind_er, R.bindS_ok, R.bindS_er, Option.bind_some, Option.map_some, List.map_cons, List.map_nil, List.cons_append, List.nil_append, List.replicate_succ, List.replicate_zero, List.getElem?_cons_zero, List.getElem?_cons_succ, List.length_cons, List.length_nil, List.set_cons_zero, List.set_cons_succ, isOwn, if_true, reduceIte, Bool.false_eq_true, Nat.reduceAdd, atI_0, atI_1, ixN_0, ixN_1, gt_int, lt_int, le_int, ge_int, add_int, sub_int, eq_int, ne_int, eq_str, ne_str, decide_true, decide_false, Nat.zero_add, e0, e2, e3, e4, e5, e6, h0, h1, h2, h2', hc, l0, Bool.not_false, Bool.not_true, Bool.true_and, Bool.false_and]
      · have h2' : ((2 : Int) < p.length) := by omega
        simp only [seqS, ifS, boolE, binE, unE, appE, ixOwnE, popOwnE, lenOwnE, cE, varE, retS, retNS, asgS, asgOwnS, parS, parOwnS, appendS, dropS, nopS, forS, forGo, seqI, range1I, range2I, enumI, rangeL, callE, callIO, callL, consA, nilA, nameT, tupT, consT, nilT, ownIxT, andE, orE, notE, andT, orT, notT, chainE, ifE, slE, someO, noO, lstE, lstF, appL, methE, isStrD, raiseS, rsIO, rsOf, own0, ofOpt, R.bind_ok, R.bind_er, R.bindS_ok, R.bindS_er, Option.bind_some, Option.map_some, List.map_cons, List.map_nil, List.cons_append, List.nil_append, List.replicate_succ, List.replicate_zero, List.getElem?_cons_zero, List.getElem?_cons_succ, List.length_cons, List.length_nil, List.set_cons_zero, List.set_cons_succ, isOwn, if_true, reduceIte, Bool.false_eq_true, Nat.reduceAdd, atI_0, atI_1, ixN_0, ixN_1, gt_int, lt_int, le_int, ge_int, add_int, sub_int, eq_int, ne_int, eq_str, ne_str, decide_true, decide_false, Nat.zero_add, e0, e2, e3, h0, h1, h2, h2', hc, l0, Bool.not_false, Bool.not_true, Bool.true_and, Bool.false_and]
  · simp only [seqS, ifS, boolE, binE, unE, appE, ixOwnE, popOwnE, lenOwnE, cE, varE, retS, retNS, asgS, asgOwnS, parS, parOwnS, appendS, dropS, nopS, forS, forGo, seqI, range1I, range2I, enumI, rangeL, callE, callIO, callL, consA, nilA, nameT, tupT, consT, nilT, ownIxT, andE, orE, notE, andT, orT, notT, chainE, ifE, slE, someO, noO, lstE, lstF, appL, methE, isStrD, raiseS, rsIO, rsOf, own0, ofOpt, R.bind_ok, R.bind_er, R.bindS_ok, R.bindS_er, Option.bind_some, Option.map_some, List.map_cons, List.map_nil, List.cons_append, List.nil_append, List.replicate_succ, List.replicate_zero, List.getElem?_cons_zero, List.getElem?_cons_succ, List.length_cons, List.length_nil, List.set_cons_zero, List.set_cons_succ, isOwn, if_true, reduceIte, Bool.false_eq_true, Nat.reduceAdd, atI_0, atI_1, ixN_0, ixN_1, gt_int, lt_int, le_int, ge_int, add_int, sub_int, eq_int, ne_int, eq_str, ne_str, decide_true, decide_false, Nat.zero_add, e0, h0, Bool.not_true, Bool.false_and, Bool.not_false]
def L3T : GE Bool := orT (notT (boolE (chainE leF leF (cE (.int 1)) (appE lenF (consA (varE 3) nilA)) (cE (.int 12))))) (boolE (binE neF (lstE (lcE [4] (seqI (varE 3)) (nameT 4) (notT (boolE (chainE leF leF (cE (.str "a")) (varE 4) (cE (.str "z"))))) (varE 4))) (lstE (lstF nilA))))
theorem L3T_ok (x y z : SV) (a : List Nat) (hl : a.length ≤ 1000) (ha : asc a = true) : L3T [x, y, z, .d (.str (S a)), .un] = .ok (!isName a) [x, y, z, .d (.str (S a)), .un] := by
  have hc : lcE [4] (seqI (varE 3)) (nameT 4) (notT (boolE (chainE leF leF (cE (.str "a")) (varE 4) (cE (.str "z"))))) (varE 4) [x, y, z, .d (.str (S a)), .un] = .ok ((a.filter fun c => !low c).map fun c => D.str ⟨#[c]⟩) [x, y, z, .d (.str (S a)), .un] := by
    refine (lcE_pure (vs := [4]) (gi := seqI (varE 3)) notLow id (items := signs (S a)) (ρ1 := [x, y, z, .d (.str (S a)), .un]) rfl rfl (by unfold signs lim; simp; omega) rfl ?_).trans (by rw [signs_notLow])
    intro d hd
    obtain ⟨c, hc, rfl⟩ := List.mem_map.mp hd
    exact ⟨[x, y, z, .d (.str (S a)), .d (.str ⟨#[c]⟩)], rfl, az_chain c [] x y z, rfl, fun _ => rfl⟩
  have e2 : lenF [.str (S a)] = some (.int a.length) := by
    unfold lenF lenSF lenTF
    simp only [S_len]
    rw [if_pos (by unfold lim; omega)]
  have e3 := ne_empty (a.filter fun c => !low c) (asc_filter ha _)
  rw [empty_filter] at e3
  have l0 : (0 : Nat) ≤ lim := by decide
  unfold L3T isName
  by_cases h1 : 1 ≤ a.length
  · have h1' : (1 : Int) ≤ a.length := by omega
    by_cases h2 : a.length ≤ 12
    · have h2' : (a.length : Int) ≤ 12 := by omega
      simp only [seqS, ifS, boolE, binE, unE, appE, ixOwnE, popOwnE, lenOwnE, cE, varE, retS, retNS, asgS, asgOwnS, parS, parOwnS, appendS, dropS, nopS, forS, forGo, seqI, range1I, range2I, enumI, rangeL, callE, callIO, callL, consA, nilA, nameT, tupT, consT, nilT, ownIxT, andE, orE, notE, andT, orT, notT, chainE, ifE, slE, someO, noO, lstE, lstF, appL, methE, isStrD, raiseS, rsIO, rsOf, own0, ofOpt, R.bind_ok, R.bind_er, R.bindS_ok, R.bindS_er, Option.bind_some, Option.map_some, List.map_cons, List.map_nil, List.cons_append, List.nil_append, List.replicate_succ, List.replicate_zero, List.getElem?_cons_zero, List.getElem?_cons_succ, List.length_cons, List.length_nil, List.set_cons_zero, List.set_cons_succ, isOwn, if_true, reduceIte, Bool.false_eq_true, Nat.reduceAdd, atI_0, atI_1, ixN_0, ixN_1, gt_int, lt_int, le_int, ge_int, add_int, sub_int, eq_int, ne_int, eq_str, ne_str, decide_true, decide_false, Nat.zero_add, e2, e3, h1', h2', hc, h1, h2, l0, Bool.true_and, Bool.not_true, Bool.not_false]
    · have h2' : ¬ (a.length : Int) ≤ 12 := by omega
      simp only [seqS, ifS, boolE, binE, unE, appE, ixOwnE, popOwnE, lenOwnE, cE, varE, retS, retNS, asgS, asgOwnS, parS, parOwnS, appendS, dropS, nopS, forS, forGo, seqI, range1I, range2I, enumI, rangeL, callE, callIO, callL, consA, nilA, nameT, tupT, consT, nilT, ownIxT, andE, orE, notE, andT, orT, notT, chainE, ifE, slE, someO, noO, lstE, lstF, appL, methE, isStrD, raiseS, rsIO, rsOf, own0, ofOpt, R.bind_ok, R.bind_er, R.bindS_ok, R.bindS_er, Option.bind_some, Option.map_some, List.map_cons, List.map_nil, List.cons_append, List.nil_append, List.replicate_succ, List.replicate_zero, List.getElem?_cons_zero, List.getElem?_cons_succ, List.length_cons, List.length_nil, List.set_cons_zero, List.set_cons_succ, isOwn, if_true, reduceIte, Bool.false_eq_true, Nat.reduceAdd, atI_0, atI_1, ixN_0, ixN_1, gt_int, lt_int, le_int, ge_int, add_int, sub_int, eq_int, ne_int, eq_str, ne_str, decide_true, decide_false, Nat.zero_add, e2, e3, h1', h2', hc, h1, h2, l0, Bool.true_and, Bool.false_and, Bool.not_true, Bool.not_false]
  · have h1' : ¬ (1 : Int) ≤ a.length := by omega
    simp only [seqS, ifS, boolE, binE, unE, appE, ixOwnE, popOwnE, lenOwnE, cE, varE, retS, retNS, asgS, asgOwnS, parS, parOwnS, appendS, dropS, nopS, forS, forGo, seqI, range1I, range2I, enumI, rangeL, callE, callIO, callL, consA, nilA, nameT, tupT, consT, nilT, ownIxT, andE, orE, notE, andT, orT, notT, chainE, ifE, slE, someO, noO, lstE, lstF, appL, methE, isStrD, raiseS, rsIO, rsOf, own0, ofOpt, R.bind_ok, R.bind_er, R.bindS_ok, R.bindS_er, Option.bind_some, Option.map_some, List.map_cons, List.map_nil, List.cons_append, List.nil_append, List.replicate_succ, List.replicate_zero, List.getElem?_cons_zero, List.getElem?_cons_succ, List.length_cons, List.length_nil, List.set_cons_zero, List.set_cons_succ, isOwn, if_true, reduceIte, Bool.false_eq_true, Nat.reduceAdd, atI_0, atI_1, ixN_0, ixN_1, gt_int, lt_int, le_int, ge_int, add_int, sub_int, eq_int, ne_int, eq_str, ne_str, decide_true, decide_false, Nat.zero_add, e2, h1', h1, Bool.false_and, Bool.not_true, Bool.not_false]
end K26
end L2
set_option linter.all false
set_option maxRecDepth 100000
set_option maxHeartbeats 1000000
namespace L2
namespace K26
open PySem PySem.Spec PL TL
open _root_.SX (S S_len S_cat S_tl S_inj split_S join_S num_S int_S)
theorem mem_joinL {c : Nat} {p s : List Nat} : ∀ {l : List (List Nat)}, p ∈ l → c ∈ p → c ∈ joinL s l
  | [], h, _ => absurd h List.not_mem_nil
  | [q], h, hc => by
    have : p = q := by simpa using h
    subst this
    exact hc
  | q :: r :: l, h, hc => by
    show c ∈ q ++ (s ++ joinL s (r :: l))
    rcases List.mem_cons.mp h with rfl | h
    · exact List.mem_append_left _ hc
    · exact List.mem_append_right _ (List.mem_append_right _ (mem_joinL h hc))
theorem part_asc {a p : List Nat} (ha : asc a = true) (h : p ∈ parts a) : asc p = true := by
  unfold asc at ha ⊢
  rw [List.all_eq_true] at ha ⊢
  intro c hc
  refine ha c ?_
  rw [← parts_join a]
  exact mem_joinL h hc
def L1T : GE Bool := orT (boolE (binE neF (appE lenF (consA (varE 1) nilA)) (cE (.int 6)))) (orT (boolE (binE notInF (binE ixF (varE 1) (cE (.int 2))) (appE tupF (consA (cE (.str "beats")) (consA (cE (.str "draws")) (consA (cE (.str "yields")) nilA)))))) (boolE (binE neF (binE ixF (varE 1) (cE (.int 5))) (callE 1 f_l_check (consA (methE joinF (cE (.str " ")) (consA (slE (varE 1) noO (someO (cE (.int 5)))) nilA)) nilA)))))
def L9E : GE D := (appE tupF (consA (cE (.str "slip")) (consA (appE intF (consA (binE ixF (varE 1) (cE (.int 0))) nilA)) (consA (binE ixF (varE 1) (cE (.int 1))) (consA (binE ixF (varE 1) (cE (.int 3))) (consA (unE (dictF [("beats", 2), ("draws", 1), ("yields", 0)]) (binE ixF (varE 1) (cE (.int 2)))) (consA (appE intF (consA (binE ixF (varE 1) (cE (.int 4))) nilA)) nilA)))))))
theorem l_slip_of_is : g_l_slip_of = seqS (asgS (methE splitF (varE 0) (consA (cE (.str " ")) nilA)) (nameT 1))
    (seqS (ifS L1T (retS (cE .non)) nopS)
    (seqS (forS (seqI (appE tupF (consA (binE ixF (varE 1) (cE (.int 0))) (consA (binE ixF (varE 1) (cE (.int 4))) nilA)))) (nameT 2) (ifS L2T (retS (cE .non)) nopS))
    (seqS (forS (seqI (appE tupF (consA (binE ixF (varE 1) (cE (.int 1))) (consA (binE ixF (varE 1) (cE (.int 3))) nilA)))) (nameT 3) (ifS L3T (retS (cE .non)) nopS))
    (seqS (ifS (boolE (binE eqF (binE ixF (varE 1) (cE (.int 1))) (binE ixF (varE 1) (cE (.int 3))))) (retS (cE .non)) nopS)
    (retS L9E))))) := rfl
theorem notin_verbs' (p : List Nat) : notInF (.str (S p)) (.tup [.str ("beats" : Str), .str ("draws" : Str), .str ("yields" : Str)]) = some (.bl (!isVerb p)) := by
  show some (D.bl (!((S (verb 2) == S p) || ((S (verb 1) == S p) || ((S (verb 0) == S p) || false))))) = _
  rw [S_beq, S_beq, S_beq, Bool.or_false]
  unfold isVerb
  rw [show decide (verb 0 = p) = decide (p = verb 0) from decide_eq_decide.mpr eq_comm, show decide (verb 1 = p) = decide (p = verb 1) from decide_eq_decide.mpr eq_comm, show decide (verb 2 = p) = decide (p = verb 2) from decide_eq_decide.mpr eq_comm]
  cases decide (p = verb 0) <;> cases decide (p = verb 1) <;> cases decide (p = verb 2) <;> rfl
theorem dict_verb {t : Nat} (h : t ≤ 2) : dictF [("beats", 2), ("draws", 1), ("yields", 0)] (.str (S (verb t))) = some (.int t) := by
  have : t = 0 ∨ t = 1 ∨ t = 2 := by omega
  rcases this with e | e | e <;> subst e <;> rfl
def body5 (p0 p1 p2 p3 p4 : List Nat) : List Nat := joinL [32] [p0, p1, p2, p3, p4]
theorem joinL_6 {a p0 p1 p2 p3 p4 p5 : List Nat} (e : parts a = [p0, p1, p2, p3, p4, p5]) : a = body5 p0 p1 p2 p3 p4 ++ 32 :: p5 := by
  have h := parts_join a
  rw [e] at h
  rw [← h]
  unfold body5
  simp [joinL]
theorem l_slip_of_few (a : List Nat) (hl : a.length ≤ 600) (h : ¬ (parts a).length = 6) : f_l_slip_of [.str (S a)] = .ok .non := by
  have s1 := split_ok a (by omega)
  have l1 : lenF [.lst ((parts a).map fun p => D.str (S p))] = some (.int (parts a).length) := by
    show some (D.int ((parts a).map fun p => D.str (S p)).length) = _
    rw [List.length_map]
  have h' : ¬ ((parts a).length : Int) = 6 := by omega
  unfold f_l_slip_of runP
  rw [l_slip_of_is]
  unfold L1T
  simp only [seqS, ifS, boolE, binE, unE, appE, ixOwnE, popOwnE, lenOwnE, cE, varE, retS, retNS, asgS, asgOwnS, parS, parOwnS, appendS, dropS, nopS, forS, forGo, seqI, range1I, range2I, enumI, rangeL, callE, callIO, callL, consA, nilA, nameT, tupT, consT, nilT, ownIxT, andE, orE, notE, andT, orT, notT, chainE, ifE, slE, someO, noO, lstE, lstF, appL, methE, isStrD, raiseS, rsIO, rsOf, own0, ofOpt, R.bind_ok, R.bind_er, R.bindS_ok, R.bindS_er, Option.bind_some, Option.map_some, List.map_cons, List.map_nil, List.cons_append, List.nil_append, List.replicate_succ, List.replicate_zero, List.getElem?_cons_zero, List.getElem?_cons_succ, List.length_cons, List.length_nil, List.set_cons_zero, List.set_cons_succ, isOwn, if_true, reduceIte, Bool.false_eq_true, Nat.reduceAdd, atI_0, atI_1, ixN_0, ixN_1, gt_int, lt_int, le_int, ge_int, add_int, sub_int, eq_int, ne_int, eq_str, ne_str, decide_true, decide_false, Nat.zero_add, s1, l1, h', Bool.not_false]
section
variable {a p0 p1 p2 p3 p4 p5 : List Nat}
theorem l_slip_of_noverb (hl : a.length ≤ 600) (e : parts a = [p0, p1, p2, p3, p4, p5]) (hv : isVerb p2 = false) : f_l_slip_of [.str (S a)] = .ok .non := by
  have s1 := split_ok a (by omega)
  rw [e] at s1
  have l6 : lenF [.lst ([p0, p1, p2, p3, p4, p5].map fun p => D.str (S p))] = some (.int 6) := rfl
  have i2 : ixF (.lst ([p0, p1, p2, p3, p4, p5].map fun p => D.str (S p))) (.int 2) = some (.str (S p2)) := rfl
  have t3 : tupF [.str ("beats" : Str), .str ("draws" : Str), .str ("yields" : Str)] = some (.tup [.str ("beats" : Str), .str ("draws" : Str), .str ("yields" : Str)]) := rfl
  have nv := notin_verbs' p2
  generalize ([p0, p1, p2, p3, p4, p5].map fun p => D.str (S p)) = L at s1 l6 i2
  unfold f_l_slip_of runP
  rw [l_slip_of_is]
  unfold L1T
  simp only [seqS, ifS, boolE, binE, unE, appE, ixOwnE, popOwnE, lenOwnE, cE, varE, retS, retNS, asgS, asgOwnS, parS, parOwnS, appendS, dropS, nopS, forS, forGo, seqI, range1I, range2I, enumI, rangeL, callE, callIO, callL, consA, nilA, nameT, tupT, consT, nilT, ownIxT, andE, orE, notE, andT, orT, notT, chainE, ifE, slE, someO, noO, lstE, lstF, appL, methE, isStrD, raiseS, rsIO, rsOf, own0, ofOpt, R.bind_ok, R.bind_er, R.bindS_ok, R.bindS_er, Option.bind_some, Option.map_some, List.map_cons, List.map_nil, List.cons_append, List.nil_append, List.replicate_succ, List.replicate_zero, List.getElem?_cons_zero, List.getElem?_cons_succ, List.length_cons, List.length_nil, List.set_cons_zero, List.set_cons_succ, isOwn, if_true, reduceIte, Bool.false_eq_true, Nat.reduceAdd, atI_0, atI_1, ixN_0, ixN_1, gt_int, lt_int, le_int, ge_int, add_int, sub_int, eq_int, ne_int, eq_str, ne_str, decide_true, decide_false, Nat.zero_add, s1, l6, i2, t3, nv, hv, Bool.not_true, Bool.not_false]
theorem x_l_slip_of6 (hl : a.length ≤ 600) (ha : asc a = true) (e : parts a = [p0, p1, p2, p3, p4, p5]) {t : Nat} (ht : t ≤ 2) (ev : p2 = verb t) :
    f_l_slip_of [.str (S a)] = .ok (if (decide (p5 = chk (body5 p0 p1 p2 p3 p4)) && (num2 p0 && (num2 p4 && (isName p1 && (isName p3 && !decide (p1 = p3)))))) = true then .tup [.str ("slip" : Str), .int (val p0 : Nat), .str (S p1), .str (S p3), .int t, .int (val p4 : Nat)] else .non) := by
  have s1 := split_ok a (by omega)
  rw [e] at s1
  have len : ∀ p ∈ parts a, p.length ≤ 600 := fun p hp => Nat.le_trans (part_len hp) hl
  have asx : ∀ p ∈ parts a, asc p = true := fun p hp => part_asc ha hp
  rw [e] at len asx
  have k0 := len p0 (by simp)
  have k1 := len p1 (by simp)
  have k2 := len p2 (by simp)
  have k3 := len p3 (by simp)
  have k4 := len p4 (by simp)
  have a0 := asx p0 (by simp)
  have a1 := asx p1 (by simp)
  have a3 := asx p3 (by simp)
  have a4 := asx p4 (by simp)
  have lb : (body5 p0 p1 p2 p3 p4).length ≤ 1000 := by
    have := congrArg List.length (joinL_6 e)
    rw [List.length_append] at this
    omega
  have l6 : lenF [.lst ([p0, p1, p2, p3, p4, p5].map fun p => D.str (S p))] = some (.int 6) := rfl
  have i0 : ixF (.lst ([p0, p1, p2, p3, p4, p5].map fun p => D.str (S p))) (.int 0) = some (.str (S p0)) := rfl
  have i1 : ixF (.lst ([p0, p1, p2, p3, p4, p5].map fun p => D.str (S p))) (.int 1) = some (.str (S p1)) := rfl
  have i2 : ixF (.lst ([p0, p1, p2, p3, p4, p5].map fun p => D.str (S p))) (.int 2) = some (.str (S p2)) := rfl
  have i3 : ixF (.lst ([p0, p1, p2, p3, p4, p5].map fun p => D.str (S p))) (.int 3) = some (.str (S p3)) := rfl
  have i4 : ixF (.lst ([p0, p1, p2, p3, p4, p5].map fun p => D.str (S p))) (.int 4) = some (.str (S p4)) := rfl
  have i5 : ixF (.lst ([p0, p1, p2, p3, p4, p5].map fun p => D.str (S p))) (.int 5) = some (.str (S p5)) := rfl
  have sl5 : slF (.lst ([p0, p1, p2, p3, p4, p5].map fun p => D.str (S p))) none (some 5) = some (.lst [.str (S p0), .str (S p1), .str (S p2), .str (S p3), .str (S p4)]) := rfl
  have jn : joinF (.str (" " : Str)) [.lst [.str (S p0), .str (S p1), .str (S p2), .str (S p3), .str (S p4)]] = some (.str (S (body5 p0 p1 p2 p3 p4))) := by
    have e : [S p0, S p1, S p2, S p3, S p4] = [p0, p1, p2, p3, p4].map S := rfl
    show (if _ then some (D.str (Txt.join (" " : Str) [S p0, S p1, S p2, S p3, S p4])) else none) = _
    rw [if_pos (by
      simp only [List.map_cons, List.map_nil, S_len, List.sum_cons, List.sum_nil, List.length_cons, List.length_nil]
      have : (" " : Str).length = 1 := rfl
      rw [this]
      unfold lim
      omega), e]
    show some (D.str (Txt.join (S [32]) _)) = _
    rw [join_S]
    rfl
  have c1 := x_l_check (body5 p0 p1 p2 p3 p4) lb
  have t3 : tupF [.str ("beats" : Str), .str ("draws" : Str), .str ("yields" : Str)] = some (.tup [.str ("beats" : Str), .str ("draws" : Str), .str ("yields" : Str)]) := rfl
  have t2 : ∀ x y : D, tupF [x, y] = some (.tup [x, y]) := fun _ _ => rfl
  have t6 : ∀ x0 x1 x2 x3 x4 x5 : D, tupF [x0, x1, x2, x3, x4, x5] = some (.tup [x0, x1, x2, x3, x4, x5]) := fun _ _ _ _ _ _ => rfl
  have nv := notin_verbs' p2
  have hv : isVerb p2 = true := by
    have : t = 0 ∨ t = 1 ∨ t = 2 := by omega
    rcases this with e | e | e <;> subst e <;> subst ev <;> decide
  have e5 : neF (.str (S p5)) (.str (S (chk (body5 p0 p1 p2 p3 p4)))) = some (.bl (!decide (p5 = chk (body5 p0 p1 p2 p3 p4)))) := by
    show some (D.bl (!decide (S p5 = S (chk (body5 p0 p1 p2 p3 p4))))) = _
    rw [S_eq]
  have e13 : eqF (.str (S p1)) (.str (S p3)) = some (.bl (decide (p1 = p3))) := by
    show some (D.bl (decide (S p1 = S p3))) = _
    rw [S_eq]
  have dv : dictF [("beats", 2), ("draws", 1), ("yields", 0)] (.str (S p2)) = some (.int t) := by rw [ev]; exact dict_verb ht
  have isd : isStrD (.str (" " : Str)) = true := rfl
  generalize ([p0, p1, p2, p3, p4, p5].map fun p => D.str (S p)) = L at s1 l6 i0 i1 i2 i3 i4 i5 sl5
  generalize chk (body5 p0 p1 p2 p3 p4) = ch at c1 e5
  have t1 : ∀ x : SV, L1T [x, .d (.lst L), .un, .un, .un] = .ok (!decide (p5 = ch)) [x, .d (.lst L), .un, .un, .un] := fun x => by
    unfold L1T
    simp only [seqS, ifS, boolE, binE, unE, appE, ixOwnE, popOwnE, lenOwnE, cE, varE, retS, retNS, asgS, asgOwnS, parS, parOwnS, appendS, dropS, nopS, forS, forGo, seqI, range1I, range2I, enumI, rangeL, callE, callIO, callL, consA, nilA, nameT, tupT, consT, nilT, ownIxT, andE, orE, notE, andT, orT, notT, chainE, ifE, slE, someO, noO, lstE, lstF, appL, methE, isStrD, raiseS, rsIO, rsOf, own0, ofOpt, R.bind_ok, R.bind_er, R.bindS_ok, R.bindS_er, Option.bind_some, Option.map_some, List.map_cons, List.map_nil, List.cons_append, List.nil_append, List.replicate_succ, List.replicate_zero, List.getElem?_cons_zero, List.getElem?_cons_succ, List.length_cons, List.length_nil, List.set_cons_zero, List.set_cons_succ, isOwn, if_true, reduceIte, Bool.false_eq_true, Nat.reduceAdd, atI_0, atI_1, ixN_0, ixN_1, gt_int, lt_int, le_int, ge_int, add_int, sub_int, eq_int, ne_int, eq_str, ne_str, decide_true, decide_false, Nat.zero_add, l6, i2, i5, t3, nv, hv, sl5, jn, c1, e5, Bool.not_true, Bool.not_false]
  have n0 : ∀ x y z : SV, L2T [x, y, .d (.str (S p0)), z, .un] = .ok (!num2 p0) [x, y, .d (.str (S p0)), z, .un] := fun x y z => L2T_ok x y z p0 k0 a0
  have n4 : ∀ x y z : SV, L2T [x, y, .d (.str (S p4)), z, .un] = .ok (!num2 p4) [x, y, .d (.str (S p4)), z, .un] := fun x y z => L2T_ok x y z p4 k4 a4
  have m1 : ∀ x y z : SV, L3T [x, y, z, .d (.str (S p1)), .un] = .ok (!isName p1) [x, y, z, .d (.str (S p1)), .un] := fun x y z => L3T_ok x y z p1 (by omega) a1
  have m3 : ∀ x y z : SV, L3T [x, y, z, .d (.str (S p3)), .un] = .ok (!isName p3) [x, y, z, .d (.str (S p3)), .un] := fun x y z => L3T_ok x y z p3 (by omega) a3
  have iv : ∀ p : List Nat, num2 p = true → intF [.str (S p)] = some (.int (val p : Nat)) := fun p h => by
    unfold num2 at h
    simp only [Bool.and_eq_true, Bool.not_eq_true', decide_eq_true_eq] at h
    exact intF_dig (fun z => by rw [z] at h; cases h.1) h.2.1 h.2.2.1
  unfold f_l_slip_of runP
  rw [l_slip_of_is]
  cases h5 : decide (p5 = ch)
  · simp only [seqS, ifS, boolE, binE, unE, appE, ixOwnE, popOwnE, lenOwnE, cE, varE, retS, retNS, asgS, asgOwnS, parS, parOwnS, appendS, dropS, nopS, forS, forGo, seqI, range1I, range2I, enumI, rangeL, callE, callIO, callL, consA, nilA, nameT, tupT, consT, nilT, ownIxT, andE, orE, notE, andT, orT, notT, chainE, ifE, slE, someO, noO, lstE, lstF, appL, methE, isStrD, raiseS, rsIO, rsOf, own0, ofOpt, R.bind_ok, R.bind_er, R.bindS_ok, R.bindS_er, Option.bind_some, Option.map_some, List.map_cons, List.map_nil, List.cons_append, List.nil_append, List.replicate_succ, List.replicate_zero, List.getElem?_cons_zero, List.getElem?_cons_succ, List.length_cons, List.length_nil, List.set_cons_zero, List.set_cons_succ, isOwn, if_true, reduceIte, Bool.false_eq_true, Nat.reduceAdd, atI_0, atI_1, ixN_0, ixN_1, gt_int, lt_int, le_int, ge_int, add_int, sub_int, eq_int, ne_int, eq_str, ne_str, decide_true, decide_false, Nat.zero_add, s1, t1, h5, Bool.not_false, Bool.false_and]
  · cases h0 : num2 p0
    · simp only [seqS, ifS, boolE, binE, unE, appE, ixOwnE, popOwnE, lenOwnE, cE, varE, retS, retNS, asgS, asgOwnS, parS, parOwnS, appendS, dropS, nopS, forS, forGo, seqI, range1I, range2I, enumI, rangeL, callE, callIO, callL, consA, nilA, nameT, tupT, consT, nilT, ownIxT, andE, orE, notE, andT, orT, notT, chainE, ifE, slE, someO, noO, lstE, lstF, appL, methE, isStrD, raiseS, rsIO, rsOf, own0, ofOpt, R.bind_ok, R.bind_er, R.bindS_ok, R.bindS_er, Option.bind_some, Option.map_some, List.map_cons, List.map_nil, List.cons_append, List.nil_append, List.replicate_succ, List.replicate_zero, List.getElem?_cons_zero, List.getElem?_cons_succ, List.length_cons, List.length_nil, List.set_cons_zero, List.set_cons_succ, isOwn, if_true, reduceIte, Bool.false_eq_true, Nat.reduceAdd, atI_0, atI_1, ixN_0, ixN_1, gt_int, lt_int, le_int, ge_int, add_int, sub_int, eq_int, ne_int, eq_str, ne_str, decide_true, decide_false, Nat.zero_add, s1, t1, t2, i0, i4, n0, h5, h0, Bool.not_false, Bool.not_true, Bool.true_and, Bool.false_and]
    · have v0 := iv p0 h0
      cases h4 : num2 p4
      · simp only [seqS, ifS, boolE, binE, unE, appE, ixOwnE, popOwnE, lenOwnE, cE, varE, retS, retNS, asgS, asgOwnS, parS, parOwnS, appendS, dropS, nopS, forS, forGo, seqI, range1I, range2I, enumI, rangeL, callE, callIO, callL, consA, nilA, nameT, tupT, consT, nilT, ownIxT, andE, orE, notE, andT, orT, notT, chainE, ifE, slE, someO, noO, lstE, lstF, appL, methE, isStrD, raiseS, rsIO, rsOf, own0, ofOpt, R.bind_ok, R.bind_er, R.bindS_ok, R.bindS_er, Option.bind_some, Option.map_some, List.map_cons, List.map_nil, List.cons_append, List.nil_append, List.replicate_succ, List.replicate_zero, List.getElem?_cons_zero, List.getElem?_cons_succ, List.length_cons, List.length_nil, List.set_cons_zero, List.set_cons_succ, isOwn, if_true, reduceIte, Bool.false_eq_true, Nat.reduceAdd, atI_0, atI_1, ixN_0, ixN_1, gt_int, lt_int, le_int, ge_int, add_int, sub_int, eq_int, ne_int, eq_str, ne_str, decide_true, decide_false, Nat.zero_add, s1, t1, t2, i0, i4, n0, n4, h5, h0, h4, Bool.not_false, Bool.not_true, Bool.true_and, Bool.false_and]
      · have v4 := iv p4 h4
        cases h1 : isName p1
        · simp only [seqS, ifS, boolE, binE, unE, appE, ixOwnE, popOwnE, lenOwnE, cE, varE, retS, retNS, asgS, asgOwnS, parS, parOwnS, appendS, dropS, nopS, forS, forGo, seqI, range1I, range2I, enumI, rangeL, callE, callIO, callL, consA, nilA, nameT, tupT, consT, nilT, ownIxT, andE, orE, notE, andT, orT, notT, chainE, ifE, slE, someO, noO, lstE, lstF, appL, methE, isStrD, raiseS, rsIO, rsOf, own0, ofOpt, R.bind_ok, R.bind_er, R.bindS_ok, R.bindS_er, Option.bind_some, Option.map_some, List.map_cons, List.map_nil, List.cons_append, List.nil_append, List.replicate_succ, List.replicate_zero, List.getElem?_cons_zero, List.getElem?_cons_succ, List.length_cons, List.length_nil, List.set_cons_zero, List.set_cons_succ, isOwn, if_true, reduceIte, Bool.false_eq_true, Nat.reduceAdd, atI_0, atI_1, ixN_0, ixN_1, gt_int, lt_int, le_int, ge_int, add_int, sub_int, eq_int, ne_int, eq_str, ne_str, decide_true, decide_false, Nat.zero_add, s1, t1, t2, i0, i1, i3, i4, n0, n4, m1, h5, h0, h4, h1, Bool.not_false, Bool.not_true, Bool.true_and, Bool.false_and]
        · cases h3 : isName p3
          · simp only [seqS, ifS, boolE, binE, unE, appE, ixOwnE, popOwnE, lenOwnE, cE, varE, retS, retNS, asgS, asgOwnS, parS, parOwnS, appendS, dropS, nopS, forS, forGo, seqI, range1I, range2I, enumI, rangeL, callE, callIO, callL, consA, nilA, nameT, tupT, consT, nilT, ownIxT, andE, orE, notE, andT, orT, notT, chainE, ifE, slE, someO, noO, lstE, lstF, appL, methE, isStrD, raiseS, rsIO, rsOf, own0, ofOpt, R.bind_ok, R.bind_er, R.bindS_ok, R.bindS_er, Option.bind_some, Option.map_some, List.map_cons, List.map_nil, List.cons_append, List.nil_append, List.replicate_succ, List.replicate_zero, List.getElem?_cons_zero, List.getElem?_cons_succ, List.length_cons, List.length_nil, List.set_cons_zero, List.set_cons_succ, isOwn, if_true, reduceIte, Bool.false_eq_true, Nat.reduceAdd, atI_0, atI_1, ixN_0, ixN_1, gt_int, lt_int, le_int, ge_int, add_int, sub_int, eq_int, ne_int, eq_str, ne_str, decide_true, decide_false, Nat.zero_add, s1, t1, t2, i0, i1, i3, i4, n0, n4, m1, m3, h5, h0, h4, h1, h3, Bool.not_false, Bool.not_true, Bool.true_and, Bool.false_and]
          · cases h13 : decide (p1 = p3)
            · unfold L9E
              simp only [seqS, ifS, boolE, binE, unE, appE, ixOwnE, popOwnE, lenOwnE, cE, varE, retS, retNS, asgS, asgOwnS, parS, parOwnS, appendS, dropS, nopS, forS, forGo, seqI, range1I, range2I, enumI, rangeL, callE, callIO, callL, consA, nilA, nameT, tupT, consT, nilT, ownIxT, andE, orE, notE, andT, orT, notT, chainE, ifE, slE, someO, noO, lstE, lstF, appL, methE, isStrD, raiseS, rsIO, rsOf, own0, ofOpt, R.bind_ok, R.bind_er, R.bindS_ok, R.bindS_er, Option.bind_some, Option.map_some, List.map_cons, List.map_nil, List.cons_append, List.nil_append, List.replicate_succ, List.replicate_zero, List.getElem?_cons_zero, List.getElem?_cons_succ, List.length_cons, List.length_nil, List.set_cons_zero, List.set_cons_succ, isOwn, if_true, reduceIte, Bool.false_eq_true, Nat.reduceAdd, atI_0, atI_1, ixN_0, ixN_1, gt_int, lt_int, le_int, ge_int, add_int, sub_int, eq_int, ne_int, eq_str, ne_str, decide_true, decide_false, Nat.zero_add, s1, t1, t2, t6, i0, i1, i2, i3, i4, n0, n4, m1, m3, h5, h0, h4, h1, h3, e13, h13, v0, v4, dv, Bool.not_false, Bool.not_true, Bool.true_and, Bool.false_and]
            · simp only [seqS, ifS, boolE, binE, unE, appE, ixOwnE, popOwnE, lenOwnE, cE, varE, retS, retNS, asgS, asgOwnS, parS, parOwnS, appendS, dropS, nopS, forS, forGo, seqI, range1I, range2I, enumI, rangeL, callE, callIO, callL, consA, nilA, nameT, tupT, consT, nilT, ownIxT, andE, orE, notE, andT, orT, notT, chainE, ifE, slE, someO, noO, lstE, lstF, appL, methE, isStrD, raiseS, rsIO, rsOf, own0, ofOpt, R.bind_ok, R.bind_er, R.bindS_ok, R.bindS_er, Option.bind_some, Option.map_some, List.map_cons, List.map_nil, List.cons_append, List.nil_append, List.replicate_succ, List.replicate_zero, List.getElem?_cons_zero, List.getElem?_cons_succ, List.length_cons, List.length_nil, List.set_cons_zero, List.set_cons_succ, isOwn, if_true, reduceIte, Bool.false_eq_true, Nat.reduceAdd, atI_0, atI_1, ixN_0, ixN_1, gt_int, lt_int, le_int, ge_int, add_int, sub_int, eq_int, ne_int, eq_str, ne_str, decide_true, decide_false, Nat.zero_add, s1, t1, t2, i0, i1, i2, i3, i4, n0, n4, m1, m3, h5, h0, h4, h1, h3, e13, h13, Bool.not_false, Bool.not_true, Bool.true_and, Bool.false_and]
end
end K26
end L2
set_option linter.all false
set_option maxRecDepth 100000
set_option maxHeartbeats 1000000
namespace L2
namespace K26
open PySem PySem.Spec PL TL
open _root_.SX (S S_len S_cat S_tl S_inj split_S join_S num_S int_S)
/-! both readings of any text say the same -/
theorem numD_numL {n : Nat} (h : n ≤ 99) : numD (numL n) = .int n := by
  have : ∀ n : Nat, n < 100 → numOk (numL n) = true ∧ numV (numL n) = (n : Int) := by decide +kernel
  obtain ⟨h1, h2⟩ := this n (by omega)
  unfold numD
  rw [h1, h2]
  rfl
theorem num2_numL {n : Nat} (h : n ≤ 99) : num2 (numL n) = true := by
  have : ∀ n : Nat, n < 100 → num2 (numL n) = true := by decide +kernel
  exact this n (by omega)
theorem within_num {d : D} {k : Nat} (h : within d 0 k = true) : ∃ n : Nat, d = .int n ∧ n ≤ k := by
  cases d with
  | int i =>
    obtain ⟨h1, h2⟩ := Bool.and_eq_true_iff.mp (show (decide (0 ≤ i) && decide (i ≤ (k : Int))) = true from h)
    have h1 := of_decide_eq_true h1
    have h2 := of_decide_eq_true h2
    exact ⟨i.toNat, by rw [Int.toNat_of_nonneg h1], by omega⟩
  | _ => cases h
theorem isName_len {p : List Nat} (h : isName p = true) : p.length ≤ 12 := by
  unfold isName at h
  simp only [Bool.and_eq_true, decide_eq_true_eq] at h
  exact h.1.2
theorem isName_free {p : List Nat} (h : isName p = true) : 32 ∉ p := by
  unfold isName at h
  simp only [Bool.and_eq_true, decide_eq_true_eq] at h
  intro hm
  have := List.all_eq_true.mp h.2 32 hm
  cases this
theorem okSix_is (d e : D) (p1 p3 : List Nat) (t : Nat) (ht : t ≤ 2) : okSix c_SLIP d (.str (S p1)) (.str (S p3)) (.int t) e = (within d 0 99 && (within e 0 99 && (isName p1 && (isName p3 && !decide (p1 = p3))))) := by
  have w : within (.int t) 0 2 = true := by
    show (decide ((0 : Int) ≤ t) && decide ((t : Int) ≤ 2)) = true
    rw [decide_eq_true (by omega), decide_eq_true (by omega)]
    rfl
  show (decide (("slip" : Str) = ("slip" : Str)) && (within d 0 99 && (within e 0 99 && (within (.int t) 0 2 && (isName p1 && (isName p3 && !decide (S p1 = S p3))))))) = _
  rw [w, S_eq p1 p3, decide_eq_true rfl, Bool.true_and, Bool.true_and]
theorem pad3_free (n : Nat) : 32 ∉ pad3 n := by
  unfold pad3
  intro h
  rcases List.mem_append.mp h with h | h
  · have := (List.mem_replicate.mp h).2
    cases this
  · exact numL_free (by omega) h
theorem chk_free (a : List Nat) : 32 ∉ chk a := by
  unfold chk
  intro h
  rcases List.mem_append.mp h with h | h
  · exact pad3_free _ h
  · exact pad3_free _ h
theorem verb_free {t : Nat} (ht : t ≤ 2) : 32 ∉ verb t := by
  have : t = 0 ∨ t = 1 ∨ t = 2 := by omega
  rcases this with e | e | e <;> subst e <;> decide
theorem text_join (n : Nat) (one other : List Nat) (t m : Nat) : textL n one other t m = joinL [32] [numL n, one, verb t, other, numL m, chk (bodyL n one other t m)] := by
  unfold textL
  show _ = numL n ++ ([32] ++ (one ++ ([32] ++ (verb t ++ ([32] ++ (other ++ ([32] ++ (numL m ++ ([32] ++ chk (bodyL n one other t m))))))))))
  unfold bodyL
  generalize chk _ = c
  simp [joinL]
theorem parts_text {n t m : Nat} {one other : List Nat} (ht : t ≤ 2) (h1 : 32 ∉ one) (h3 : 32 ∉ other) : parts (textL n one other t m) = [numL n, one, verb t, other, numL m, chk (bodyL n one other t m)] := by
  rw [text_join]
  refine TL.spl_join (by simp) fun p hp => ?_
  simp only [List.mem_cons, List.not_mem_nil, or_false] at hp
  rcases hp with rfl | rfl | rfl | rfl | rfl | rfl
  · exact numL_free (by omega)
  · exact h1
  · exact verb_free ht
  · exact h3
  · exact numL_free (by omega)
  · exact chk_free _
/-- what a slip is, in full -/
structure Slip (n : Nat) (one other : List Nat) (t m : Nat) : Prop where
  n : n ≤ 99
  m : m ≤ 99
  t : t ≤ 2
  nm : isName one = true
  nm' : isName other = true
  ne : one ≠ other
theorem Slip.good {n t m : Nat} {one other : List Nat} (h : Slip n one other t m) : Good n one other t m := ⟨h.n, h.m, h.t, isName_len h.nm, isName_len h.nm'⟩
theorem Slip.is {n t m : Nat} {one other : List Nat} (h : Slip n one other t m) : f_is_slip_value [slipD n one other t m] = .ok (.bl true) := by
  have z := x_is_slip6 c_SLIP (.int n) (.str (S one)) (.str (S other)) (.int t) (.int m) (fun x e => by cases e; rw [S_len]; have := isName_len h.nm; omega) (fun x e => by cases e; rw [S_len]; have := isName_len h.nm'; omega)
  rw [okSix_is _ _ _ _ _ h.t] at z
  have w : ∀ k : Nat, k ≤ 99 → within (.int k) 0 99 = true := fun k hk => by
    show (decide ((0 : Int) ≤ k) && decide ((k : Int) ≤ 99)) = true
    rw [decide_eq_true (by omega), decide_eq_true (by omega)]
    rfl
  rw [w n h.n, w m h.m, h.nm, h.nm', decide_eq_false h.ne] at z
  exact z
/-- the answer to any text -/
def Ans (a : List Nat) (d : D) : Prop := d = .non ∨ ∃ n one other t m, Slip n one other t m ∧ d = slipD n one other t m ∧ a = textL n one other t m
theorem same_text (a : List Nat) (hl : a.length ≤ 600) (ha : asc a = true) : ∃ d, f_slip_in [.str (S a)] = .ok d ∧ f_l_slip_of [.str (S a)] = .ok d ∧ Ans a d := by
  by_cases h6 : (parts a).length = 6
  · obtain ⟨p0, p1, p2, p3, p4, p5, e⟩ := six_of h6
    cases hv : isVerb p2 with
    | false => exact ⟨.non, slip_in_noverb a p0 p1 p2 p3 p4 p5 hl e hv, l_slip_of_noverb hl e hv, .inl rfl⟩
    | true =>
      obtain ⟨t, ht, ev⟩ := verb_of hv
      have len : ∀ p ∈ parts a, p.length ≤ 600 := fun p hp => Nat.le_trans (part_len hp) hl
      rw [e] at len
      have k1 := len p1 (by simp)
      have k3 := len p3 (by simp)
      have law := x_l_slip_of6 hl ha e ht ev
      have is6 := x_is_slip6 c_SLIP (numD p0) (.str (S p1)) (.str (S p3)) (.int t) (numD p4) (fun x e => by cases e; rw [S_len]; omega) (fun x e => by cases e; rw [S_len]; omega)
      rw [okSix_is _ _ _ _ _ ht] at is6
      by_cases hC : (decide (p5 = chk (body5 p0 p1 p2 p3 p4)) && (num2 p0 && (num2 p4 && (isName p1 && (isName p3 && !decide (p1 = p3)))))) = true
      · rw [if_pos hC] at law
        simp only [Bool.and_eq_true, Bool.not_eq_true', decide_eq_true_eq, decide_eq_false_iff_not] at hC
        obtain ⟨c5, c0, c4, c1, c3, c13⟩ := hC
        unfold num2 at c0 c4
        simp only [Bool.and_eq_true, Bool.not_eq_true', decide_eq_true_eq] at c0 c4
        have v0 := val2_lt c0.2.1 c0.2.2.1
        have v4 := val2_lt c4.2.1 c4.2.2.1
        have e0 := c0.2.2.2
        have e4 := c4.2.2.2
        have sl : Slip (val p0) p1 p3 t (val p4) := ⟨by omega, by omega, ht, c1, c3, c13⟩
        have d0 : numD p0 = .int (val p0 : Nat) := by
          conv => lhs; rw [e0]
          exact numD_numL (by omega)
        have d4 : numD p4 = .int (val p4 : Nat) := by
          conv => lhs; rw [e4]
          exact numD_numL (by omega)
        have ea : a = textL (val p0) p1 p3 t (val p4) := by
          rw [joinL_6 e]
          unfold textL
          have : body5 p0 p1 p2 p3 p4 = bodyL (val p0) p1 p3 t (val p4) := by
            unfold body5 bodyL
            rw [← e0, ← e4, ev]
          rw [c5, this]
        have tx : f_text_of [.tup [c_SLIP, numD p0, .str (S p1), .str (S p3), .int t, numD p4]] = .ok (.str (S a)) := by
          rw [d0, d4, ea]
          exact x_text_of sl.good
        have is7 : f_is_slip_value [.tup [c_SLIP, numD p0, .str (S p1), .str (S p3), .int t, numD p4]] = .ok (.bl true) := by
          rw [d0, d4]
          exact sl.is
        have prog := slip_in_six a p0 p1 p2 p3 p4 p5 hl e ht ev is7 fun _ => tx
        rw [if_pos (by rw [decide_eq_true rfl]; rfl), d0, d4] at prog
        exact ⟨_, prog, law, .inr ⟨_, _, _, _, _, sl, rfl, ea⟩⟩
      · rw [if_neg hC] at law
        refine ⟨.non, ?_, law, .inl rfl⟩
        cases hb : (within (numD p0) 0 99 && (within (numD p4) 0 99 && (isName p1 && (isName p3 && !decide (p1 = p3))))) with
        | false =>
          rw [hb] at is6
          exact slip_in_six a p0 p1 p2 p3 p4 p5 hl e ht ev (z := []) is6 fun z => by cases z
        | true =>
          rw [hb] at is6
          simp only [Bool.and_eq_true, Bool.not_eq_true', decide_eq_false_iff_not] at hb
          obtain ⟨w0, w4, c1, c3, c13⟩ := hb
          obtain ⟨n, d0, hn⟩ := within_num (k := 99) w0
          obtain ⟨m, d4, hm⟩ := within_num (k := 99) w4
          have sl : Slip n p1 p3 t m := ⟨hn, hm, ht, c1, c3, c13⟩
          have tx : f_text_of [.tup [c_SLIP, numD p0, .str (S p1), .str (S p3), .int t, numD p4]] = .ok (.str (S (textL n p1 p3 t m))) := by
            rw [d0, d4]
            exact x_text_of sl.good
          have prog := slip_in_six a p0 p1 p2 p3 p4 p5 hl e ht ev is6 fun _ => tx
          rw [prog, if_neg]
          intro hz
          apply hC
          have hz : textL n p1 p3 t m = a := by simpa using hz
          have pt := parts_text (n := n) (m := m) ht (isName_free c1) (isName_free c3)
          rw [hz, e] at pt
          injection pt with q0 pt
          injection pt with _ pt
          injection pt with _ pt
          injection pt with _ pt
          injection pt with q4 pt
          injection pt with q5 _
          have b5 : body5 p0 p1 p2 p3 p4 = bodyL n p1 p3 t m := by
            unfold body5 bodyL
            rw [q0, q4, ev]
          rw [b5, q5, decide_eq_true rfl, q0, q4, num2_numL hn, num2_numL hm, c1, c3, decide_eq_false c13]
          rfl
  · exact ⟨.non, slip_in_few a hl h6, l_slip_of_few a hl h6, .inl rfl⟩
end K26
end L2
set_option linter.all false
set_option maxRecDepth 100000
set_option maxHeartbeats 1000000
namespace L2
namespace K26
open PySem PySem.Spec PL TL
open _root_.SX (S S_len S_cat S_tl S_inj split_S join_S num_S int_S)
/-! one or two signs otherwise -/
def dif : List Nat → List Nat → Nat
  | x :: l, y :: a => (if x = y then 0 else 1) + dif l a
  | _, _ => 0
theorem dif_app : ∀ {l a l' a' : List Nat}, l.length = a.length → dif (l ++ l') (a ++ a') = dif l a + dif l' a'
  | [], [], _, _, _ => by simp [dif]
  | [], _ :: _, _, _, h => by simp at h
  | _ :: _, [], _, _, h => by simp at h
  | x :: l, y :: a, l', a', h => by
    have h' : l.length = a.length := by simpa using h
    show (if x = y then 0 else 1) + dif (l ++ l') (a ++ a') = (if x = y then 0 else 1) + dif l a + dif l' a'
    rw [dif_app h']
    omega
theorem dif_0 : ∀ {l a : List Nat}, l.length = a.length → dif l a = 0 → l = a
  | [], [], _, _ => rfl
  | [], _ :: _, h, _ => by simp at h
  | _ :: _, [], h, _ => by simp at h
  | x :: l, y :: a, h, hd => by
    have h' : l.length = a.length := by simpa using h
    have hd' : (if x = y then 0 else 1) + dif l a = 0 := hd
    by_cases e : x = y
    · rw [if_pos e] at hd'
      rw [e, dif_0 h' (by omega)]
    · rw [if_neg e] at hd'
      omega
theorem dif_ne {l a : List Nat} (h : l.length = a.length) (hn : l ≠ a) : 1 ≤ dif l a := by
  by_cases e : dif l a = 0
  · exact absurd (dif_0 h e) hn
  · omega
theorem dif_self : ∀ a : List Nat, dif a a = 0
  | [] => rfl
  | x :: a => by
    show (if x = x then 0 else 1) + dif a a = 0
    rw [if_pos rfl, dif_self a]
theorem cnt_dif : ∀ (l a : List Nat), l.length = a.length → ((List.range a.length).filter fun i => decide (¬ l[i]? = a[i]?)).length = dif l a
  | [], [], _ => rfl
  | [], _ :: _, h => by simp at h
  | _ :: _, [], h => by simp at h
  | x :: l, y :: a, h => by
    have h' : l.length = a.length := by simpa using h
    rw [List.length_cons, List.range_succ_eq_map, List.filter_cons, List.filter_map, List.getElem?_cons_zero, List.getElem?_cons_zero]
    have e : ((List.range a.length).filter ((fun i => decide (¬ (x :: l)[i]? = (y :: a)[i]?)) ∘ Nat.succ)) = (List.range a.length).filter fun i => decide (¬ l[i]? = a[i]?) := by
      congr 1
    rw [e]
    show _ = (if x = y then 0 else 1) + dif l a
    by_cases q : x = y
    · rw [if_pos q, if_neg (by simp [q]), List.length_map, cnt_dif l a h', Nat.zero_add]
    · rw [if_neg q, if_pos (by simp [q]), List.length_cons, List.length_map, cnt_dif l a h', Nat.add_comm]
def Bd (a : List Nat) : Prop := ∀ c ∈ a, c < 128
theorem Bd.of {a : List Nat} (h : asc a = true) : Bd a := fun c hc => of_decide_eq_true (List.all_eq_true.mp h c hc)
theorem codes_cons (c : Nat) (a : List Nat) : codes (c :: a) = ((c : Int) - 32) :: codes a := rfl
theorem dif_1 : ∀ {l a : List Nat} (k : Nat), l.length = a.length → Bd l → Bd a → dif l a = 1 → ∃ (i : Nat) (d : Int), i < a.length ∧ -128 < d ∧ d < 128 ∧ d ≠ 0 ∧ (codes l).sum = (codes a).sum + d ∧ wsum k (codes l) = wsum k (codes a) + d * ((k + i : Nat) + 1)
  | [], [], _, _, _, _, h => by cases h
  | [], _ :: _, _, h, _, _, _ => by simp at h
  | _ :: _, [], _, h, _, _, _ => by simp at h
  | x :: l, y :: a, k, h, b1, b2, hd => by
    have h' : l.length = a.length := by simpa using h
    have hd' : (if x = y then 0 else 1) + dif l a = 1 := hd
    have bx := b1 x List.mem_cons_self
    have by' := b2 y List.mem_cons_self
    have b1' : Bd l := fun c hc => b1 c (List.mem_cons_of_mem _ hc)
    have b2' : Bd a := fun c hc => b2 c (List.mem_cons_of_mem _ hc)
    rw [codes_cons, codes_cons, List.sum_cons, List.sum_cons]
    show ∃ i d, _ ∧ _ ∧ _ ∧ _ ∧ _ ∧ ((x : Int) - 32) * ((k : Int) + 1) + wsum (k + 1) (codes l) = ((y : Int) - 32) * ((k : Int) + 1) + wsum (k + 1) (codes a) + d * ((k + i : Nat) + 1)
    by_cases e : x = y
    · rw [if_pos e] at hd'
      obtain ⟨i, d, h1, h2, h3, h4, h5, h6⟩ := dif_1 (k + 1) h' b1' b2' (by omega)
      refine ⟨i + 1, d, by rw [List.length_cons]; omega, h2, h3, h4, by rw [e]; omega, ?_⟩
      rw [h6, e, show k + 1 + i = k + (i + 1) by omega]
      omega
    · rw [if_neg e] at hd'
      have hh := dif_0 h' (by omega)
      subst hh
      refine ⟨0, (x : Int) - y, by rw [List.length_cons]; omega, by omega, by omega, by omega, by omega, ?_⟩
      rw [Nat.add_zero]
      generalize (k : Int) + 1 = z
      rw [Int.sub_mul, Int.sub_mul, Int.sub_mul]
      omega
theorem dif_2 : ∀ {l a : List Nat} (k : Nat), l.length = a.length → Bd l → Bd a → dif l a = 2 → ∃ (i j : Nat) (d e : Int), i < j ∧ j < a.length ∧ -128 < d ∧ d < 128 ∧ d ≠ 0 ∧ -128 < e ∧ e < 128 ∧ (codes l).sum = (codes a).sum + d + e ∧ wsum k (codes l) = wsum k (codes a) + d * ((k + i : Nat) + 1) + e * ((k + j : Nat) + 1)
  | [], [], _, _, _, _, h => by cases h
  | [], _ :: _, _, h, _, _, _ => by simp at h
  | _ :: _, [], _, h, _, _, _ => by simp at h
  | x :: l, y :: a, k, h, b1, b2, hd => by
    have h' : l.length = a.length := by simpa using h
    have hd' : (if x = y then 0 else 1) + dif l a = 2 := hd
    have bx := b1 x List.mem_cons_self
    have by' := b2 y List.mem_cons_self
    have b1' : Bd l := fun c hc => b1 c (List.mem_cons_of_mem _ hc)
    have b2' : Bd a := fun c hc => b2 c (List.mem_cons_of_mem _ hc)
    rw [codes_cons, codes_cons, List.sum_cons, List.sum_cons]
    show ∃ i j d e, _ ∧ _ ∧ _ ∧ _ ∧ _ ∧ _ ∧ _ ∧ _ ∧ ((x : Int) - 32) * ((k : Int) + 1) + wsum (k + 1) (codes l) = ((y : Int) - 32) * ((k : Int) + 1) + wsum (k + 1) (codes a) + d * ((k + i : Nat) + 1) + e * ((k + j : Nat) + 1)
    by_cases q : x = y
    · rw [if_pos q] at hd'
      obtain ⟨i, j, d, e, h1, h2, h3, h4, h5, h6, h7, h8, h9⟩ := dif_2 (k + 1) h' b1' b2' (by omega)
      refine ⟨i + 1, j + 1, d, e, by omega, by rw [List.length_cons]; omega, h3, h4, h5, h6, h7, by rw [q]; omega, ?_⟩
      rw [h9, q, show k + 1 + i = k + (i + 1) by omega, show k + 1 + j = k + (j + 1) by omega]
      omega
    · rw [if_neg q] at hd'
      obtain ⟨i, d, h1, h2, h3, h4, h5, h6⟩ := dif_1 (k + 1) h' b1' b2' (by omega)
      refine ⟨0, i + 1, (x : Int) - y, d, by omega, by rw [List.length_cons]; omega, by omega, by omega, by omega, h2, h3, by omega, ?_⟩
      rw [h6, Nat.add_zero, show k + 1 + i = k + (i + 1) by omega]
      generalize d * _ = w
      generalize (k : Int) + 1 = z
      rw [Int.sub_mul, Int.sub_mul, Int.sub_mul]
      omega
theorem prime997 {d k : Int} (h : (d * k) % 997 = 0) (hd : -997 < d ∧ d < 997 ∧ d ≠ 0) (hk : -997 < k ∧ k < 997 ∧ k ≠ 0) : False := by
  have h1 : (997 : Int) ∣ d * k := Int.dvd_of_emod_eq_zero h
  have h2 : 997 ∣ d.natAbs * k.natAbs := by
    have := Int.natAbs_dvd_natAbs.mpr h1
    rwa [Int.natAbs_mul] at this
  have cp : ∀ n : Nat, n < 997 → n ≠ 0 → Nat.gcd 997 n = 1 := by decide +kernel
  have h3 : 997 ∣ k.natAbs := Nat.Coprime.dvd_of_dvd_mul_left (cp d.natAbs (by omega) (by omega)) h2
  have := Nat.le_of_dvd (by omega) h3
  omega
theorem pad3_inj {x y : Nat} (hx : x < 1000) (hy : y < 1000) (h : pad3 x = pad3 y) : x = y := by
  have v : ∀ n : Nat, n < 1000 → NumText.digitsVal (pad3 n) = n := by decide +kernel
  rw [← v x hx, ← v y hy, h]
theorem chk_dif (b c : List Nat) : dif (chk b) (chk c) = dif (pad3 (m997 (s1 b))) (pad3 (m997 (s1 c))) + dif (pad3 (m997 (s2 b))) (pad3 (m997 (s2 c))) := by
  unfold chk
  have h1 := m997_lt (s1 b)
  have h2 := m997_lt (s1 c)
  exact dif_app (by rw [pad3_len (by omega), pad3_len (by omega)])
theorem pad_dif {x y : Int} (h : dif (pad3 (m997 x)) (pad3 (m997 y)) = 0) : x % 997 = y % 997 := by
  have h1 := m997_lt x
  have h2 := m997_lt y
  have := pad3_inj (by omega) (by omega) (dif_0 (by rw [pad3_len (by omega), pad3_len (by omega)]) h)
  rw [← m997_int, ← m997_int, this]
/-- two bodies with their checks: alike, or unlike in three signs at least -/
theorem three {b c : List Nat} (hl : b.length = c.length) (h1 : Bd b) (h2 : Bd c) (hs : c.length < 900) (hn : b ≠ c) : 3 ≤ dif (b ++ 32 :: chk b) (c ++ 32 :: chk c) := by
  have e : dif (b ++ 32 :: chk b) (c ++ 32 :: chk c) = dif b c + dif (chk b) (chk c) := by
    rw [dif_app hl]
    show dif b c + ((if (32 : Nat) = 32 then 0 else 1) + dif (chk b) (chk c)) = _
    rw [if_pos rfl, Nat.zero_add]
  rw [e, chk_dif]
  have k0 := dif_ne hl hn
  by_cases k1 : dif b c = 1
  · obtain ⟨i, d, q1, q2, q3, q4, q5, q6⟩ := dif_1 0 hl h1 h2 k1
    have z1 : dif (pad3 (m997 (s1 b))) (pad3 (m997 (s1 c))) ≠ 0 := fun z => by
      have := pad_dif z
      unfold s1 at this
      omega
    have z2 : dif (pad3 (m997 (s2 b))) (pad3 (m997 (s2 c))) ≠ 0 := fun z => by
      have := pad_dif z
      unfold s2 at this
      rw [q6] at this
      rw [Nat.zero_add] at this
      refine prime997 (d := d) (k := (i : Int) + 1) ?_ ⟨by omega, by omega, q4⟩ ⟨by omega, by omega, by omega⟩
      omega
    omega
  · by_cases k2 : dif b c = 2
    · obtain ⟨i, j, d, f, q1, q2, q3, q4, q5, q6, q7, q8, q9⟩ := dif_2 0 hl h1 h2 k2
      by_cases z1 : dif (pad3 (m997 (s1 b))) (pad3 (m997 (s1 c))) = 0
      · by_cases z2 : dif (pad3 (m997 (s2 b))) (pad3 (m997 (s2 c))) = 0
        · exfalso
          have w1 := pad_dif z1
          have w2 := pad_dif z2
          unfold s1 at w1
          unfold s2 at w2
          have hf : f = -d := by omega
          rw [q9, hf, Nat.zero_add, Nat.zero_add] at w2
          refine prime997 (d := d) (k := (i : Int) - j) ?_ ⟨by omega, by omega, q5⟩ ⟨by omega, by omega, by omega⟩
          have : d * ((i : Int) + 1) + -d * ((j : Int) + 1) = d * ((i : Int) - j) := by
            rw [Int.mul_add, Int.mul_sub, Int.neg_mul, Int.mul_add]
            omega
          omega
        · omega
      · omega
    · omega
end K26
end L2
set_option linter.all false
set_option maxRecDepth 100000
set_option maxHeartbeats 1000000
namespace L2
namespace K26
open PySem PySem.Spec PL TL
open _root_.SX (S S_len S_cat S_tl S_inj split_S join_S num_S int_S)
/-! text_right; slip_text; check_of -/
theorem name_asc {p : List Nat} (h : isName p = true) : asc p = true := by
  unfold isName at h
  simp only [Bool.and_eq_true] at h
  unfold asc
  rw [List.all_eq_true] at *
  intro c hc
  have := h.2 c hc
  unfold low at this
  simp only [Bool.and_eq_true, decide_eq_true_eq] at this
  exact decide_eq_true (by omega)
theorem fdS {p : List Nat} {k : Nat} (hl : p.length ≤ 1000) (ha : asc p = true) : FD (.str (S p)) k (10 * p.length + 2) := by
  have := FD.str (k := k) (x := S p) (by rw [S_len]; exact hl) ha
  rw [S_len] at this
  exact this
theorem fdNat {n k : Nat} (h : n < 1000000) : FD (.int n) k 8 := FD.int ⟨by omega, by omega⟩
theorem fdSlip {n t m k : Nat} {one other : List Nat} (h : Slip n one other t m) : FD (slipD n one other t m) (k + 1) 400 := by
  have l1 := isName_len h.nm
  have l2 := isName_len h.nm'
  have a1 := name_asc h.nm
  have a2 := name_asc h.nm'
  have hn := h.n
  have hm := h.m
  have ht := h.t
  have z : FDs [.str ("slip" : Str), .int n, .str (S one), .str (S other), .int t, .int m] k _ :=
    .cons (FD.str (by decide) (by decide)) (.cons (fdNat (by omega)) (.cons (fdS (by omega) a1) (.cons (fdS (by omega) a2) (.cons (fdNat (by omega)) (.cons (fdNat (by omega)) .nil)))))
  refine z.tup.up (Nat.le_refl _) ?_
  have : ("slip" : Str).length = 4 := rfl
  omega
theorem fdAns {a : List Nat} {d : D} {k : Nat} (h : Ans a d) : FD d (k + 1) 400 := by
  rcases h with rfl | ⟨n, one, other, t, m, sl, rfl, _⟩
  · exact FD.non.up (Nat.le_refl _) (by decide)
  · exact fdSlip sl
theorem x_l_text_right (a : List Nat) (hl : a.length ≤ 600) (ha : asc a = true) : f_l_text_right [.str (S a)] = .ok (.bl true) := by
  obtain ⟨d, h1, h2, h3⟩ := same_text a hl ha
  have h1 := x_slip_of_text h1
  obtain ⟨r, hr, _⟩ := (FDs.lst (.cons (fdAns (k := 0) h3) (.cons (fdAns h3) .nil))).repr (by decide) (by decide)
  have lm : (2 : Nat) ≤ lim := by decide
  unfold f_l_text_right g_l_text_right runP
  simp only [seqS, ifS, boolE, binE, unE, appE, ixOwnE, popOwnE, lenOwnE, cE, varE, retS, retNS, asgS, asgOwnS, parS, parOwnS, appendS, dropS, nopS, forS, forGo, seqI, range1I, range2I, enumI, rangeL, callE, callIO, callL, consA, nilA, nameT, tupT, consT, nilT, ownIxT, andE, orE, notE, andT, orT, notT, chainE, ifE, slE, someO, noO, lstE, lstF, appL, methE, isStrD, raiseS, rsIO, rsOf, own0, ofOpt, R.bind_ok, R.bind_er, R.bindS_ok, R.bindS_er, Option.bind_some, Option.map_some, List.map_cons, List.map_nil, List.cons_append, List.nil_append, List.replicate_succ, List.replicate_zero, List.getElem?_cons_zero, List.getElem?_cons_succ, List.length_cons, List.length_nil, List.set_cons_zero, List.set_cons_succ, isOwn, if_true, reduceIte, Bool.false_eq_true, Nat.reduceAdd, atI_0, atI_1, ixN_0, ixN_1, gt_int, lt_int, le_int, ge_int, add_int, sub_int, eq_int, ne_int, eq_str, ne_str, decide_true, decide_false, Nat.zero_add, h1, h2, hr, lm]
theorem x_slip_text {n t m : Nat} {one other : List Nat} (h : Slip n one other t m) : f_slip_text [slipD n one other t m] = .ok (.str (S (textL n one other t m))) := by
  have h1 := h.is
  have h2 := x_text_of h.good
  unfold f_slip_text g_slip_text runP
  simp only [seqS, ifS, boolE, binE, unE, appE, ixOwnE, popOwnE, lenOwnE, cE, varE, retS, retNS, asgS, asgOwnS, parS, parOwnS, appendS, dropS, nopS, forS, forGo, seqI, range1I, range2I, enumI, rangeL, callE, callIO, callL, consA, nilA, nameT, tupT, consT, nilT, ownIxT, andE, orE, notE, andT, orT, notT, chainE, ifE, slE, someO, noO, lstE, lstF, appL, methE, isStrD, raiseS, rsIO, rsOf, own0, ofOpt, R.bind_ok, R.bind_er, R.bindS_ok, R.bindS_er, Option.bind_some, Option.map_some, List.map_cons, List.map_nil, List.cons_append, List.nil_append, List.replicate_succ, List.replicate_zero, List.getElem?_cons_zero, List.getElem?_cons_succ, List.length_cons, List.length_nil, List.set_cons_zero, List.set_cons_succ, isOwn, if_true, reduceIte, Bool.false_eq_true, Nat.reduceAdd, atI_0, atI_1, ixN_0, ixN_1, gt_int, lt_int, le_int, ge_int, add_int, sub_int, eq_int, ne_int, eq_str, ne_str, decide_true, decide_false, Nat.zero_add, h1, h2, Bool.not_true]
theorem x_slip_text_no {d : D} (h : f_is_slip_value [d] = .ok (.bl false)) : f_slip_text [d] = .er ⟨"InvalidSlip", [("value", d)]⟩ := by
  unfold f_slip_text g_slip_text runP
  simp only [seqS, ifS, boolE, binE, unE, appE, ixOwnE, popOwnE, lenOwnE, cE, varE, retS, retNS, asgS, asgOwnS, parS, parOwnS, appendS, dropS, nopS, forS, forGo, seqI, range1I, range2I, enumI, rangeL, callE, callIO, callL, consA, nilA, nameT, tupT, consT, nilT, ownIxT, andE, orE, notE, andT, orT, notT, chainE, ifE, slE, someO, noO, lstE, lstF, appL, methE, isStrD, raiseS, rsIO, rsOf, own0, ofOpt, R.bind_ok, R.bind_er, R.bindS_ok, R.bindS_er, Option.bind_some, Option.map_some, List.map_cons, List.map_nil, List.cons_append, List.nil_append, List.replicate_succ, List.replicate_zero, List.getElem?_cons_zero, List.getElem?_cons_succ, List.length_cons, List.length_nil, List.set_cons_zero, List.set_cons_succ, isOwn, if_true, reduceIte, Bool.false_eq_true, Nat.reduceAdd, atI_0, atI_1, ixN_0, ixN_1, gt_int, lt_int, le_int, ge_int, add_int, sub_int, eq_int, ne_int, eq_str, ne_str, decide_true, decide_false, Nat.zero_add, h, Bool.not_false]
def pr (c : Nat) : Bool := decide (32 ≤ c) && decide (c ≤ 126)
theorem x_is_printed (a : List Nat) (hl : a.length ≤ 1000) : f_is_printed [.str (S a)] = .ok (.bl (a.all pr)) := by
  have hc : lcE [1] (seqI (varE 0)) (nameT 1) yesT (chainE leF leF (cE (.str " ")) (varE 1) (cE (.str "~"))) [.d (.str (S a)), .un] = .ok (a.map fun c => D.bl (pr c)) [.d (.str (S a)), .un] := by
    refine (lcE_pure (vs := [1]) (gi := seqI (varE 0)) (fun _ => true) (chD pr) (items := signs (S a)) (ρ1 := [.d (.str (S a)), .un]) rfl rfl (by unfold signs lim; simp; omega) rfl ?_).trans (by rw [signs_ch])
    intro d hd
    obtain ⟨c, hc, rfl⟩ := List.mem_map.mp hd
    refine ⟨[.d (.str (S a)), .d (.str ⟨#[c]⟩)], rfl, rfl, rfl, fun _ => ?_⟩
    have e1 : leF (.str (" " : Str)) (.str ⟨#[c]⟩) = some (.bl (!decide (c < 32))) := by
      show some (D.bl (!sLt ⟨#[c]⟩ (S [32]))) = _
      rw [lt_one]
    have e2 : leF (.str ⟨#[c]⟩) (.str ("~" : Str)) = some (.bl (!decide (126 < c))) := by
      show some (D.bl (!sLt (S [126]) ⟨#[c]⟩)) = _
      rw [lt_one']
    show _ = R.ok (D.bl (pr c)) _
    unfold pr
    by_cases h : c < 32
    · have h' : ¬ 32 ≤ c := by omega
      simp only [seqS, ifS, boolE, binE, unE, appE, ixOwnE, popOwnE, lenOwnE, cE, varE, retS, retNS, asgS, asgOwnS, parS, parOwnS, appendS, dropS, nopS, forS, forGo, seqI, range1I, range2I, enumI, rangeL, callE, callIO, callL, consA, nilA, nameT, tupT, consT, nilT, ownIxT, andE, orE, notE, andT, orT, notT, chainE, ifE, slE, someO, noO, lstE, lstF, appL, methE, isStrD, raiseS, rsIO, rsOf, own0, ofOpt, R.bind_ok, R.bind_er, R.bindS_ok, R.bindS_er, Option.bind_some, Option.map_some, List.map_cons, List.map_nil, List.cons_append, List.nil_append, List.replicate_succ, List.replicate_zero, List.getElem?_cons_zero, List.getElem?_cons_succ, List.length_cons, List.length_nil, List.set_cons_zero, List.set_cons_succ, isOwn, if_true, reduceIte, Bool.false_eq_true, Nat.reduceAdd, atI_0, atI_1, ixN_0, ixN_1, gt_int, lt_int, le_int, ge_int, add_int, sub_int, eq_int, ne_int, eq_str, ne_str, decide_true, decide_false, Nat.zero_add, e1, e2, h, h', Bool.not_true, Bool.not_false, Bool.false_and]
    · have h' : 32 ≤ c := by omega
      by_cases k : 126 < c
      · have k' : ¬ c ≤ 126 := by omega
        simp only [seqS, ifS, boolE, binE, unE, appE, ixOwnE, popOwnE, lenOwnE, cE, varE, retS, retNS, asgS, asgOwnS, parS, parOwnS, appendS, dropS, nopS, forS, forGo, seqI, range1I, range2I, enumI, rangeL, callE, callIO, callL, consA, nilA, nameT, tupT, consT, nilT, ownIxT, andE, orE, notE, andT, orT, notT, chainE, ifE, slE, someO, noO, lstE, lstF, appL, methE, isStrD, raiseS, rsIO, rsOf, own0, ofOpt, R.bind_ok, R.bind_er, R.bindS_ok, R.bindS_er, Option.bind_some, Option.map_some, List.map_cons, List.map_nil, List.cons_append, List.nil_append, List.replicate_succ, List.replicate_zero, List.getElem?_cons_zero, List.getElem?_cons_succ, List.length_cons, List.length_nil, List.set_cons_zero, List.set_cons_succ, isOwn, if_true, reduceIte, Bool.false_eq_true, Nat.reduceAdd, atI_0, atI_1, ixN_0, ixN_1, gt_int, lt_int, le_int, ge_int, add_int, sub_int, eq_int, ne_int, eq_str, ne_str, decide_true, decide_false, Nat.zero_add, e1, e2, h, h', k, k', Bool.not_true, Bool.not_false, Bool.true_and]
      · have k' : c ≤ 126 := by omega
        simp only [seqS, ifS, boolE, binE, unE, appE, ixOwnE, popOwnE, lenOwnE, cE, varE, retS, retNS, asgS, asgOwnS, parS, parOwnS, appendS, dropS, nopS, forS, forGo, seqI, range1I, range2I, enumI, rangeL, callE, callIO, callL, consA, nilA, nameT, tupT, consT, nilT, ownIxT, andE, orE, notE, andT, orT, notT, chainE, ifE, slE, someO, noO, lstE, lstF, appL, methE, isStrD, raiseS, rsIO, rsOf, own0, ofOpt, R.bind_ok, R.bind_er, R.bindS_ok, R.bindS_er, Option.bind_some, Option.map_some, List.map_cons, List.map_nil, List.cons_append, List.nil_append, List.replicate_succ, List.replicate_zero, List.getElem?_cons_zero, List.getElem?_cons_succ, List.length_cons, List.length_nil, List.set_cons_zero, List.set_cons_succ, isOwn, if_true, reduceIte, Bool.false_eq_true, Nat.reduceAdd, atI_0, atI_1, ixN_0, ixN_1, gt_int, lt_int, le_int, ge_int, add_int, sub_int, eq_int, ne_int, eq_str, ne_str, decide_true, decide_false, Nat.zero_add, e1, e2, h, h', k, k', Bool.not_true, Bool.not_false, Bool.true_and]
  have e1 : isiF "str" (.str (S a)) = some (.bl true) := rfl
  have e4 := all_map pr a
  unfold f_is_printed g_is_printed runP
  simp only [seqS, ifS, boolE, binE, unE, appE, ixOwnE, popOwnE, lenOwnE, cE, varE, retS, retNS, asgS, asgOwnS, parS, parOwnS, appendS, dropS, nopS, forS, forGo, seqI, range1I, range2I, enumI, rangeL, callE, callIO, callL, consA, nilA, nameT, tupT, consT, nilT, ownIxT, andE, orE, notE, andT, orT, notT, chainE, ifE, slE, someO, noO, lstE, lstF, appL, methE, isStrD, raiseS, rsIO, rsOf, own0, ofOpt, R.bind_ok, R.bind_er, R.bindS_ok, R.bindS_er, Option.bind_some, Option.map_some, List.map_cons, List.map_nil, List.cons_append, List.nil_append, List.replicate_succ, List.replicate_zero, List.getElem?_cons_zero, List.getElem?_cons_succ, List.length_cons, List.length_nil, List.set_cons_zero, List.set_cons_succ, isOwn, if_true, reduceIte, Bool.false_eq_true, Nat.reduceAdd, atI_0, atI_1, ixN_0, ixN_1, gt_int, lt_int, le_int, ge_int, add_int, sub_int, eq_int, ne_int, eq_str, ne_str, decide_true, decide_false, Nat.zero_add, e1, hc, e4]
theorem x_check_of (a : List Nat) (hl : a.length ≤ 1000) (hp : a.all pr = true) : f_check_of [.str (S a)] = .ok (.str (S (chk a))) := by
  have h1 := x_is_printed a hl
  rw [hp] at h1
  have h2 := x_check_in a hl
  unfold f_check_of g_check_of runP
  simp only [seqS, ifS, boolE, binE, unE, appE, ixOwnE, popOwnE, lenOwnE, cE, varE, retS, retNS, asgS, asgOwnS, parS, parOwnS, appendS, dropS, nopS, forS, forGo, seqI, range1I, range2I, enumI, rangeL, callE, callIO, callL, consA, nilA, nameT, tupT, consT, nilT, ownIxT, andE, orE, notE, andT, orT, notT, chainE, ifE, slE, someO, noO, lstE, lstF, appL, methE, isStrD, raiseS, rsIO, rsOf, own0, ofOpt, R.bind_ok, R.bind_er, R.bindS_ok, R.bindS_er, Option.bind_some, Option.map_some, List.map_cons, List.map_nil, List.cons_append, List.nil_append, List.replicate_succ, List.replicate_zero, List.getElem?_cons_zero, List.getElem?_cons_succ, List.length_cons, List.length_nil, List.set_cons_zero, List.set_cons_succ, isOwn, if_true, reduceIte, Bool.false_eq_true, Nat.reduceAdd, atI_0, atI_1, ixN_0, ixN_1, gt_int, lt_int, le_int, ge_int, add_int, sub_int, eq_int, ne_int, eq_str, ne_str, decide_true, decide_false, Nat.zero_add, h1, h2, Bool.not_true]
theorem x_check_of_no {d : D} (h : f_is_printed [d] = .ok (.bl false)) : f_check_of [d] = .er ⟨"InvalidText", [("value", d)]⟩ := by
  unfold f_check_of g_check_of runP
  simp only [seqS, ifS, boolE, binE, unE, appE, ixOwnE, popOwnE, lenOwnE, cE, varE, retS, retNS, asgS, asgOwnS, parS, parOwnS, appendS, dropS, nopS, forS, forGo, seqI, range1I, range2I, enumI, rangeL, callE, callIO, callL, consA, nilA, nameT, tupT, consT, nilT, ownIxT, andE, orE, notE, andT, orT, notT, chainE, ifE, slE, someO, noO, lstE, lstF, appL, methE, isStrD, raiseS, rsIO, rsOf, own0, ofOpt, R.bind_ok, R.bind_er, R.bindS_ok, R.bindS_er, Option.bind_some, Option.map_some, List.map_cons, List.map_nil, List.cons_append, List.nil_append, List.replicate_succ, List.replicate_zero, List.getElem?_cons_zero, List.getElem?_cons_succ, List.length_cons, List.length_nil, List.set_cons_zero, List.set_cons_succ, isOwn, if_true, reduceIte, Bool.false_eq_true, Nat.reduceAdd, atI_0, atI_1, ixN_0, ixN_1, gt_int, lt_int, le_int, ge_int, add_int, sub_int, eq_int, ne_int, eq_str, ne_str, decide_true, decide_false, Nat.zero_add, h, Bool.not_false]
end K26
end L2
set_option linter.all false
set_option maxRecDepth 100000
set_option maxHeartbeats 1000000
namespace L2
namespace K26
open PySem PySem.Spec PL TL
open _root_.SX (S S_len S_cat S_tl S_inj split_S join_S num_S int_S)
/-! two of some; a drawn slip -/
theorem seqIx_nat {j n : Nat} (h : j < n) : seqIndex? (j : Int) n = some j := by
  unfold seqIndex?
  have c1 : ¬ ((j : Int) < 0) := by omega
  have c2 : (0 : Int) ≤ (j : Int) := by omega
  have c3 : ((j : Int) < (n : Int)) := by omega
  simp [c1, c2, c3, h]
theorem popOwn_ok {i : Nat} {g : GE D} {ρ ρ1 : PEnv} {xs : List D} {j : Nat} {y : D} (h0 : isOwn ρ[i]? = true) (hg : g ρ = .ok (.int j) ρ1) (h1 : ρ1[i]? = some (.own xs)) (hj : xs[j]? = some y) (hl : j < 1000000) : popOwnE i g ρ = .ok y (ρ1.set i (.own (xs.eraseIdx j))) := by
  have hi : j < xs.length := by
    by_cases q : j < xs.length
    · exact q
    · rw [List.getElem?_eq_none (by omega)] at hj
      cases hj
  unfold popOwnE
  rw [if_pos h0, hg, R.bind_ok, h1]
  have si := seqIx_nat hi
  have c4 : -(2 ^ 63) ≤ (j : Int) ∧ (j : Int) < 2 ^ 63 := ⟨by omega, by omega⟩
  generalize (2 : Int) ^ 63 = B at c4 ⊢
  simp only [si, hj]
  rw [if_pos c4]
def someS : GS := appendS 4 (popOwnE 3 (callIO 0 2 f_l_draw (consA (lenOwnE 3) nilA)))
theorem some_step {a b : Int} (hp : PotOk a b) (xs ys : List D) (h0 : 0 < xs.length) (h1 : xs.length < 1000) (h2 : ys.length < 1000) (p q t : SV) :
    ∃ (j : Nat) (x : D) (a' b' : Int), xs[j]? = some x ∧ someS [.own [.int a, .int b], p, q, .own xs, .own ys, t] = .nx [.own [.int a', .int b'], p, q, .own (xs.eraseIdx j), .own (ys ++ [x]), t] ∧ PotOk a' b' := by
  obtain ⟨j, a', b', e, hj, h3⟩ := x_drawN a b xs.length hp ⟨h0, by omega⟩
  have hx : xs[j]? = some xs[j] := List.getElem?_eq_getElem hj
  refine ⟨j, xs[j], a', b', hx, ?_, h3⟩
  have hc : callIO 0 2 f_l_draw (consA (lenOwnE 3) nilA) [.own [.int a, .int b], p, q, .own xs, .own ys, t] = .ok (.int j) [.own [.int a', .int b'], p, q, .own xs, .own ys, t] := by
    simp only [seqS, ifS, boolE, binE, unE, appE, ixOwnE, popOwnE, lenOwnE, cE, varE, retS, retNS, asgS, asgOwnS, parS, parOwnS, appendS, dropS, nopS, forS, forGo, seqI, range1I, range2I, enumI, rangeL, callE, callIO, callL, consA, nilA, nameT, tupT, consT, nilT, ownIxT, andE, orE, notE, andT, orT, notT, chainE, ifE, slE, someO, noO, lstE, lstF, appL, methE, isStrD, raiseS, rsIO, rsOf, own0, ofOpt, R.bind_ok, R.bind_er, R.bindS_ok, R.bindS_er, Option.bind_some, Option.map_some, List.map_cons, List.map_nil, List.cons_append, List.nil_append, List.replicate_succ, List.replicate_zero, List.getElem?_cons_zero, List.getElem?_cons_succ, List.length_cons, List.length_nil, List.set_cons_zero, List.set_cons_succ, isOwn, if_true, reduceIte, Bool.false_eq_true, Nat.reduceAdd, atI_0, atI_1, ixN_0, ixN_1, gt_int, lt_int, le_int, ge_int, add_int, sub_int, eq_int, ne_int, eq_str, ne_str, decide_true, decide_false, Nat.zero_add, e]
  have hpop := popOwn_ok (i := 3) (xs := xs) (y := xs[j]) rfl hc rfl hx (by omega)
  have c5 : ys.length < lim := by unfold lim; omega
  unfold someS appendS
  rw [hpop]
  simp only [R.bindS_ok, List.getElem?_cons_succ, List.getElem?_cons_zero, List.set_cons_succ, List.set_cons_zero, isOwn, if_true]
  rw [if_pos c5]
theorem range1_nat {gs : GE (List D)} {ρ ρ1 : PEnv} {n : Nat} (h : gs ρ = .ok [.int n] ρ1) (hn : n ≤ 1000000) : range1I gs ρ = .ok ((List.range n).map fun (i : Nat) => D.int i) ρ1 := by
  have c : -(2 ^ 62) ≤ (n : Int) ∧ (n : Int) < 2 ^ 62 := ⟨by omega, by omega⟩
  unfold range1I
  rw [h, R.bind_ok]
  generalize (2 : Int) ^ 62 = B at c ⊢
  simp only []
  rw [if_pos c, Int.toNat_natCast]
  unfold rangeL
  congr 2
  funext i
  rw [Int.zero_add]
theorem x_l_some2 {a b : Int} (hp : PotOk a b) (xs : List D) (h0 : 2 ≤ xs.length) (h1 : xs.length < 1000) :
    ∃ (i j : Nat) (x y : D) (a' b' : Int), xs[i]? = some x ∧ (xs.eraseIdx i)[j]? = some y ∧ f_l_some [.int a, .int b] [.lst xs, .int 2] = (.ok (.lst [x, y]), [.int a', .int b']) ∧ PotOk a' b' := by
  have lf : listF [.lst xs] = some xs := rfl
  have l0 : (0 : Nat) ≤ lim := by decide
  have rg : ∀ ρ : PEnv, range1I (consA (varE 2) nilA) [.own [.int a, .int b], .d (.lst xs), .d (.int 2), .own xs, .own [], .un] = .ok [.int 0, .int 1] [.own [.int a, .int b], .d (.lst xs), .d (.int 2), .own xs, .own [], .un] := fun _ => range1_nat (n := 2) rfl (by decide)
  obtain ⟨i, x, a1, b1, hx, e1, p1⟩ := some_step hp xs [] (by omega) h1 (by decide) (.d (.lst xs)) (.d (.int 2)) (.d (.int 0))
  have hi : i < xs.length := by
    by_cases q : i < xs.length
    · exact q
    · rw [List.getElem?_eq_none (by omega)] at hx
      cases hx
  have le : (xs.eraseIdx i).length = xs.length - 1 := List.length_eraseIdx_of_lt hi
  obtain ⟨j, y, a2, b2, hy, e2, p2⟩ := some_step p1 (xs.eraseIdx i) [x] (by omega) (by omega) (by simp) (.d (.lst xs)) (.d (.int 2)) (.d (.int 1))
  refine ⟨i, j, x, y, a2, b2, hx, hy, ?_, p2⟩
  unfold someS at e1 e2
  rw [List.nil_append] at e1
  unfold f_l_some g_l_some runIO
  have rg := rg []
  generalize appendS 4 (popOwnE 3 (callIO 0 2 f_l_draw (consA (lenOwnE 3) nilA))) = G at e1 e2
  generalize range1I (consA (varE 2) nilA) = RG at rg
  simp only [seqS, ifS, boolE, binE, unE, appE, ixOwnE, popOwnE, lenOwnE, cE, varE, retS, retNS, asgS, asgOwnS, parS, parOwnS, appendS, dropS, nopS, forS, forGo, seqI, range1I, range2I, enumI, rangeL, callE, callIO, callL, consA, nilA, nameT, tupT, consT, nilT, ownIxT, andE, orE, notE, andT, orT, notT, chainE, ifE, slE, someO, noO, lstE, lstF, appL, methE, isStrD, raiseS, rsIO, rsOf, own0, ofOpt, R.bind_ok, R.bind_er, R.bindS_ok, R.bindS_er, Option.bind_some, Option.map_some, List.map_cons, List.map_nil, List.cons_append, List.nil_append, List.replicate_succ, List.replicate_zero, List.getElem?_cons_zero, List.getElem?_cons_succ, List.length_cons, List.length_nil, List.set_cons_zero, List.set_cons_succ, isOwn, if_true, reduceIte, Bool.false_eq_true, Nat.reduceAdd, atI_0, atI_1, ixN_0, ixN_1, gt_int, lt_int, le_int, ge_int, add_int, sub_int, eq_int, ne_int, eq_str, ne_str, decide_true, decide_false, Nat.zero_add, lf, l0, rg, e1, e2]
def names7 : List (List Nat) := [[97, 110, 110], [98, 111, 98], List.replicate 12 122, [97], [98, 101, 97, 116, 115], List.replicate 12 121, [109]]
theorem names7_ok : (∀ p ∈ names7, isName p = true) ∧ ∀ i : Nat, i < 7 → ∀ p : List Nat, names7[i]? = some p → p ∉ names7.eraseIdx i := by
  constructor
  · decide
  · intro i hi p hp
    have : ∀ i : Nat, i < 7 → (match names7[i]? with | some p => decide (p ∉ names7.eraseIdx i) | none => true) = true := by decide
    have := this i hi
    rw [hp] at this
    exact of_decide_eq_true this
theorem z12 : mulF (.str ("z" : Str)) (.int 12) = some (.str (S (List.replicate 12 122))) := rfl
theorem y12 : mulF (.str ("y" : Str)) (.int 12) = some (.str (S (List.replicate 12 121))) := rfl
theorem names7_is : [D.str ("ann" : Str), .str ("bob" : Str), .str (S (List.replicate 12 122)), .str ("a" : Str), .str ("beats" : Str), .str (S (List.replicate 12 121)), .str ("m" : Str)] = names7.map fun p => D.str (S p) := rfl
theorem eraseIdx_map {α β : Type} (f : α → β) : ∀ (l : List α) (i : Nat), (l.map f).eraseIdx i = (l.eraseIdx i).map f
  | [], i => by simp
  | x :: l, 0 => rfl
  | x :: l, i + 1 => by
    show f x :: (l.map f).eraseIdx i = f x :: (l.eraseIdx i).map f
    rw [eraseIdx_map f l i]
theorem mem_nat {l : List Nat} {d : D} (h : d ∈ l.map fun (n : Nat) => D.int n) : ∃ n : Nat, n ∈ l ∧ d = .int n := by
  obtain ⟨n, h1, rfl⟩ := List.mem_map.mp h
  exact ⟨n, h1, rfl⟩
theorem x_l_drawn {a b : Int} (hp : PotOk a b) : ∃ (n : Nat) (one other : List Nat) (t m : Nat) (a' b' : Int), Slip n one other t m ∧ f_l_drawn [.int a, .int b] [] = (.ok (slipD n one other t m), [.int a', .int b']) ∧ PotOk a' b' := by
  obtain ⟨i, j, x, y, a1, b1, hx, hy, e1, p1⟩ := x_l_some2 hp (names7.map fun p => D.str (S p)) (by decide) (by decide)
  obtain ⟨d1, a2, b2, e2, m2, p2⟩ := x_pick a1 b1 p1 ([0, 1, 9, 10, 99].map fun (n : Nat) => D.int n) (by simp) (by decide)
  obtain ⟨t, a3, b3, e3, ht, p3⟩ := x_drawN a2 b2 3 p2 (by decide)
  obtain ⟨d4, a4, b4, e4, m4, p4⟩ := x_pick a3 b3 p3 ([0, 3, 10, 99].map fun (n : Nat) => D.int n) (by simp) (by decide)
  obtain ⟨n, hn, rfl⟩ := mem_nat m2
  obtain ⟨m, hm, rfl⟩ := mem_nat m4
  rw [List.getElem?_map] at hx
  cases hp7 : names7[i]? with
  | none => rw [hp7] at hx; cases hx
  | some p =>
    rw [hp7] at hx
    cases hx
    rw [eraseIdx_map, List.getElem?_map] at hy
    cases hq7 : (names7.eraseIdx i)[j]? with
    | none => rw [hq7] at hy; cases hy
    | some q =>
      rw [hq7] at hy
      cases hy
      have hi : i < 7 := by
        by_cases z : i < 7
        · exact z
        · rw [List.getElem?_eq_none (by show 7 ≤ i; omega)] at hp7
          cases hp7
      have mp := List.mem_of_getElem? hp7
      have mq := List.mem_of_getElem? hq7
      have hne : p ≠ q := fun z => by
        subst z
        exact names7_ok.2 i hi p hp7 mq
      have mq' : q ∈ names7 := (List.eraseIdx_sublist names7 i).subset mq
      have hn9 : ∀ n ∈ ([0, 1, 9, 10, 99] : List Nat), n ≤ 99 := by decide
      have hm9 : ∀ n ∈ ([0, 3, 10, 99] : List Nat), n ≤ 99 := by decide
      refine ⟨n, p, q, t, m, a4, b4, ⟨hn9 n hn, hm9 m hm, by omega, names7_ok.1 p mp, names7_ok.1 q mq', hne⟩, ?_, p4⟩
      have t6 : ∀ x0 x1 x2 x3 x4 x5 : D, tupF [x0, x1, x2, x3, x4, x5] = some (.tup [x0, x1, x2, x3, x4, x5]) := fun _ _ _ _ _ _ => rfl
      have l7 : (7 : Nat) ≤ lim := by decide
      have l5 : (5 : Nat) ≤ lim := by decide
      have l4 : (4 : Nat) ≤ lim := by decide
      have e1' : f_l_some [.int a, .int b] [.lst [D.str ("ann" : Str), .str ("bob" : Str), .str (S (List.replicate 12 122)), .str ("a" : Str), .str ("beats" : Str), .str (S (List.replicate 12 121)), .str ("m" : Str)], .int 2] = _ := e1
      have e2' : f_l_pick [.int a1, .int b1] [.lst [.int 0, .int 1, .int 9, .int 10, .int 99]] = _ := e2
      have e3' : f_l_draw [.int a2, .int b2] [.int 3] = _ := e3
      have e4' : f_l_pick [.int a3, .int b3] [.lst [.int 0, .int 3, .int 10, .int 99]] = _ := e4
      have z12 := z12
      have y12 := y12
      generalize List.replicate 12 122 = r1 at z12 e1'
      generalize List.replicate 12 121 = r2 at y12 e1'
      unfold f_l_drawn g_l_drawn runIO slipD
      simp only [seqS, ifS, boolE, binE, unE, appE, ixOwnE, popOwnE, lenOwnE, cE, varE, retS, retNS, asgS, asgOwnS, parS, parOwnS, appendS, dropS, nopS, forS, forGo, seqI, range1I, range2I, enumI, rangeL, callE, callIO, callL, consA, nilA, nameT, tupT, consT, nilT, ownIxT, andE, orE, notE, andT, orT, notT, chainE, ifE, slE, someO, noO, lstE, lstF, appL, methE, isStrD, raiseS, rsIO, rsOf, own0, ofOpt, R.bind_ok, R.bind_er, R.bindS_ok, R.bindS_er, Option.bind_some, Option.map_some, List.map_cons, List.map_nil, List.cons_append, List.nil_append, List.replicate_succ, List.replicate_zero, List.getElem?_cons_zero, List.getElem?_cons_succ, List.length_cons, List.length_nil, List.set_cons_zero, List.set_cons_succ, isOwn, if_true, reduceIte, Bool.false_eq_true, Nat.reduceAdd, atI_0, atI_1, ixN_0, ixN_1, gt_int, lt_int, le_int, ge_int, add_int, sub_int, eq_int, ne_int, eq_str, ne_str, decide_true, decide_false, Nat.zero_add, l7, l5, l4, z12, y12, e1', e2', e3', e4', t6]
end K26
end L2
set_option linter.all false
set_option maxRecDepth 100000
set_option maxHeartbeats 1000000
namespace L2
namespace K26
open PySem PySem.Spec PL TL
open _root_.SX (S S_len S_cat S_tl S_inj split_S join_S num_S int_S)
/-! bodies; spoilt texts -/
theorem asc_app {a b : List Nat} (ha : asc a = true) (hb : asc b = true) : asc (a ++ b) = true := by
  unfold asc at *
  rw [List.all_append, ha, hb]
  rfl
theorem pad3_asc {n : Nat} : asc (pad3 n) = true := by
  unfold pad3
  refine asc_app ?_ ?_
  · unfold asc
    rw [List.all_eq_true]
    intro c hc
    rw [(List.mem_replicate.mp hc).2]
    rfl
  · unfold asc
    rw [List.all_eq_true]
    intro c hc
    have := numL_digits n c hc
    exact decide_eq_true (by omega)
theorem chk_asc (a : List Nat) : asc (chk a) = true := by
  unfold chk
  exact asc_app pad3_asc pad3_asc
theorem join_asc {s : List Nat} (hs : asc s = true) : ∀ {l : List (List Nat)}, (∀ p ∈ l, asc p = true) → asc (joinL s l) = true
  | [], _ => rfl
  | [p], h => h p List.mem_cons_self
  | p :: q :: r, h => asc_app (h p List.mem_cons_self) (asc_app hs (join_asc hs fun t ht => h t (List.mem_cons_of_mem _ ht)))
theorem numL_asc (n : Nat) : asc (numL n) = true := by
  unfold asc
  rw [List.all_eq_true]
  intro c hc
  have := numL_digits n c hc
  exact decide_eq_true (by omega)
theorem body_asc {n t m : Nat} {one other : List Nat} (h : Slip n one other t m) : asc (bodyL n one other t m) = true := by
  unfold bodyL
  refine join_asc rfl fun p hp => ?_
  simp only [List.mem_cons, List.not_mem_nil, or_false] at hp
  rcases hp with rfl | rfl | rfl | rfl | rfl
  · exact numL_asc _
  · exact name_asc h.nm
  · have := h.t
    have : t = 0 ∨ t = 1 ∨ t = 2 := by omega
    rcases this with e | e | e <;> subst e <;> decide
  · exact name_asc h.nm'
  · exact numL_asc _
theorem text_asc {n t m : Nat} {one other : List Nat} (h : Slip n one other t m) : asc (textL n one other t m) = true := by
  unfold textL
  refine asc_app (body_asc h) ?_
  show (decide (32 < 128) && asc (chk _)) = true
  rw [chk_asc]
  rfl
theorem text_len {n t m : Nat} {one other : List Nat} (h : Slip n one other t m) : 1 ≤ (textL n one other t m).length ∧ (textL n one other t m).length ≤ 107 := by
  have := bodyL_len h.good
  unfold textL
  rw [List.length_append, List.length_cons, chk_len]
  omega
def c' (s : String) : List Nat := s.toList.map Char.toNat
def bodies : List (List Nat) := [c' "00 ann beats bob 0", c' "1 ann beats ann 0", c' "1 ann wins bob 0", c' "1  ann beats bob 0", c' "100 ann beats bob 0", c' "1 ann beats bob 100",
  c' "1 ann beats bob 01", c' "1 Ann beats bob 0", c' "1 ann beats bob", c' "1 zzzzzzzzzzzzz beats bob 0", c' " 1 ann beats bob 0", c' "1 ann beats bob 0 ", c' "-1 ann beats bob 0", c' "1 ann beats  0", c' "", c' "1 ann beats bob +1", c' "1 ann beats bob 0 0"]
theorem bodies_ok : ∀ p ∈ bodies, asc p = true ∧ p.length ≤ 100 := by decide +kernel
theorem l_body_is (a b : Int) : ∃ k : GS, k = (seqS (asgS (callIO 0 2 f_l_pick (consA (varE 1) nilA)) (nameT 2)) (retS (binE addF (binE addF (varE 2) (cE (.str " "))) (callE 1 f_l_check (consA (varE 2) nilA))))) ∧
    g_l_body [.own [.int a, .int b], .un, .un] = k [.own [.int a, .int b], .d (.lst (bodies.map fun p => D.str (S p))), .un] := ⟨_, rfl, by
  have l6 : (6 : Nat) ≤ lim := by decide
  have l3 : (3 : Nat) ≤ lim := by decide
  have l8 : (8 : Nat) ≤ lim := by decide
  have a1 : addF (.lst [.str ("00 ann beats bob 0" : Str), .str ("1 ann beats ann 0" : Str), .str ("1 ann wins bob 0" : Str), .str ("1  ann beats bob 0" : Str), .str ("100 ann beats bob 0" : Str), .str ("1 ann beats bob 100" : Str)]) (.lst [.str ("1 ann beats bob 01" : Str), .str ("1 Ann beats bob 0" : Str), .str ("1 ann beats bob" : Str)]) = some (.lst ((bodies.take 9).map fun p => D.str (S p))) := rfl
  have z1 : mulF (.str ("z" : Str)) (.int 13) = some (.str (S (List.replicate 13 122))) := rfl
  have z2 : addF (.str ("1 " : Str)) (.str (S (List.replicate 13 122))) = some (.str (S (49 :: 32 :: List.replicate 13 122))) := rfl
  have z3 : addF (.str (S (49 :: 32 :: List.replicate 13 122))) (.str (" beats bob 0" : Str)) = some (.str (S (c' "1 zzzzzzzzzzzzz beats bob 0"))) := rfl
  have a2 : addF (.lst ((bodies.take 9).map fun p => D.str (S p))) (.lst [.str (S (c' "1 zzzzzzzzzzzzz beats bob 0")), .str (" 1 ann beats bob 0" : Str), .str ("1 ann beats bob 0 " : Str), .str ("-1 ann beats bob 0" : Str), .str ("1 ann beats  0" : Str), .str ("" : Str), .str ("1 ann beats bob +1" : Str), .str ("1 ann beats bob 0 0" : Str)]) = some (.lst (bodies.map fun p => D.str (S p))) := rfl
  generalize ((bodies.take 9).map fun p => D.str (S p)) = L1 at a1 a2
  generalize (bodies.map fun p => D.str (S p)) = L2 at a2
  generalize List.replicate 13 122 = r at z1 z2 z3
  unfold g_l_body
  simp only [seqS, ifS, boolE, binE, unE, appE, ixOwnE, popOwnE, lenOwnE, cE, varE, retS, retNS, asgS, asgOwnS, parS, parOwnS, appendS, dropS, nopS, forS, forGo, seqI, range1I, range2I, enumI, rangeL, callE, callIO, callL, consA, nilA, nameT, tupT, consT, nilT, ownIxT, andE, orE, notE, andT, orT, notT, chainE, ifE, slE, someO, noO, lstE, lstF, appL, methE, isStrD, raiseS, rsIO, rsOf, own0, ofOpt, R.bind_ok, R.bind_er, R.bindS_ok, R.bindS_er, Option.bind_some, Option.map_some, List.map_cons, List.map_nil, List.cons_append, List.nil_append, List.replicate_succ, List.replicate_zero, List.getElem?_cons_zero, List.getElem?_cons_succ, List.length_cons, List.length_nil, List.set_cons_zero, List.set_cons_succ, isOwn, if_true, reduceIte, Bool.false_eq_true, Nat.reduceAdd, atI_0, atI_1, ixN_0, ixN_1, gt_int, lt_int, le_int, ge_int, add_int, sub_int, eq_int, ne_int, eq_str, ne_str, decide_true, decide_false, Nat.zero_add, l6, l3, l8, a1, z1, z2, z3, a2]⟩
theorem x_l_body {a b : Int} (hp : PotOk a b) : ∃ (l : List Nat) (a' b' : Int), f_l_body [.int a, .int b] [] = (.ok (.str (S l)), [.int a', .int b']) ∧ l.length ≤ 600 ∧ asc l = true ∧ PotOk a' b' := by
  obtain ⟨d, a1, b1, e1, m1, p1⟩ := x_pick a b hp (bodies.map fun p => D.str (S p)) (by unfold bodies; simp) (by unfold bodies; simp)
  obtain ⟨p, hp', rfl⟩ := List.mem_map.mp m1
  obtain ⟨hpa, hpl⟩ := bodies_ok p hp'
  obtain ⟨k, hk, hg⟩ := l_body_is a b
  refine ⟨p ++ 32 :: chk p, a1, b1, ?_, ?_, ?_, p1⟩
  · have c1 := x_l_check p (by omega)
    have s1 := add_sp p (by omega)
    have s2 := add_chk p (by omega)
    unfold f_l_body runIO
    generalize (bodies.map fun p => D.str (S p)) = L2 at e1 hg
    show rsIO (g_l_body [.own [.int a, .int b], .un, .un]) = _
    rw [hg, hk]
    simp only [seqS, ifS, boolE, binE, unE, appE, ixOwnE, popOwnE, lenOwnE, cE, varE, retS, retNS, asgS, asgOwnS, parS, parOwnS, appendS, dropS, nopS, forS, forGo, seqI, range1I, range2I, enumI, rangeL, callE, callIO, callL, consA, nilA, nameT, tupT, consT, nilT, ownIxT, andE, orE, notE, andT, orT, notT, chainE, ifE, slE, someO, noO, lstE, lstF, appL, methE, isStrD, raiseS, rsIO, rsOf, own0, ofOpt, R.bind_ok, R.bind_er, R.bindS_ok, R.bindS_er, Option.bind_some, Option.map_some, List.map_cons, List.map_nil, List.cons_append, List.nil_append, List.replicate_succ, List.replicate_zero, List.getElem?_cons_zero, List.getElem?_cons_succ, List.length_cons, List.length_nil, List.set_cons_zero, List.set_cons_succ, isOwn, if_true, reduceIte, Bool.false_eq_true, Nat.reduceAdd, atI_0, atI_1, ixN_0, ixN_1, gt_int, lt_int, le_int, ge_int, add_int, sub_int, eq_int, ne_int, eq_str, ne_str, decide_true, decide_false, Nat.zero_add, e1, c1, s1, s2]
  · rw [List.length_append, List.length_cons, chk_len]
    omega
  · refine asc_app hpa ?_
    show (decide (32 < 128) && asc (chk _)) = true
    rw [chk_asc]
    rfl
end K26
end L2
set_option linter.all false
set_option maxRecDepth 100000
set_option maxHeartbeats 2000000
namespace L2
namespace K26
open PySem PySem.Spec PL TL
open _root_.SX (S S_len S_cat S_tl S_inj split_S join_S num_S int_S)
theorem cut_any (p : List Nat) (lo hi : Option Int) (hl : p.length ≤ 1000) (ha : asc p = true) : ∃ q, slF (.str (S p)) lo hi = some (.str (S q)) ∧ q.length ≤ p.length ∧ asc q = true := by
  refine ⟨(p.drop (HT.sIx p.length 0 lo)).take (HT.sIx p.length p.length hi - HT.sIx p.length 0 lo), ?_, ?_, ?_⟩
  · show (if (S p).length ≤ lim then some (D.str (cutS (S p) lo hi)) else none) = _
    rw [if_pos (by rw [S_len]; unfold lim; omega)]
    unfold cutS
    rw [S_len]
  · rw [List.length_take, List.length_drop]
    omega
  · unfold asc at *
    rw [List.all_eq_true] at *
    exact fun c hc => ha c (List.mem_of_mem_drop (List.mem_of_mem_take hc))
theorem ix_str (p : List Nat) (i : Nat) (h : i < p.length) (hl : p.length ≤ 1000) : ixF (.str (S p)) (.int i) = some (.str (S [p[i]])) := by
  show (if (S p).length ≤ lim then (atI (S p).cps.toList i).map fun c => D.str ⟨#[c]⟩ else none) = _
  rw [if_pos (by rw [S_len]; unfold lim; omega)]
  show (atI p i).map _ = _
  unfold atI ixN
  rw [if_pos (by omega), if_pos (by omega)]
  simp [h]
theorem pick_sign {a b : Int} (hp : PotOk a b) (z : List Nat) (h0 : z ≠ []) (hl : z.length ≤ 1000) : ∃ (c : Nat) (a' b' : Int), f_l_pick [.int a, .int b] [.lst (signs (S z))] = (.ok (.str (S [c])), [.int a', .int b']) ∧ c ∈ z ∧ PotOk a' b' := by
  obtain ⟨d, a1, b1, e1, m1, p1⟩ := x_pick a b hp (signs (S z)) (by unfold signs; simpa using h0) (by unfold signs; simp; omega)
  obtain ⟨c, hc, rfl⟩ := List.mem_map.mp m1
  exact ⟨c, a1, b1, e1, hc, p1⟩
def ab11 : List Nat := c' "abz 0159~!B"
def ab7 : List Nat := c' "a 09zA~"
theorem asc_one {c : Nat} {l : List Nat} (hl : asc l = true) (h : c ∈ l) : asc [c] = true := by
  unfold asc at *
  rw [List.all_eq_true] at hl
  have := hl c h
  simpa using this
theorem add_len (a b : List Nat) (h : a.length + b.length ≤ 2000) : addF (.str (S a)) (.str (S b)) = some (.str (S (a ++ b))) := by
  rw [add_str (by rw [S_len, S_len]; unfold lim; omega), S_cat]
theorem x_l_spoilt {a b : Int} (hp : PotOk a b) (x : List Nat) (h1 : 1 ≤ x.length) (h2 : x.length ≤ 107) (ha : asc x = true) :
    ∃ (l : List Nat) (a' b' : Int), f_l_spoilt [.int a, .int b] [.str (S x)] = (.ok (.str (S l)), [.int a', .int b']) ∧ l.length ≤ 600 ∧ asc l = true ∧ PotOk a' b' := by
  obtain ⟨i, a1, b1, e1, hi, p1⟩ := x_drawN a b x.length hp ⟨h1, by omega⟩
  obtain ⟨j, a2, b2, e2, hj, p2⟩ := x_drawN a1 b1 x.length p1 ⟨h1, by omega⟩
  obtain ⟨c, a3, b3, e3, hc, p3⟩ := pick_sign p2 ab11 (by decide) (by decide)
  obtain ⟨w, a4, b4, e4, hw0, hw1, p4⟩ := x_draw a3 b3 7 p3 (by decide)
  have hc7 : asc [c] = true := asc_one (l := ab11) (by decide) hc
  have l1 : lenF [.str (S x)] = some (.int x.length) := by
    unfold lenF lenSF lenTF
    simp only [S_len]
    rw [if_pos (by unfold lim; omega)]
  have lf : listF [.str ("abz 0159~!B" : Str)] = some (signs (S ab11)) := rfl
  obtain ⟨q1, s1, k1, t1⟩ := cut_any x none (some (i : Int)) (by omega) ha
  obtain ⟨q2, s2, k2, t2⟩ := cut_any x (some ((i : Int) + 1)) none (by omega) ha
  have d1 := add_len q1 [c] (by simp; omega)
  have d2 := add_len (q1 ++ [c]) q2 (by simp; omega)
  have lt7 : asc (q1 ++ [c] ++ q2) = true := asc_app (asc_app t1 hc7) t2
  have ll : (q1 ++ [c] ++ q2).length ≤ 220 := by simp; omega
  generalize q1 ++ [c] ++ q2 = late at d2 lt7 ll
  generalize hL : signs (S ab11) = L1 at e3 lf
  by_cases w0 : w = 0
  · subst w0
    refine ⟨late, a4, b4, ?_, by omega, lt7, p4⟩
    unfold f_l_spoilt g_l_spoilt runIO
    simp only [seqS, ifS, boolE, binE, unE, appE, ixOwnE, popOwnE, lenOwnE, cE, varE, retS, retNS, asgS, asgOwnS, parS, parOwnS, appendS, dropS, nopS, forS, forGo, seqI, range1I, range2I, enumI, rangeL, callE, callIO, callL, consA, nilA, nameT, tupT, consT, nilT, ownIxT, andE, orE, notE, andT, orT, notT, chainE, ifE, slE, someO, noO, lstE, lstF, appL, methE, isStrD, raiseS, rsIO, rsOf, own0, ofOpt, R.bind_ok, R.bind_er, R.bindS_ok, R.bindS_er, Option.bind_some, Option.map_some, List.map_cons, List.map_nil, List.cons_append, List.nil_append, List.replicate_succ, List.replicate_zero, List.getElem?_cons_zero, List.getElem?_cons_succ, List.length_cons, List.length_nil, List.set_cons_zero, List.set_cons_succ, isOwn, if_true, reduceIte, Bool.false_eq_true, Nat.reduceAdd, atI_0, atI_1, ixN_0, ixN_1, gt_int, lt_int, le_int, ge_int, add_int, sub_int, eq_int, ne_int, eq_str, ne_str, decide_true, decide_false, Nat.zero_add, l1, lf, e1, e2, e3, e4, s1, s2, d1, d2, eq_self]
  by_cases w1 : w = 1
  · subst w1
    obtain ⟨c2, a5, b5, e5, hc2, p5⟩ := pick_sign p4 ab7 (by decide) (by decide)
    have hc27 : asc [c2] = true := asc_one (l := ab7) (by decide) hc2
    obtain ⟨q3, s3, k3, t3⟩ := cut_any late none (some (j : Int)) (by omega) lt7
    obtain ⟨q4, s4, k4, t4⟩ := cut_any late (some ((j : Int) + 1)) none (by omega) lt7
    have d3 := add_len q3 [c2] (by simp; omega)
    have d4 := add_len (q3 ++ [c2]) q4 (by simp; omega)
    have lf2 : listF [.str ("a 09zA~" : Str)] = some (signs (S ab7)) := rfl
    generalize hL2 : signs (S ab7) = L2 at e5 lf2
    refine ⟨q3 ++ [c2] ++ q4, a5, b5, ?_, by simp; omega, asc_app (asc_app t3 hc27) t4, p5⟩
    have n10 : eqF (.int 1) (.int 0) = some (.bl false) := rfl
    unfold f_l_spoilt g_l_spoilt runIO
    simp only [seqS, ifS, boolE, binE, unE, appE, ixOwnE, popOwnE, lenOwnE, cE, varE, retS, retNS, asgS, asgOwnS, parS, parOwnS, appendS, dropS, nopS, forS, forGo, seqI, range1I, range2I, enumI, rangeL, callE, callIO, callL, consA, nilA, nameT, tupT, consT, nilT, ownIxT, andE, orE, notE, andT, orT, notT, chainE, ifE, slE, someO, noO, lstE, lstF, appL, methE, isStrD, raiseS, rsIO, rsOf, own0, ofOpt, R.bind_ok, R.bind_er, R.bindS_ok, R.bindS_er, Option.bind_some, Option.map_some, List.map_cons, List.map_nil, List.cons_append, List.nil_append, List.replicate_succ, List.replicate_zero, List.getElem?_cons_zero, List.getElem?_cons_succ, List.length_cons, List.length_nil, List.set_cons_zero, List.set_cons_succ, isOwn, if_true, reduceIte, Bool.false_eq_true, Nat.reduceAdd, atI_0, atI_1, ixN_0, ixN_1, gt_int, lt_int, le_int, ge_int, add_int, sub_int, eq_int, ne_int, eq_str, ne_str, decide_true, decide_false, Nat.zero_add, l1, lf, lf2, e1, e2, e3, e4, e5, s1, s2, s3, s4, d1, d2, d3, d4, n10, eq_self, Int.one_ne_zero]
  by_cases w2 : w = 2
  · subst w2
    have n20 : eqF (.int 2) (.int 0) = some (.bl false) := rfl
    have n21 : eqF (.int 2) (.int 1) = some (.bl false) := rfl
    obtain ⟨near, hn⟩ : ∃ n : Nat, (if (j : Int) < i then (j : Int) else i) = n := ⟨if j < i then j else i, by split <;> split <;> omega⟩
    obtain ⟨far, hf⟩ : ∃ n : Nat, (if (j : Int) > i then (j : Int) else i) = n := ⟨if j > i then j else i, by split <;> split <;> omega⟩
    have hnx : near < x.length := by split at hn <;> omega
    have hfx : far < x.length := by split at hf <;> omega
    have mn : min2F [.int i, .int j] = some (.int near) := by rw [← hn]; rfl
    have mx : max2F [.int i, .int j] = some (.int far) := by rw [← hf]; rfl
    by_cases hnf : (near : Int) < far
    · have i1 := ix_str x near hnx (by omega)
      have i2 := ix_str x far hfx (by omega)
      obtain ⟨q3, s3, k3, t3⟩ := cut_any x none (some (near : Int)) (by omega) ha
      obtain ⟨q4, s4, k4, t4⟩ := cut_any x (some ((near : Int) + 1)) (some (far : Int)) (by omega) ha
      obtain ⟨q5, s5, k5, t5⟩ := cut_any x (some ((far : Int) + 1)) none (by omega) ha
      have o1 : asc [x[near]] = true := asc_one ha (List.getElem_mem _)
      have o2 : asc [x[far]] = true := asc_one ha (List.getElem_mem _)
      generalize x[near] = y1 at i1 o1
      generalize x[far] = y2 at i2 o2
      have d3 := add_len q3 [y2] (by simp; omega)
      have d4 := add_len (q3 ++ [y2]) q4 (by simp; omega)
      have d5 := add_len (q3 ++ [y2] ++ q4) [y1] (by simp; omega)
      have d6 := add_len (q3 ++ [y2] ++ q4 ++ [y1]) q5 (by simp; omega)
      refine ⟨q3 ++ [y2] ++ q4 ++ [y1] ++ q5, a4, b4, ?_, by simp; omega, asc_app (asc_app (asc_app (asc_app t3 o2) t4) o1) t5, p4⟩
      unfold f_l_spoilt g_l_spoilt runIO
      simp only [seqS, ifS, boolE, binE, unE, appE, ixOwnE, popOwnE, lenOwnE, cE, varE, retS, retNS, asgS, asgOwnS, parS, parOwnS, appendS, dropS, nopS, forS, forGo, seqI, range1I, range2I, enumI, rangeL, callE, callIO, callL, consA, nilA, nameT, tupT, consT, nilT, ownIxT, andE, orE, notE, andT, orT, notT, chainE, ifE, slE, someO, noO, lstE, lstF, appL, methE, isStrD, raiseS, rsIO, rsOf, own0, ofOpt, R.bind_ok, R.bind_er, R.bindS_ok, R.bindS_er, Option.bind_some, Option.map_some, List.map_cons, List.map_nil, List.cons_append, List.nil_append, List.replicate_succ, List.replicate_zero, List.getElem?_cons_zero, List.getElem?_cons_succ, List.length_cons, List.length_nil, List.set_cons_zero, List.set_cons_succ, isOwn, if_true, reduceIte, Bool.false_eq_true, Nat.reduceAdd, atI_0, atI_1, ixN_0, ixN_1, gt_int, lt_int, le_int, ge_int, add_int, sub_int, eq_int, ne_int, eq_str, ne_str, decide_true, decide_false, Nat.zero_add, l1, lf, e1, e2, e3, e4, s1, s2, d1, d2, n20, n21, eq_self, mn, mx, hnf, i1, i2, s3, s4, s5, d3, d4, d5, d6]
    · refine ⟨x, a4, b4, ?_, by omega, ha, p4⟩
      unfold f_l_spoilt g_l_spoilt runIO
      simp only [seqS, ifS, boolE, binE, unE, appE, ixOwnE, popOwnE, lenOwnE, cE, varE, retS, retNS, asgS, asgOwnS, parS, parOwnS, appendS, dropS, nopS, forS, forGo, seqI, range1I, range2I, enumI, rangeL, callE, callIO, callL, consA, nilA, nameT, tupT, consT, nilT, ownIxT, andE, orE, notE, andT, orT, notT, chainE, ifE, slE, someO, noO, lstE, lstF, appL, methE, isStrD, raiseS, rsIO, rsOf, own0, ofOpt, R.bind_ok, R.bind_er, R.bindS_ok, R.bindS_er, Option.bind_some, Option.map_some, List.map_cons, List.map_nil, List.cons_append, List.nil_append, List.replicate_succ, List.replicate_zero, List.getElem?_cons_zero, List.getElem?_cons_succ, List.length_cons, List.length_nil, List.set_cons_zero, List.set_cons_succ, isOwn, if_true, reduceIte, Bool.false_eq_true, Nat.reduceAdd, atI_0, atI_1, ixN_0, ixN_1, gt_int, lt_int, le_int, ge_int, add_int, sub_int, eq_int, ne_int, eq_str, ne_str, decide_true, decide_false, Nat.zero_add, l1, lf, e1, e2, e3, e4, s1, s2, d1, d2, n20, n21, eq_self, mn, mx, hnf]
  by_cases w3 : w = 3
  · subst w3
    have n20 : eqF (.int 3) (.int 0) = some (.bl false) := rfl
    have n21 : eqF (.int 3) (.int 1) = some (.bl false) := rfl
    have n22 : eqF (.int 3) (.int 2) = some (.bl false) := rfl
    refine ⟨q1, a4, b4, ?_, by omega, t1, p4⟩
    unfold f_l_spoilt g_l_spoilt runIO
    simp only [seqS, ifS, boolE, binE, unE, appE, ixOwnE, popOwnE, lenOwnE, cE, varE, retS, retNS, asgS, asgOwnS, parS, parOwnS, appendS, dropS, nopS, forS, forGo, seqI, range1I, range2I, enumI, rangeL, callE, callIO, callL, consA, nilA, nameT, tupT, consT, nilT, ownIxT, andE, orE, notE, andT, orT, notT, chainE, ifE, slE, someO, noO, lstE, lstF, appL, methE, isStrD, raiseS, rsIO, rsOf, own0, ofOpt, R.bind_ok, R.bind_er, R.bindS_ok, R.bindS_er, Option.bind_some, Option.map_some, List.map_cons, List.map_nil, List.cons_append, List.nil_append, List.replicate_succ, List.replicate_zero, List.getElem?_cons_zero, List.getElem?_cons_succ, List.length_cons, List.length_nil, List.set_cons_zero, List.set_cons_succ, isOwn, if_true, reduceIte, Bool.false_eq_true, Nat.reduceAdd, atI_0, atI_1, ixN_0, ixN_1, gt_int, lt_int, le_int, ge_int, add_int, sub_int, eq_int, ne_int, eq_str, ne_str, decide_true, decide_false, Nat.zero_add, l1, lf, e1, e2, e3, e4, s1, s2, d1, d2, n20, n21, n22, eq_self]
  by_cases w4 : w = 4
  · subst w4
    have n20 : eqF (.int 4) (.int 0) = some (.bl false) := rfl
    have n21 : eqF (.int 4) (.int 1) = some (.bl false) := rfl
    have n22 : eqF (.int 4) (.int 2) = some (.bl false) := rfl
    have n23 : eqF (.int 4) (.int 3) = some (.bl false) := rfl
    obtain ⟨q3, s3, k3, t3⟩ := cut_any x (some (i : Int)) none (by omega) ha
    have d3 := add_len (q1 ++ [c]) q3 (by simp; omega)
    refine ⟨q1 ++ [c] ++ q3, a4, b4, ?_, by simp; omega, asc_app (asc_app t1 hc7) t3, p4⟩
    unfold f_l_spoilt g_l_spoilt runIO
    simp only [seqS, ifS, boolE, binE, unE, appE, ixOwnE, popOwnE, lenOwnE, cE, varE, retS, retNS, asgS, asgOwnS, parS, parOwnS, appendS, dropS, nopS, forS, forGo, seqI, range1I, range2I, enumI, rangeL, callE, callIO, callL, consA, nilA, nameT, tupT, consT, nilT, ownIxT, andE, orE, notE, andT, orT, notT, chainE, ifE, slE, someO, noO, lstE, lstF, appL, methE, isStrD, raiseS, rsIO, rsOf, own0, ofOpt, R.bind_ok, R.bind_er, R.bindS_ok, R.bindS_er, Option.bind_some, Option.map_some, List.map_cons, List.map_nil, List.cons_append, List.nil_append, List.replicate_succ, List.replicate_zero, List.getElem?_cons_zero, List.getElem?_cons_succ, List.length_cons, List.length_nil, List.set_cons_zero, List.set_cons_succ, isOwn, if_true, reduceIte, Bool.false_eq_true, Nat.reduceAdd, atI_0, atI_1, ixN_0, ixN_1, gt_int, lt_int, le_int, ge_int, add_int, sub_int, eq_int, ne_int, eq_str, ne_str, decide_true, decide_false, Nat.zero_add, l1, lf, e1, e2, e3, e4, s1, s2, s3, d1, d2, d3, n20, n21, n22, n23, eq_self]
  have n20 : eqF (.int w) (.int 0) = some (.bl false) := by rw [eq_int, decide_eq_false w0]
  have n21 : eqF (.int w) (.int 1) = some (.bl false) := by rw [eq_int, decide_eq_false w1]
  have n22 : eqF (.int w) (.int 2) = some (.bl false) := by rw [eq_int, decide_eq_false w2]
  have n23 : eqF (.int w) (.int 3) = some (.bl false) := by rw [eq_int, decide_eq_false w3]
  have n24 : eqF (.int w) (.int 4) = some (.bl false) := by rw [eq_int, decide_eq_false w4]
  by_cases w5 : w = 5
  · have n25 : eqF (.int w) (.int 5) = some (.bl true) := by rw [eq_int, decide_eq_true w5]
    have d3 := add_len x [c] (by simp; omega)
    refine ⟨x ++ [c], a4, b4, ?_, by simp; omega, asc_app ha hc7, p4⟩
    unfold f_l_spoilt g_l_spoilt runIO
    simp only [seqS, ifS, boolE, binE, unE, appE, ixOwnE, popOwnE, lenOwnE, cE, varE, retS, retNS, asgS, asgOwnS, parS, parOwnS, appendS, dropS, nopS, forS, forGo, seqI, range1I, range2I, enumI, rangeL, callE, callIO, callL, consA, nilA, nameT, tupT, consT, nilT, ownIxT, andE, orE, notE, andT, orT, notT, chainE, ifE, slE, someO, noO, lstE, lstF, appL, methE, isStrD, raiseS, rsIO, rsOf, own0, ofOpt, R.bind_ok, R.bind_er, R.bindS_ok, R.bindS_er, Option.bind_some, Option.map_some, List.map_cons, List.map_nil, List.cons_append, List.nil_append, List.replicate_succ, List.replicate_zero, List.getElem?_cons_zero, List.getElem?_cons_succ, List.length_cons, List.length_nil, List.set_cons_zero, List.set_cons_succ, isOwn, if_true, reduceIte, Bool.false_eq_true, Nat.reduceAdd, atI_0, atI_1, ixN_0, ixN_1, gt_int, lt_int, le_int, ge_int, add_int, sub_int, eq_int, ne_int, eq_str, ne_str, decide_true, decide_false, Nat.zero_add, l1, lf, e1, e2, e3, e4, s1, s2, d1, d2, d3, n20, n21, n22, n23, n24, n25]
  · have n25 : eqF (.int w) (.int 5) = some (.bl false) := by rw [eq_int, decide_eq_false w5]
    have d3 := add_len q1 q2 (by omega)
    refine ⟨q1 ++ q2, a4, b4, ?_, by simp; omega, asc_app t1 t2, p4⟩
    unfold f_l_spoilt g_l_spoilt runIO
    simp only [seqS, ifS, boolE, binE, unE, appE, ixOwnE, popOwnE, lenOwnE, cE, varE, retS, retNS, asgS, asgOwnS, parS, parOwnS, appendS, dropS, nopS, forS, forGo, seqI, range1I, range2I, enumI, rangeL, callE, callIO, callL, consA, nilA, nameT, tupT, consT, nilT, ownIxT, andE, orE, notE, andT, orT, notT, chainE, ifE, slE, someO, noO, lstE, lstF, appL, methE, isStrD, raiseS, rsIO, rsOf, own0, ofOpt, R.bind_ok, R.bind_er, R.bindS_ok, R.bindS_er, Option.bind_some, Option.map_some, List.map_cons, List.map_nil, List.cons_append, List.nil_append, List.replicate_succ, List.replicate_zero, List.getElem?_cons_zero, List.getElem?_cons_succ, List.length_cons, List.length_nil, List.set_cons_zero, List.set_cons_succ, isOwn, if_true, reduceIte, Bool.false_eq_true, Nat.reduceAdd, atI_0, atI_1, ixN_0, ixN_1, gt_int, lt_int, le_int, ge_int, add_int, sub_int, eq_int, ne_int, eq_str, ne_str, decide_true, decide_false, Nat.zero_add, l1, lf, e1, e2, e3, e4, s1, s2, d1, d2, d3, n20, n21, n22, n23, n24, n25]
end K26
end L2
set_option Elab.async false
set_option linter.all false
set_option maxRecDepth 100000
set_option maxHeartbeats 2000000
namespace L2
namespace K26
open PySem PySem.Spec PyProof.Rows PL
section
variable {P : Program} {w : World} {K : PySem.W.Frag} {mg : Str → Option Value} {base : Heap}
/-! _law_right -/
def g_l_right : GS := (seqS (asgS (callIO 0 1 f_l_drawn nilA) (nameT 1))
    (seqS (asgS (callE 1 f_l_slip_text (consA (varE 1) nilA)) (nameT 2))
    (seqS (ifS (orT (boolE (binE neF (appE reprF (consA (lstE (lstF (consA (callE 1 f_slip_text (consA (varE 1) nilA)) (consA (callE 1 f_slip_text (consA (varE 1) nilA)) (consA (callE 1 f_slip_of_text (consA (varE 2) nilA)) nilA))))) nilA)) (appE reprF (consA (lstE (lstF (consA (varE 2) (consA (varE 2) (consA (varE 1) nilA))))) nilA)))) (orT (boolE (binE isNotF (callE 1 f_is_slip (consA (varE 1) nilA)) (cE (.bl true)))) (notT (boolE (callE 1 f_l_text_right (consA (callIO 0 1 f_l_body nilA) nilA)))))) (retS (cE (.bl false))) nopS)
    (seqS (forS (range1I (consA (cE (.int 8)) nilA)) (nameT 3) (seqS (asgS (callIO 0 2 f_l_spoilt (consA (varE 2) nilA)) (nameT 9))
    (seqS (ifS (notT (boolE (callE 1 f_l_text_right (consA (varE 9) nilA)))) (retS (cE (.bl false))) nopS)
    (ifS (andT (boolE (binE eqF (appE lenF (consA (varE 9) nilA)) (appE lenF (consA (varE 2) nilA)))) (andT (boolE (chainE ltF leF (cE (.int 0)) (appE lenF (consA (lstE (lcE [4] (range1I (consA (appE lenF (consA (varE 2) nilA)) nilA)) (nameT 4) (boolE (binE neF (binE ixF (varE 9) (varE 4)) (binE ixF (varE 2) (varE 4)))) (varE 4))) nilA)) (cE (.int 2)))) (boolE (binE isNotF (callE 1 f_slip_of_text (consA (varE 9) nilA)) (cE .non))))) (retS (cE (.bl false))) nopS))))
    (seqS (asgS (callIO 0 2 f_l_draw (consA (cE (.int 6)) nilA)) (nameT 4))
    (seqS (asgS (callIO 0 2 f_l_pick (consA (lstE (lstF (consA (cE .non) (consA (cE (.bl true)) (consA (cE (.int 100)) (consA (unE negF (cE (.int 1))) (consA (cE (.int 3)) (consA (cE (.str "")) (consA (cE (.str "Ann")) (consA (binE mulF (cE (.str "z")) (cE (.int 13))) (consA (binE ixF (varE 1) (cE (.int 2))) (consA (binE ixF (varE 1) (cE (.int 3))) (consA (cE (.str "slop")) (consA (appE tupF (consA (cE (.str "a")) nilA)) nilA)))))))))))))) nilA)) (nameT 5))
    (seqS (asgS (callIO 0 2 f_l_pick (consA (lstE (lstF (consA (binE addF (binE addF (slE (varE 1) noO (someO (varE 4))) (appE tupF (consA (varE 5) nilA))) (slE (varE 1) (someO (binE addF (varE 4) (cE (.int 1)))) noO)) (consA (slE (varE 1) noO (someO (cE (.int 5)))) (consA (binE addF (varE 1) (appE tupF (consA (cE (.int 0)) nilA))) (consA (lstE (appL listF (consA (varE 1) nilA))) (consA (cE .non) nilA))))))) nilA)) (nameT 6))
    (seqS (asgS (callE 1 f_l_is_slip (consA (varE 6) nilA)) (nameT 7))
    (seqS (ifS (orT (boolE (binE neF (appE reprF (consA (lstE (lstF (consA (callE 1 f_is_slip (consA (varE 6) nilA)) (consA (callE 1 f_is_slip (consA (varE 6) nilA)) nilA)))) nilA)) (appE reprF (consA (lstE (lstF (consA (varE 7) (consA (varE 7) nilA)))) nilA)))) (andT (notT (boolE (varE 7))) (boolE (binE neF (heardE (some "told") hd_l (callE 1 f_slip_text (consA (varE 6) nilA))) (lstE (lstF (consA (cE (.str "slip")) (consA (appE reprF (consA (varE 6) nilA)) (consA (cE (.bl true)) nilA))))))))) (retS (cE (.bl false))) nopS)
    (seqS (asgS (methE joinF (cE (.str "")) (consA (lstE (lcE [3] (range1I (consA (callIO 0 2 f_l_draw (consA (cE (.int 60)) nilA)) nilA)) (nameT 3) yesT (callIO 0 2 f_l_pick (consA (lstE (appL listF (consA (cE (.str "ab z09~ !Q")) nilA))) nilA)))) nilA)) (nameT 8))
    (retS (andE (binE eqF (appE reprF (consA (lstE (lstF (consA (callE 1 f_check_of (consA (varE 8) nilA)) (consA (callE 1 f_check_of (consA (varE 8) nilA)) nilA)))) nilA)) (appE reprF (consA (binE mulF (lstE (lstF (consA (callE 1 f_l_check (consA (varE 8) nilA)) nilA))) (cE (.int 2))) nilA))) (callE 1 f_l_text_right (consA (varE 8) nilA))))))))))))))
def f_l_right := runIO g_l_right 9
theorem ok_l_right (T : Tx K mg) (B : Bx T base) : FnG P w K mg base 8 T.a_l_right T.fd_l_right ["pot"] (spIO K mg T.tabs 1 f_l_right) :=
  io_GL T.F_l_right sc_l_right rfl rfl fun A outer s H E a hr hgd => by
    have hu := hr.units
    have hur := room100 hr
    exact ((SXs.cons (SX.set (EX.callIO (ok_l_drawn T) (hr.mono (by decide)) hgd T.g_l_drawn T.k_l_drawn T.b_l_drawn pass_cx (pv 0) AX.nil) (ioX (by decide)) (fun _ h => ps_set (i := 1) sc_l_right.nd rfl (Or.inl rfl) h))
    (SXs.cons (SX.set (EX.call (ok_l_slip_text T) (hr.mono (by decide)) hgd T.g_l_slip_text T.k_l_slip_text T.b_l_slip_text pass_cx (AX.cons (EX.var (ioX (by decide)) (pv 1)) AX.nil)) (ioX (by decide)) (fun _ h => ps_set (i := 2) sc_l_right.nd rfl (Or.inr rfl) h))
    (SXs.cons (SX.ifS (TX.w (WX.or (TX.cmp o2_ne (op_neP hu) (EX.callB ol_repr (cr_repr hgd hur) T.n_repr boot_repr' (AX.cons (LX.ex (LX.lst (AX.cons (EX.call (FnG.of (ok_slip_text T)) (hr.mono (by decide)) hgd T.g_slip_text T.k_slip_text T.b_slip_text pass_cx (AX.cons (EX.var (ioX (by decide)) (pv 1)) AX.nil)) (AX.cons (EX.callK (FnG.of (ok_slip_text T)) (hr.mono (by decide)) hgd T.g_slip_text T.k_slip_text T.bk_slip_text pass_cx (AKX.cons (EX.var (ioX (by decide)) (pv 1)) AKX.nil)) (AX.cons (EX.call (FnG.of (ok_slip_of_text T)) (hr.mono (by decide)) hgd T.g_slip_of_text T.k_slip_of_text T.b_slip_of_text pass_cx (AX.cons (EX.var (ioX (by decide)) (pv 2)) AX.nil)) AX.nil))))) AX.nil)) (EX.callB ol_repr (cr_repr hgd hur) T.n_repr boot_repr' (AX.cons (LX.ex (LX.lst (AX.cons (EX.var (ioX (by decide)) (pv 2)) (AX.cons (EX.var (ioX (by decide)) (pv 2)) (AX.cons (EX.var (ioX (by decide)) (pv 1)) AX.nil))))) AX.nil))) (WX.or (TX.cmp o2_isNot op_isNotP (EX.call (FnG.of (ok_is_slip T)) (hr.mono (by decide)) hgd T.g_is_slip T.k_is_slip T.b_is_slip pass_cx (AX.cons (EX.var (ioX (by decide)) (pv 1)) AX.nil)) EX.bl) (WX.or1 (TX.not (TX.val (EX.call (ok_l_text_right T) (hr.mono (by decide)) hgd T.g_l_text_right T.k_l_text_right T.b_l_text_right pass_cx (AX.cons (EX.callIO (ok_l_body T) (hr.mono (by decide)) hgd T.g_l_body T.k_l_body T.b_l_body pass_cx (pv 0) AX.nil) AX.nil)))))))) (SXs.one (SX.ret EX.bl)) SXs.nil)
    (SXs.cons (SX.for own_cx rfl (IX.range1 (AX.cons EX.int AX.nil) T.n_range) (TGX.name (ioX (by decide)) (pg_name (i := 3) sc_l_right.nd rfl (Or.inl rfl))) (SXs.cons (SX.set (EX.callIO (ok_l_spoilt T) (hr.mono (by decide)) hgd T.g_l_spoilt T.k_l_spoilt T.b_l_spoilt pass_cx (pv 0) (AX.cons (EX.var (ioX (by decide)) (pv 2)) AX.nil)) (ioX (by decide)) (fun _ h => ps_set (i := 9) sc_l_right.nd rfl (Or.inr rfl) h))
    (SXs.cons (SX.ifS (TX.not (TX.val (EX.call (ok_l_text_right T) (hr.mono (by decide)) hgd T.g_l_text_right T.k_l_text_right T.b_l_text_right pass_cx (AX.cons (EX.var (ioX (by decide)) (pv 9)) AX.nil)))) (SXs.one (SX.ret EX.bl)) SXs.nil)
    (SXs.one (SX.ifS (TX.w (WX.and (TX.cmp o2_eq (op_eqP hu) (EX.callB ol_len cr_lenP T.n_len boot_len' (AX.cons (EX.var (ioX (by decide)) (pv 9)) AX.nil)) (EX.callB ol_len cr_lenP T.n_len boot_len' (AX.cons (EX.var (ioX (by decide)) (pv 2)) AX.nil))) (WX.and (TX.chain (o2_ord _ _) op_ltP (o2_ord _ _) op_leP EX.int (EX.callB ol_len cr_lenP T.n_len boot_len' (AX.cons (LX.ex (LX.lc (own := [("at", 4)]) rfl sc_l_right.nd (IX.range1 (AX.cons (EX.callB ol_len cr_lenP T.n_len boot_len' (AX.cons (EX.var (ioX (by decide)) (pv 2)) AX.nil)) AX.nil) T.n_range) (blkOk_by (N := n_l_right) (sc := (defScope s_l_right)) (by decide +kernel)) (ioXs (by decide)) (by decide) (fun _ _ _ _ _ => (TGX.name (ioX (by decide)) (pg_name (i := 4) sc_l_right.nd rfl (by first | exact Or.inl rfl | exact Or.inr rfl)))) (fun _ _ _ _ _ => (TXS.one (TX.cmp o2_ne (op_neP hu) (EX.ix o2_ix ix_seq (EX.var (ioX (by decide)) (pv 9)) (EX.var (ioX (by decide)) (pv 4))) (EX.ix o2_ix ix_seq (EX.var (ioX (by decide)) (pv 2)) (EX.var (ioX (by decide)) (pv 4)))))) (fun _ _ _ _ _ => (EX.var (ioX (by decide)) (pv 4))))) AX.nil)) EX.int) (WX.and1 (TX.cmp o2_isNot op_isNotP (EX.call (FnG.of (ok_slip_of_text T)) (hr.mono (by decide)) hgd T.g_slip_of_text T.k_slip_of_text T.b_slip_of_text pass_cx (AX.cons (EX.var (ioX (by decide)) (pv 9)) AX.nil)) EX.non))))) (SXs.one (SX.ret EX.bl)) SXs.nil)))))
    (SXs.cons (SX.set (EX.callIO (ok_l_draw T) (hr.mono (by decide)) hgd T.g_l_draw T.k_l_draw T.b_l_draw pass_cx (pv 0) (AX.cons EX.int AX.nil)) (ioX (by decide)) (fun _ h => ps_set (i := 4) sc_l_right.nd rfl (Or.inl rfl) h))
    (SXs.cons (SX.set (EX.callIO (ok_l_pick T) (hr.mono (by decide)) hgd T.g_l_pick T.k_l_pick T.b_l_pick pass_cx (pv 0) (AX.cons (LX.ex (LX.lst (AX.cons EX.non (AX.cons EX.bl (AX.cons EX.int (AX.cons (EX.un o1_neg un_neg EX.int) (AX.cons EX.int (AX.cons EX.str (AX.cons EX.str (AX.cons (EX.bin o2_mul op_mulP EX.str EX.int) (AX.cons (EX.ix o2_ix ix_seq (EX.var (ioX (by decide)) (pv 1)) EX.int) (AX.cons (EX.ix o2_ix ix_seq (EX.var (ioX (by decide)) (pv 1)) EX.int) (AX.cons EX.str (AX.cons (EX.tup (AX.cons EX.str AX.nil)) AX.nil)))))))))))))) AX.nil)) (ioX (by decide)) (fun _ h => ps_set (i := 5) sc_l_right.nd rfl (Or.inl rfl) h))
    (SXs.cons (SX.set (EX.callIO (ok_l_pick T) (hr.mono (by decide)) hgd T.g_l_pick T.k_l_pick T.b_l_pick pass_cx (pv 0) (AX.cons (LX.ex (LX.lst (AX.cons (EX.bin o2_add op_addP (EX.bin o2_add op_addP (EX.slice (EX.var (ioX (by decide)) (pv 1)) OX.none (OX.some (EX.var (ioX (by decide)) (pv 4)))) (EX.tup (AX.cons (EX.var (ioX (by decide)) (pv 5)) AX.nil))) (EX.slice (EX.var (ioX (by decide)) (pv 1)) (OX.some (EX.bin o2_add op_addP (EX.var (ioX (by decide)) (pv 4)) EX.int)) OX.none)) (AX.cons (EX.slice (EX.var (ioX (by decide)) (pv 1)) OX.none (OX.some EX.int)) (AX.cons (EX.bin o2_add op_addP (EX.var (ioX (by decide)) (pv 1)) (EX.tup (AX.cons EX.int AX.nil))) (AX.cons (LX.ex (LX.callTy (ol_list rfl) (cr_listP rfl) T.n_list boot_list' (AX.cons (EX.var (ioX (by decide)) (pv 1)) AX.nil))) (AX.cons EX.non AX.nil))))))) AX.nil)) (ioX (by decide)) (fun _ h => ps_set (i := 6) sc_l_right.nd rfl (Or.inr rfl) h))
    (SXs.cons (SX.set (EX.call (ok_l_is_slip T) (hr.mono (by decide)) hgd T.g_l_is_slip T.k_l_is_slip T.b_l_is_slip pass_cx (AX.cons (EX.var (ioX (by decide)) (pv 6)) AX.nil)) (ioX (by decide)) (fun _ h => ps_set (i := 7) sc_l_right.nd rfl (Or.inl rfl) h))
    (SXs.cons (SX.ifS (TX.w (WX.or (TX.cmp o2_ne (op_neP hu) (EX.callB ol_repr (cr_repr hgd hur) T.n_repr boot_repr' (AX.cons (LX.ex (LX.lst (AX.cons (EX.call (FnG.of (ok_is_slip T)) (hr.mono (by decide)) hgd T.g_is_slip T.k_is_slip T.b_is_slip pass_cx (AX.cons (EX.var (ioX (by decide)) (pv 6)) AX.nil)) (AX.cons (EX.callK (FnG.of (ok_is_slip T)) (hr.mono (by decide)) hgd T.g_is_slip T.k_is_slip T.bk_is_slip pass_cx (AKX.cons (EX.var (ioX (by decide)) (pv 6)) AKX.nil)) AX.nil)))) AX.nil)) (EX.callB ol_repr (cr_repr hgd hur) T.n_repr boot_repr' (AX.cons (LX.ex (LX.lst (AX.cons (EX.var (ioX (by decide)) (pv 7)) (AX.cons (EX.var (ioX (by decide)) (pv 7)) AX.nil)))) AX.nil))) (WX.or1 (TX.w (WX.and (TX.not (TX.val (EX.var (ioX (by decide)) (pv 7)))) (WX.and1 (TX.cmp o2_ne (op_neP hu) (EX.heard (k := 4) (l := T.cl) (ini := (some "none")) (wr := (some "told")) T.F_l_heard sc_l_heard T.b_l_heard rfl (fun cdg => (HC.cons T.xm_InvalidSlip rfl rfl (IT.lst (ITs.cons IT.str (ITs.cons (IT.repr hgd (room103 hr) rfl T.n_repr (IT.fld T.xx_InvalidSlip T.xn_InvalidSlip_value rfl (Or.inl rfl))) (ITs.cons (IT.isi T.xi_InvalidSlip_ContestError T.xm_ContestError rfl rfl (Or.inl rfl) rfl T.n_isinstance) ITs.nil)))) (fun _ => rfl) (HC.cons T.xm_InvalidText rfl rfl (IT.lst (ITs.cons IT.str (ITs.cons (IT.repr hgd (room103 hr) rfl T.n_repr (IT.fld T.xx_InvalidText T.xn_InvalidText_value rfl (Or.inl rfl))) (ITs.cons (IT.isi T.xi_InvalidText_ContestError T.xm_ContestError rfl rfl (Or.inl rfl) rfl T.n_isinstance) ITs.nil)))) (fun _ => rfl) HC.nil))) T.exm T.clm rfl rfl rfl rfl rfl (Or.inl rfl) rfl rfl rfl rfl .lst .lst (fun _ => rfl) (fun _ => rfl) T.g_l_heard T.k_l_heard B.b_l_right rfl T.tm_l_right T.tu_l_right (hr.mono (by decide)) (LamX.lamS_by rfl) rfl (fun _ _ _ _ _ => rfl) (fun A outer s H E f c' hr2 => (have hu := hr2.units; (EX.callN (ok_slip_text T) (hr2.mono (by decide)) T.g_slip_text T.k_slip_text T.b_slip_text (passAt takes_lam) (AX.cons (EX.var (ioX (by decide)) (pv 6)) AX.nil))))) (LX.ex (LX.lst (AX.cons EX.str (AX.cons (EX.callB ol_repr (cr_repr hgd hur) T.n_repr boot_repr' (AX.cons (EX.var (ioX (by decide)) (pv 6)) AX.nil)) (AX.cons EX.bl AX.nil)))))))))))) (SXs.one (SX.ret EX.bl)) SXs.nil)
    (SXs.cons (SX.set (EX.methS om_join PySem.F.plainAttrs_str PySem.F.slot_str_join PySem.F.type_str_join mt_join EX.str (AX.cons (LX.ex (LX.lc (own := [("turn", 3)]) rfl sc_l_right.nd (IX.range1 (AX.cons (EX.callIO (ok_l_draw T) (hr.mono (by decide)) hgd T.g_l_draw T.k_l_draw T.b_l_draw pass_cx (pv 0) (AX.cons EX.int AX.nil)) AX.nil) T.n_range) (blkOk_by (N := n_l_right) (sc := (defScope s_l_right)) (by decide +kernel)) (ioXs (by decide)) (by decide) (fun _ _ _ _ _ => (TGX.name (ioX (by decide)) (pg_name (i := 3) sc_l_right.nd rfl (by first | exact Or.inl rfl | exact Or.inr rfl)))) (fun _ _ _ _ _ => TXS.nil) (fun _ _ _ _ _ => (EX.callIO (ok_l_pick T) (hr.mono (by decide)) hgd T.g_l_pick T.k_l_pick T.b_l_pick pass_W0 (pv 0) (AX.cons (LX.ex (LX.callTy (ol_list rfl) (cr_listP rfl) T.n_list boot_list' (AX.cons EX.str AX.nil))) AX.nil))))) AX.nil)) (ioX (by decide)) (fun _ h => ps_set (i := 8) sc_l_right.nd rfl (Or.inl rfl) h))
    (SXs.one (SX.ret (EX.and (EX.cmp o2_eq (op_eqP hu) (EX.callB ol_repr (cr_repr hgd hur) T.n_repr boot_repr' (AX.cons (LX.ex (LX.lst (AX.cons (EX.call (FnG.of (ok_check_of T)) (hr.mono (by decide)) hgd T.g_check_of T.k_check_of T.b_check_of pass_cx (AX.cons (EX.var (ioX (by decide)) (pv 8)) AX.nil)) (AX.cons (EX.callK (FnG.of (ok_check_of T)) (hr.mono (by decide)) hgd T.g_check_of T.k_check_of T.bk_check_of pass_cx (AKX.cons (EX.var (ioX (by decide)) (pv 8)) AKX.nil)) AX.nil)))) AX.nil)) (EX.callB ol_repr (cr_repr hgd hur) T.n_repr boot_repr' (AX.cons (EX.bin o2_mul op_mulP (LX.ex (LX.lst (AX.cons (EX.call (ok_l_check T) (hr.mono (by decide)) hgd T.g_l_check T.k_l_check T.b_l_check pass_cx (AX.cons (EX.var (ioX (by decide)) (pv 8)) AX.nil)) AX.nil))) EX.int) AX.nil))) (EX.one (EX.call (ok_l_text_right T) (hr.mono (by decide)) hgd T.g_l_text_right T.k_l_text_right T.b_l_text_right pass_cx (AX.cons (EX.var (ioX (by decide)) (pv 8)) AX.nil)))))))))))))))))
end
end K26
end L2
set_option linter.all false
set_option maxRecDepth 100000
set_option maxHeartbeats 2000000
namespace L2
namespace K26
open PySem PySem.Spec PL TL
open _root_.SX (S S_len S_cat S_tl S_inj split_S join_S num_S int_S)
/-! _law_right: its first half -/
section
variable {n t m : Nat} {one other : List Nat}
theorem slip_back (h : Slip n one other t m) : f_slip_in [.str (S (textL n one other t m))] = .ok (slipD n one other t m) := by
  have hl := (text_len h).2
  have pt := parts_text (n := n) (m := m) h.t (isName_free h.nm) (isName_free h.nm')
  have d0 := numD_numL h.n
  have d4 := numD_numL h.m
  have z := slip_in_six (textL n one other t m) _ _ _ _ _ _ (by omega) pt h.t rfl (z := textL n one other t m) (b := true) (by rw [d0, d4]; exact h.is) (fun _ => by rw [d0, d4]; exact x_text_of h.good)
  rw [z, d0, d4, if_pos (by rw [decide_eq_true rfl]; rfl)]
  rfl
/-- one or two signs otherwise: none -/
theorem near_none (h : Slip n one other t m) {l : List Nat} {d : D} (hl : l.length = (textL n one other t m).length) (hd : 0 < dif l (textL n one other t m)) (h2 : dif l (textL n one other t m) ≤ 2) (ha : Ans l d) : d = .non := by
  rcases ha with e | ⟨n', one', other', t', m', h', _, rfl⟩
  · exact e
  · exfalso
    have g1 := bodyL_len h.good
    have b1 := body_asc h
    have b2 := body_asc h'
    unfold textL at hl hd h2
    rw [List.length_append, List.length_append, List.length_cons, List.length_cons, chk_len, chk_len] at hl
    by_cases e : bodyL n' one' other' t' m' = bodyL n one other t m
    · rw [e, dif_self] at hd
      omega
    · have := three (by omega) (Bd.of b2) (Bd.of b1) (by omega) e
      omega
end
theorem mul_text : True := trivial
def R1 : GS := asgS (callIO 0 1 f_l_drawn nilA) (nameT 1)
def R2 : GS := asgS (callE 1 f_l_slip_text (consA (varE 1) nilA)) (nameT 2)
def R3 : GS := (ifS (orT (boolE (binE neF (appE reprF (consA (lstE (lstF (consA (callE 1 f_slip_text (consA (varE 1) nilA)) (consA (callE 1 f_slip_text (consA (varE 1) nilA)) (consA (callE 1 f_slip_of_text (consA (varE 2) nilA)) nilA))))) nilA)) (appE reprF (consA (lstE (lstF (consA (varE 2) (consA (varE 2) (consA (varE 1) nilA))))) nilA)))) (orT (boolE (binE isNotF (callE 1 f_is_slip (consA (varE 1) nilA)) (cE (.bl true)))) (notT (boolE (callE 1 f_l_text_right (consA (callIO 0 1 f_l_body nilA) nilA)))))) (retS (cE (.bl false))) nopS)
def R4l : GE (List D) := (lcE [4] (range1I (consA (appE lenF (consA (varE 2) nilA)) nilA)) (nameT 4) (boolE (binE neF (binE ixF (varE 9) (varE 4)) (binE ixF (varE 2) (varE 4)))) (varE 4))
def R4b : GS := (seqS (asgS (callIO 0 2 f_l_spoilt (consA (varE 2) nilA)) (nameT 9))
    (seqS (ifS (notT (boolE (callE 1 f_l_text_right (consA (varE 9) nilA)))) (retS (cE (.bl false))) nopS)
    (ifS (andT (boolE (binE eqF (appE lenF (consA (varE 9) nilA)) (appE lenF (consA (varE 2) nilA)))) (andT (boolE (chainE ltF leF (cE (.int 0)) (appE lenF (consA (lstE R4l) nilA)) (cE (.int 2)))) (boolE (binE isNotF (callE 1 f_slip_of_text (consA (varE 9) nilA)) (cE .non))))) (retS (cE (.bl false))) nopS)))
def R4 : GS := forS (range1I (consA (cE (.int 8)) nilA)) (nameT 3) R4b
section
variable {n t m : Nat} {one other : List Nat} {a b : Int}
theorem R12_ok (hp : PotOk a b) : ∃ (n : Nat) (one other : List Nat) (t m : Nat) (a' b' : Int), Slip n one other t m ∧ PotOk a' b' ∧
    seqS R1 R2 [.own [.int a, .int b], .un, .un, .un, .un, .un, .un, .un, .un, .un] = .nx [.own [.int a', .int b'], .d (slipD n one other t m), .d (.str (S (textL n one other t m))), .un, .un, .un, .un, .un, .un, .un] := by
  obtain ⟨n, one, other, t, m, a1, b1, sl, e1, p1⟩ := x_l_drawn hp
  have e2 := x_l_slip_text sl.good
  refine ⟨n, one, other, t, m, a1, b1, sl, p1, ?_⟩
  unfold R1 R2
  generalize slipD n one other t m = d at e1 e2
  simp only [seqS, ifS, boolE, binE, unE, appE, ixOwnE, popOwnE, lenOwnE, cE, varE, retS, retNS, asgS, asgOwnS, parS, parOwnS, appendS, dropS, nopS, forS, forGo, seqI, range1I, range2I, enumI, rangeL, callE, callIO, callL, consA, nilA, nameT, tupT, consT, nilT, ownIxT, andE, orE, notE, andT, orT, notT, chainE, ifE, slE, someO, noO, lstE, lstF, appL, methE, isStrD, raiseS, rsIO, rsOf, own0, ofOpt, R.bind_ok, R.bind_er, R.bindS_ok, R.bindS_er, Option.bind_some, Option.map_some, List.map_cons, List.map_nil, List.cons_append, List.nil_append, List.replicate_succ, List.replicate_zero, List.getElem?_cons_zero, List.getElem?_cons_succ, List.length_cons, List.length_nil, List.set_cons_zero, List.set_cons_succ, isOwn, if_true, reduceIte, Bool.false_eq_true, Nat.reduceAdd, atI_0, atI_1, ixN_0, ixN_1, gt_int, lt_int, le_int, ge_int, add_int, sub_int, eq_int, ne_int, eq_str, ne_str, decide_true, decide_false, Nat.zero_add, e1, e2]
theorem R3_ok (sl : Slip n one other t m) (hp : PotOk a b) : ∃ a' b' : Int, PotOk a' b' ∧
    R3 [.own [.int a, .int b], .d (slipD n one other t m), .d (.str (S (textL n one other t m))), .un, .un, .un, .un, .un, .un, .un] = .nx [.own [.int a', .int b'], .d (slipD n one other t m), .d (.str (S (textL n one other t m))), .un, .un, .un, .un, .un, .un, .un] := by
  obtain ⟨l, a1, b1, e1, hl, ha, p1⟩ := x_l_body hp
  have e2 := x_l_text_right l hl ha
  have tl := (text_len sl).2
  have ta := text_asc sl
  have c1 := x_slip_text sl
  have c2 := x_slip_of_text (slip_back sl)
  have c3 : f_is_slip [slipD n one other t m] = .ok (.bl true) := x_is_slip sl.is
  obtain ⟨r, hr, _⟩ := (FDs.lst (.cons (fdS (k := 1) (by omega) ta) (.cons (fdS (by omega) ta) (.cons (fdSlip sl) .nil)))).repr (by decide) (by omega)
  have ib : isNotF (.bl true) (.bl true) = some (.bl false) := rfl
  have l3 : (3 : Nat) ≤ lim := by decide
  refine ⟨a1, b1, p1, ?_⟩
  generalize slipD n one other t m = d at c1 c2 c3 hr
  generalize textL n one other t m = x at c1 c2 hr
  unfold R3
  simp only [seqS, ifS, boolE, binE, unE, appE, ixOwnE, popOwnE, lenOwnE, cE, varE, retS, retNS, asgS, asgOwnS, parS, parOwnS, appendS, dropS, nopS, forS, forGo, seqI, range1I, range2I, enumI, rangeL, callE, callIO, callL, consA, nilA, nameT, tupT, consT, nilT, ownIxT, andE, orE, notE, andT, orT, notT, chainE, ifE, slE, someO, noO, lstE, lstF, appL, methE, isStrD, raiseS, rsIO, rsOf, own0, ofOpt, R.bind_ok, R.bind_er, R.bindS_ok, R.bindS_er, Option.bind_some, Option.map_some, List.map_cons, List.map_nil, List.cons_append, List.nil_append, List.replicate_succ, List.replicate_zero, List.getElem?_cons_zero, List.getElem?_cons_succ, List.length_cons, List.length_nil, List.set_cons_zero, List.set_cons_succ, isOwn, if_true, reduceIte, Bool.false_eq_true, Nat.reduceAdd, atI_0, atI_1, ixN_0, ixN_1, gt_int, lt_int, le_int, ge_int, add_int, sub_int, eq_int, ne_int, eq_str, ne_str, decide_true, decide_false, Nat.zero_add, e1, e2, c1, c2, c3, hr, ib, l3, Bool.not_true]
theorem R4l_ok (x l : List Nat) (hl : l.length = x.length) (hx : x.length ≤ 600) (p0 p1 p3 p5 p6 p7 p8 : SV) : ∃ ys : List D, ys.length = dif l x ∧ R4l [p0, p1, .d (.str (S x)), p3, .un, p5, p6, p7, p8, .d (.str (S l))] = .ok ys [p0, p1, .d (.str (S x)), p3, .un, p5, p6, p7, p8, .d (.str (S l))] := by
  have l1 : lenF [.str (S x)] = some (.int x.length) := by
    unfold lenF lenSF lenTF
    simp only [S_len]
    rw [if_pos (by unfold lim; omega)]
  have rg : range1I (consA (appE lenF (consA (varE 2) nilA)) nilA) [p0, p1, .d (.str (S x)), p3, .un, p5, p6, p7, p8, .d (.str (S l))] = .ok ((List.range x.length).map fun (i : Nat) => D.int i) [p0, p1, .d (.str (S x)), p3, .un, p5, p6, p7, p8, .d (.str (S l))] := range1_nat (by simp only [seqS, ifS, boolE, binE, unE, appE, ixOwnE, popOwnE, lenOwnE, cE, varE, retS, retNS, asgS, asgOwnS, parS, parOwnS, appendS, dropS, nopS, forS, forGo, seqI, range1I, range2I, enumI, rangeL, callE, callIO, callL, consA, nilA, nameT, tupT, consT, nilT, ownIxT, andE, orE, notE, andT, orT, notT, chainE, ifE, slE, someO, noO, lstE, lstF, appL, methE, isStrD, raiseS, rsIO, rsOf, own0, ofOpt, R.bind_ok, R.bind_er, R.bindS_ok, R.bindS_er, Option.bind_some, Option.map_some, List.map_cons, List.map_nil, List.cons_append, List.nil_append, List.replicate_succ, List.replicate_zero, List.getElem?_cons_zero, List.getElem?_cons_succ, List.length_cons, List.length_nil, List.set_cons_zero, List.set_cons_succ, isOwn, if_true, reduceIte, Bool.false_eq_true, Nat.reduceAdd, atI_0, atI_1, ixN_0, ixN_1, gt_int, lt_int, le_int, ge_int, add_int, sub_int, eq_int, ne_int, eq_str, ne_str, decide_true, decide_false, Nat.zero_add, l1]) (by omega)
  let pD : D → Bool := fun d => match d with | .int i => decide (¬ l[i.toNat]? = x[i.toNat]?) | _ => false
  refine ⟨(((List.range x.length).map fun (i : Nat) => D.int i).filter pD).map id, ?_, ?_⟩
  · rw [List.length_map, List.filter_map, List.length_map, ← cnt_dif l x hl]
    congr 1
  · refine lcE_pure (vs := [4]) pD id rg rfl (by rw [List.length_map, List.length_range]; unfold lim; omega) rfl fun d hd => ?_
    obtain ⟨i, hi, rfl⟩ := List.mem_map.mp hd
    rw [List.mem_range] at hi
    have i1 := ix_str x i hi (by omega)
    have i2 := ix_str l i (by omega) (by omega)
    have e1 : neF (.str (S [l[i]])) (.str (S [x[i]])) = some (.bl (!decide (S [l[i]] = S [x[i]]))) := rfl
    rw [S_eq] at e1
    have e2 : pD (.int i) = !decide ([l[i]] = [x[i]]) := by
      show decide (¬ l[(i : Int).toNat]? = x[(i : Int).toNat]?) = _
      rw [Int.toNat_natCast, List.getElem?_eq_getElem hi, List.getElem?_eq_getElem (show i < l.length by omega), ← decide_not]
      apply decide_eq_decide.mpr
      simp
    refine ⟨[p0, p1, .d (.str (S x)), p3, .d (.int i), p5, p6, p7, p8, .d (.str (S l))], rfl, ?_, rfl, fun _ => rfl⟩
    rw [e2]
    simp only [seqS, ifS, boolE, binE, unE, appE, ixOwnE, popOwnE, lenOwnE, cE, varE, retS, retNS, asgS, asgOwnS, parS, parOwnS, appendS, dropS, nopS, forS, forGo, seqI, range1I, range2I, enumI, rangeL, callE, callIO, callL, consA, nilA, nameT, tupT, consT, nilT, ownIxT, andE, orE, notE, andT, orT, notT, chainE, ifE, slE, someO, noO, lstE, lstF, appL, methE, isStrD, raiseS, rsIO, rsOf, own0, ofOpt, R.bind_ok, R.bind_er, R.bindS_ok, R.bindS_er, Option.bind_some, Option.map_some, List.map_cons, List.map_nil, List.cons_append, List.nil_append, List.replicate_succ, List.replicate_zero, List.getElem?_cons_zero, List.getElem?_cons_succ, List.length_cons, List.length_nil, List.set_cons_zero, List.set_cons_succ, isOwn, if_true, reduceIte, Bool.false_eq_true, Nat.reduceAdd, atI_0, atI_1, ixN_0, ixN_1, gt_int, lt_int, le_int, ge_int, add_int, sub_int, eq_int, ne_int, eq_str, ne_str, decide_true, decide_false, Nat.zero_add, i1, i2, e1]
theorem R4b_ok (sl : Slip n one other t m) (hp : PotOk a b) (i : D) (t9 : SV) : ∃ (a' b' : Int) (t9' : SV), PotOk a' b' ∧
    R4b [.own [.int a, .int b], .d (slipD n one other t m), .d (.str (S (textL n one other t m))), .d i, .un, .un, .un, .un, .un, t9] = .nx [.own [.int a', .int b'], .d (slipD n one other t m), .d (.str (S (textL n one other t m))), .d i, .un, .un, .un, .un, .un, t9'] := by
  obtain ⟨q1, q2⟩ := text_len sl
  have ta := text_asc sl
  obtain ⟨l, a1, b1, e1, hl, ha, p1⟩ := x_l_spoilt hp _ q1 q2 ta
  have e2 := x_l_text_right l hl ha
  obtain ⟨d, f1, _, f3⟩ := same_text l hl ha
  have f1 := x_slip_of_text f1
  have nn := near_none sl (l := l) (d := d)
  have l1 : ∀ z : List Nat, z.length ≤ 600 → lenF [.str (S z)] = some (.int z.length) := fun z hz => by
    unfold lenF lenSF lenTF
    simp only [S_len]
    rw [if_pos (by unfold lim; omega)]
  have l2 := l1 l hl
  have l3 := l1 (textL n one other t m) (by omega)
  refine ⟨a1, b1, .d (.str (S l)), p1, ?_⟩
  have rl := R4l_ok (textL n one other t m) l
  generalize slipD n one other t m = sD at *
  generalize textL n one other t m = x at *
  unfold R4b
  by_cases hx : l.length = x.length
  · obtain ⟨ys, y1, y2⟩ := rl hx (by omega) (.own [.int a1, .int b1]) (.d sD) (.d i) .un .un .un .un
    have hx' : ((l.length : Int) = x.length) := by omega
    have ly : lenF [.lst ys] = some (.int ys.length) := rfl
    by_cases k0 : (0 : Int) < ys.length
    · by_cases k2 : (ys.length : Int) ≤ 2
      · have hd := nn hx (by omega) (by omega) f3
        subst hd
        have ib : isNotF .non .non = some (.bl false) := rfl
        simp only [seqS, ifS, boolE, binE, unE, appE, ixOwnE, popOwnE, lenOwnE, cE, varE, retS, retNS, asgS, asgOwnS, parS, parOwnS, appendS, dropS, nopS, forS, forGo, seqI, range1I, range2I, enumI, rangeL, callE, callIO, callL, consA, nilA, nameT, tupT, consT, nilT, ownIxT, andE, orE, notE, andT, orT, notT, chainE, ifE, slE, someO, noO, lstE, lstF, appL, methE, isStrD, raiseS, rsIO, rsOf, own0, ofOpt, R.bind_ok, R.bind_er, R.bindS_ok, R.bindS_er, Option.bind_some, Option.map_some, List.map_cons, List.map_nil, List.cons_append, List.nil_append, List.replicate_succ, List.replicate_zero, List.getElem?_cons_zero, List.getElem?_cons_succ, List.length_cons, List.length_nil, List.set_cons_zero, List.set_cons_succ, isOwn, if_true, reduceIte, Bool.false_eq_true, Nat.reduceAdd, atI_0, atI_1, ixN_0, ixN_1, gt_int, lt_int, le_int, ge_int, add_int, sub_int, eq_int, ne_int, eq_str, ne_str, decide_true, decide_false, Nat.zero_add, e1, e2, l2, l3, hx', y2, ly, k0, k2, f1, ib, Bool.not_true]
      · simp only [seqS, ifS, boolE, binE, unE, appE, ixOwnE, popOwnE, lenOwnE, cE, varE, retS, retNS, asgS, asgOwnS, parS, parOwnS, appendS, dropS, nopS, forS, forGo, seqI, range1I, range2I, enumI, rangeL, callE, callIO, callL, consA, nilA, nameT, tupT, consT, nilT, ownIxT, andE, orE, notE, andT, orT, notT, chainE, ifE, slE, someO, noO, lstE, lstF, appL, methE, isStrD, raiseS, rsIO, rsOf, own0, ofOpt, R.bind_ok, R.bind_er, R.bindS_ok, R.bindS_er, Option.bind_some, Option.map_some, List.map_cons, List.map_nil, List.cons_append, List.nil_append, List.replicate_succ, List.replicate_zero, List.getElem?_cons_zero, List.getElem?_cons_succ, List.length_cons, List.length_nil, List.set_cons_zero, List.set_cons_succ, isOwn, if_true, reduceIte, Bool.false_eq_true, Nat.reduceAdd, atI_0, atI_1, ixN_0, ixN_1, gt_int, lt_int, le_int, ge_int, add_int, sub_int, eq_int, ne_int, eq_str, ne_str, decide_true, decide_false, Nat.zero_add, e1, e2, l2, l3, hx', y2, ly, k0, k2, Bool.not_true]
    · simp only [seqS, ifS, boolE, binE, unE, appE, ixOwnE, popOwnE, lenOwnE, cE, varE, retS, retNS, asgS, asgOwnS, parS, parOwnS, appendS, dropS, nopS, forS, forGo, seqI, range1I, range2I, enumI, rangeL, callE, callIO, callL, consA, nilA, nameT, tupT, consT, nilT, ownIxT, andE, orE, notE, andT, orT, notT, chainE, ifE, slE, someO, noO, lstE, lstF, appL, methE, isStrD, raiseS, rsIO, rsOf, own0, ofOpt, R.bind_ok, R.bind_er, R.bindS_ok, R.bindS_er, Option.bind_some, Option.map_some, List.map_cons, List.map_nil, List.cons_append, List.nil_append, List.replicate_succ, List.replicate_zero, List.getElem?_cons_zero, List.getElem?_cons_succ, List.length_cons, List.length_nil, List.set_cons_zero, List.set_cons_succ, isOwn, if_true, reduceIte, Bool.false_eq_true, Nat.reduceAdd, atI_0, atI_1, ixN_0, ixN_1, gt_int, lt_int, le_int, ge_int, add_int, sub_int, eq_int, ne_int, eq_str, ne_str, decide_true, decide_false, Nat.zero_add, e1, e2, l2, l3, hx', y2, ly, k0, Bool.not_true]
  · have hx' : ¬ ((l.length : Int) = x.length) := by omega
    simp only [seqS, ifS, boolE, binE, unE, appE, ixOwnE, popOwnE, lenOwnE, cE, varE, retS, retNS, asgS, asgOwnS, parS, parOwnS, appendS, dropS, nopS, forS, forGo, seqI, range1I, range2I, enumI, rangeL, callE, callIO, callL, consA, nilA, nameT, tupT, consT, nilT, ownIxT, andE, orE, notE, andT, orT, notT, chainE, ifE, slE, someO, noO, lstE, lstF, appL, methE, isStrD, raiseS, rsIO, rsOf, own0, ofOpt, R.bind_ok, R.bind_er, R.bindS_ok, R.bindS_er, Option.bind_some, Option.map_some, List.map_cons, List.map_nil, List.cons_append, List.nil_append, List.replicate_succ, List.replicate_zero, List.getElem?_cons_zero, List.getElem?_cons_succ, List.length_cons, List.length_nil, List.set_cons_zero, List.set_cons_succ, isOwn, if_true, reduceIte, Bool.false_eq_true, Nat.reduceAdd, atI_0, atI_1, ixN_0, ixN_1, gt_int, lt_int, le_int, ge_int, add_int, sub_int, eq_int, ne_int, eq_str, ne_str, decide_true, decide_false, Nat.zero_add, e1, e2, l2, l3, hx', Bool.not_true]
theorem R4go (sl : Slip n one other t m) : ∀ (is : List D) (a b : Int) (t3 t9 : SV), isOwn (some t3) = false → PotOk a b → ∃ (a' b' : Int) (t3' t9' : SV), isOwn (some t3') = false ∧ PotOk a' b' ∧
    forGo (nameT 3) R4b is [.own [.int a, .int b], .d (slipD n one other t m), .d (.str (S (textL n one other t m))), t3, .un, .un, .un, .un, .un, t9] = .nx [.own [.int a', .int b'], .d (slipD n one other t m), .d (.str (S (textL n one other t m))), t3', .un, .un, .un, .un, .un, t9']
  | [], a, b, t3, t9, h3, hp => ⟨a, b, t3, t9, h3, hp, rfl⟩
  | i :: is, a, b, t3, t9, h3, hp => by
    obtain ⟨a1, b1, t9', p1, e1⟩ := R4b_ok sl hp i t9
    obtain ⟨a2, b2, u3, u9, h3', p2, e2⟩ := R4go sl is a1 b1 (.d i) t9' rfl p1
    refine ⟨a2, b2, u3, u9, h3', p2, ?_⟩
    show (match R4b [.own [.int a, .int b], .d (slipD n one other t m), .d (.str (S (textL n one other t m))), .d i, .un, .un, .un, .un, .un, t9] with | .nx ρ2 => forGo (nameT 3) R4b is ρ2 | .ct ρ2 => forGo (nameT 3) R4b is ρ2 | .bk ρ2 => .nx ρ2 | r => r) = _
    rw [e1]
    exact e2
theorem R4_ok (sl : Slip n one other t m) (hp : PotOk a b) : ∃ (a' b' : Int) (t3' t9' : SV), isOwn (some t3') = false ∧ PotOk a' b' ∧
    R4 [.own [.int a, .int b], .d (slipD n one other t m), .d (.str (S (textL n one other t m))), .un, .un, .un, .un, .un, .un, .un] = .nx [.own [.int a', .int b'], .d (slipD n one other t m), .d (.str (S (textL n one other t m))), t3', .un, .un, .un, .un, .un, t9'] := by
  obtain ⟨a2, b2, u3, u9, h3, p2, e2⟩ := R4go sl ((List.range 8).map fun (i : Nat) => D.int i) a b .un .un rfl hp
  refine ⟨a2, b2, u3, u9, h3, p2, ?_⟩
  have rg : range1I (consA (cE (.int 8)) nilA) [.own [.int a, .int b], .d (slipD n one other t m), .d (.str (S (textL n one other t m))), .un, .un, .un, .un, .un, .un, .un] = .ok ((List.range 8).map fun (i : Nat) => D.int i) [.own [.int a, .int b], .d (slipD n one other t m), .d (.str (S (textL n one other t m))), .un, .un, .un, .un, .un, .un, .un] := range1_nat (n := 8) rfl (by decide)
  unfold R4 forS
  rw [rg]
  exact e2
end
end K26
end L2
set_option linter.all false
set_option maxRecDepth 100000
set_option maxHeartbeats 2000000
namespace L2
namespace K26
open PySem PySem.Spec PL TL
open _root_.SX (S S_len S_cat S_tl S_inj split_S join_S num_S int_S)
/-! _law_right: any value as a slip -/
theorem FDs.all {k c : Nat} : ∀ {ds : List D}, (∀ d ∈ ds, FD d k c) → FDs ds k ((c + 2) * ds.length)
  | [], _ => FDs.nil
  | d :: ds, h => by
    have := FDs.cons (h d List.mem_cons_self) (FDs.all fun e he => h e (List.mem_cons_of_mem _ he))
    rw [List.length_cons, Nat.mul_add, Nat.mul_one, Nat.add_comm]
    exact this
theorem sl_to (xs : List D) (i : Nat) (h : i ≤ xs.length) : slF (.tup xs) none (some (i : Int)) = some (.tup (xs.take i)) := by
  show some (D.tup (cutD xs none (some (i : Int)))) = _
  unfold cutD
  rw [HT.sIx_nat]
  have e : HT.sIx xs.length 0 none = 0 := rfl
  rw [e, Nat.min_eq_left h]
  rfl
theorem sl_from (xs : List D) (i : Nat) (h : i < xs.length) : slF (.tup xs) (some ((i : Int) + 1)) none = some (.tup (xs.drop (i + 1))) := by
  show some (D.tup (cutD xs (some ((i : Int) + 1)) none)) = _
  unfold cutD
  have e : HT.sIx xs.length xs.length none = xs.length := rfl
  have e2 : HT.sIx xs.length 0 (some ((i : Int) + 1)) = i + 1 := (HT.sIx_nat xs.length 0 (i + 1)).trans (Nat.min_eq_left (by omega))
  rw [e, e2, List.take_of_length_le (by rw [List.length_drop]; exact Nat.le_refl _)]
theorem add_tup {xs ys : List D} (h : xs.length + ys.length ≤ 100) : addF (.tup xs) (.tup ys) = some (.tup (xs ++ ys)) := by
  have z : tupAddF (.tup xs) (.tup ys) = some (.tup (xs ++ ys)) := by
    show (if xs.length + ys.length ≤ lim then some (D.tup (xs ++ ys)) else none) = _
    rw [if_pos (by unfold lim; omega)]
  unfold addF orF intsF strsF
  simp only [z]
def six (n : Nat) (one other : List Nat) (t m : Nat) : List D := [.str ("slip" : Str), .int n, .str (S one), .str (S other), .int t, .int m]
theorem six_is (n : Nat) (one other : List Nat) (t m : Nat) : slipD n one other t m = .tup (six n one other t m) := rfl
def OkD (d : D) : Prop := okStr d ∧ FD d 1 200
theorem okS {p : List Nat} (hl : p.length ≤ 13) (ha : asc p = true) : OkD (.str (S p)) :=
  ⟨fun x h => by cases h; exact ⟨by rw [S_len]; omega, ha⟩, (fdS (by omega) ha).up (Nat.le_refl _) (by omega)⟩
section
variable {n t m : Nat} {one other : List Nat} {a b : Int}
theorem six_ok (sl : Slip n one other t m) : ∀ d ∈ six n one other t m, OkD d := by
  have hn := sl.n
  have hm := sl.m
  have ht := sl.t
  have l1 := isName_len sl.nm
  have l2 := isName_len sl.nm'
  intro d hd
  unfold six at hd
  simp only [List.mem_cons, List.not_mem_nil, or_false] at hd
  rcases hd with rfl | rfl | rfl | rfl | rfl | rfl
  · exact okS (p := c' "slip") (by decide) (by decide)
  · exact ⟨(fun x h => by cases h), (fdNat (by omega)).up (Nat.le_refl _) (by decide)⟩
  · exact okS (by omega) (name_asc sl.nm)
  · exact okS (by omega) (name_asc sl.nm')
  · exact ⟨(fun x h => by cases h), (fdNat (by omega)).up (Nat.le_refl _) (by decide)⟩
  · exact ⟨(fun x h => by cases h), (fdNat (by omega)).up (Nat.le_refl _) (by decide)⟩
def L12 (one other : List Nat) : List D := [.non, .bl true, .int 100, .int (-1), .int 3, .str ("" : Str), .str ("Ann" : Str), .str (S (List.replicate 13 122)), .str (S one), .str (S other), .str ("slop" : Str), .tup [.str ("a" : Str)]]
theorem part_ok (sl : Slip n one other t m) : ∀ d ∈ L12 one other, OkD d := by
  have l1 := isName_len sl.nm
  have l2 := isName_len sl.nm'
  intro d hd
  unfold L12 at hd
  simp only [List.mem_cons, List.not_mem_nil, or_false] at hd
  rcases hd with rfl | rfl | rfl | rfl | rfl | rfl | rfl | rfl | rfl | rfl | rfl | rfl
  · exact ⟨(fun x h => by cases h), FD.non.up (Nat.le_refl _) (by decide)⟩
  · exact ⟨(fun x h => by cases h), FD.bl.up (Nat.le_refl _) (by decide)⟩
  · exact ⟨(fun x h => by cases h), (FD.int (by decide)).up (Nat.le_refl _) (by decide)⟩
  · exact ⟨(fun x h => by cases h), (FD.int (by decide)).up (Nat.le_refl _) (by decide)⟩
  · exact ⟨(fun x h => by cases h), (FD.int (by decide)).up (Nat.le_refl _) (by decide)⟩
  · exact okS (p := []) (by decide) (by decide)
  · exact okS (p := c' "Ann") (by decide) (by decide)
  · exact okS (p := List.replicate 13 122) (by decide) (by decide)
  · exact okS (by omega) (name_asc sl.nm)
  · exact okS (by omega) (name_asc sl.nm')
  · exact okS (p := c' "slop") (by decide) (by decide)
  · exact ⟨(fun x h => by cases h), (FDs.tup (k := 0) (.cons (FD.str (by decide) (by decide)) .nil)).up (Nat.le_refl _) (by decide)⟩
def L5 (xs : List D) (i : Nat) (part : D) : List D := [.tup (xs.take i ++ [part] ++ xs.drop (i + 1)), .tup (xs.take 5), .tup (xs ++ [.int 0]), .lst xs, .non]
structure Odd (odd : D) : Prop where
  fd : FD odd 2 3000
  same : ∃ bo : Bool, f_is_slip_value [odd] = .ok (.bl bo) ∧ f_l_is_slip [odd] = .ok (.bl bo)
theorem odd_no {odd : D} (h : isTup odd 6 = false) : ∃ bo : Bool, f_is_slip_value [odd] = .ok (.bl bo) ∧ f_l_is_slip [odd] = .ok (.bl bo) := ⟨false, x_is_slip_no odd h, x_l_is_slip_no odd h⟩
theorem odd_six {xs : List D} (h : xs.length = 6) (ho : ∀ d ∈ xs, OkD d) : ∃ bo : Bool, f_is_slip_value [.tup xs] = .ok (.bl bo) ∧ f_l_is_slip [.tup xs] = .ok (.bl bo) := by
  match xs, h with
  | [a, b, c, d, e, f], _ =>
    have hc := (ho c (by simp)).1
    have hd := (ho d (by simp)).1
    have s := same_look a b c d e f hc hd
    have z := x_l_is_slip6 a b c d e f hc hd
    exact ⟨_, s.trans z, z⟩
theorem odd_ok (sl : Slip n one other t m) {i : Nat} (hi : i < 6) {part odd : D} (hp : OkD part) (h : odd ∈ L5 (six n one other t m) i part) : Odd odd := by
  have ho := six_ok sl
  have h6 : (six n one other t m).length = 6 := rfl
  have i0 : OkD (.int 0) := ⟨(fun x h => by cases h), (FD.int (by decide)).up (Nat.le_refl _) (by decide)⟩
  have t5 : isTup (.tup ((six n one other t m).take 5)) 6 = false := rfl
  have t7 : isTup (.tup (six n one other t m ++ [.int 0])) 6 = false := rfl
  generalize six n one other t m = xs at *
  have up : ∀ {ds : List D}, (∀ d ∈ ds, OkD d) → ds.length ≤ 8 → FDs ds 1 2000 := fun {ds} h hl => by
    obtain ⟨ps, q1, q2, q3, q4⟩ := FDs.all (k := 1) (c := 200) fun d hd => (h d hd).2
    exact ⟨ps, q1, q2, q3, by omega⟩
  unfold L5 at h
  simp only [List.mem_cons, List.not_mem_nil, or_false] at h
  rcases h with rfl | rfl | rfl | rfl | rfl
  · have hm : ∀ d ∈ xs.take i ++ [part] ++ xs.drop (i + 1), OkD d := fun d hd => by
      rcases List.mem_append.mp hd with hd | hd
      · rcases List.mem_append.mp hd with hd | hd
        · exact ho d (List.mem_of_mem_take hd)
        · rw [List.mem_singleton.mp hd]; exact hp
      · exact ho d (List.mem_of_mem_drop hd)
    have hl : (xs.take i ++ [part] ++ xs.drop (i + 1)).length = 6 := by
      rw [List.length_append, List.length_append, List.length_take, List.length_drop, List.length_singleton]
      omega
    exact ⟨(up hm (by omega)).tup.up (Nat.le_refl _) (by decide), odd_six hl hm⟩
  · exact ⟨(up (fun d hd => ho d (List.mem_of_mem_take hd)) (by rw [List.length_take]; omega)).tup.up (Nat.le_refl _) (by decide), odd_no t5⟩
  · refine ⟨(up (fun d hd => ?_) (by rw [List.length_append, List.length_singleton]; omega)).tup.up (Nat.le_refl _) (by decide), odd_no t7⟩
    rcases List.mem_append.mp hd with hd | hd
    · exact ho d hd
    · rw [List.mem_singleton.mp hd]; exact i0
  · exact ⟨(up ho (by omega)).lst.up (Nat.le_refl _) (by decide), odd_no rfl⟩
  · exact ⟨FD.non.up (Nat.le_refl _) (by decide), odd_no rfl⟩
end
def R5 : GS := (asgS (callIO 0 2 f_l_draw (consA (cE (.int 6)) nilA)) (nameT 4))
def R6 : GS := (asgS (callIO 0 2 f_l_pick (consA (lstE (lstF (consA (cE .non) (consA (cE (.bl true)) (consA (cE (.int 100)) (consA (unE negF (cE (.int 1))) (consA (cE (.int 3)) (consA (cE (.str "")) (consA (cE (.str "Ann")) (consA (binE mulF (cE (.str "z")) (cE (.int 13))) (consA (binE ixF (varE 1) (cE (.int 2))) (consA (binE ixF (varE 1) (cE (.int 3))) (consA (cE (.str "slop")) (consA (appE tupF (consA (cE (.str "a")) nilA)) nilA)))))))))))))) nilA)) (nameT 5))
def R7 : GS := (asgS (callIO 0 2 f_l_pick (consA (lstE (lstF (consA (binE addF (binE addF (slE (varE 1) noO (someO (varE 4))) (appE tupF (consA (varE 5) nilA))) (slE (varE 1) (someO (binE addF (varE 4) (cE (.int 1)))) noO)) (consA (slE (varE 1) noO (someO (cE (.int 5)))) (consA (binE addF (varE 1) (appE tupF (consA (cE (.int 0)) nilA))) (consA (lstE (appL listF (consA (varE 1) nilA))) (consA (cE .non) nilA))))))) nilA)) (nameT 6))
def R8 : GS := (asgS (callE 1 f_l_is_slip (consA (varE 6) nilA)) (nameT 7))
def R9 : GS := (ifS (orT (boolE (binE neF (appE reprF (consA (lstE (lstF (consA (callE 1 f_is_slip (consA (varE 6) nilA)) (consA (callE 1 f_is_slip (consA (varE 6) nilA)) nilA)))) nilA)) (appE reprF (consA (lstE (lstF (consA (varE 7) (consA (varE 7) nilA)))) nilA)))) (andT (notT (boolE (varE 7))) (boolE (binE neF (heardE (some "told") hd_l (callE 1 f_slip_text (consA (varE 6) nilA))) (lstE (lstF (consA (cE (.str "slip")) (consA (appE reprF (consA (varE 6) nilA)) (consA (cE (.bl true)) nilA))))))))) (retS (cE (.bl false))) nopS)
section
variable {n t m : Nat} {one other : List Nat} {a b : Int}
theorem R567_ok (sl : Slip n one other t m) (hp : PotOk a b) (x t3 t9 : SV) : ∃ (a' b' : Int) (u4 u5 : SV) (odd : D), PotOk a' b' ∧ Odd odd ∧
    seqS R5 (seqS R6 R7) [.own [.int a, .int b], .d (slipD n one other t m), x, t3, .un, .un, .un, .un, .un, t9] = .nx [.own [.int a', .int b'], .d (slipD n one other t m), x, t3, u4, u5, .d odd, .un, .un, t9] := by
  obtain ⟨i, a1, b1, e1, hi, p1⟩ := x_drawN a b 6 hp (by decide)
  obtain ⟨part, a2, b2, e2, hpart, p2⟩ := x_pick a1 b1 p1 (L12 one other) (by unfold L12; simp) (by unfold L12; simp)
  obtain ⟨odd, a3, b3, e3, hodd, p3⟩ := x_pick a2 b2 p2 (L5 (six n one other t m) i part) (by unfold L5; simp) (by unfold L5; simp)
  refine ⟨a3, b3, .d (.int i), .d part, odd, p3, odd_ok sl hi (part_ok sl part hpart) hodd, ?_⟩
  have e1' : f_l_draw [.int a, .int b] [.int 6] = _ := e1
  have i2 : ixF (.tup (six n one other t m)) (.int 2) = some (.str (S one)) := rfl
  have i3 : ixF (.tup (six n one other t m)) (.int 3) = some (.str (S other)) := rfl
  have n1 : negF (.int 1) = some (.int (-1)) := rfl
  have z1 : mulF (.str ("z" : Str)) (.int 13) = some (.str (S (List.replicate 13 122))) := rfl
  have t1 : ∀ d : D, tupF [d] = some (.tup [d]) := fun _ => rfl
  have l12 : (12 : Nat) ≤ lim := by decide
  have l5 : (5 : Nat) ≤ lim := by decide
  have s1 := sl_to (six n one other t m) i (by show i ≤ 6; omega)
  have s2 := sl_from (six n one other t m) i (by show i < 6; omega)
  have s3 : slF (.tup (six n one other t m)) none (some 5) = some (.tup ((six n one other t m).take 5)) := sl_to (six n one other t m) 5 (by show 5 ≤ 6; decide)
  have lf : listF [.tup (six n one other t m)] = some (six n one other t m) := rfl
  have g1 := add_tup (xs := (six n one other t m).take i) (ys := [part]) (by rw [List.length_take]; simp; omega)
  have g2 := add_tup (xs := (six n one other t m).take i ++ [part]) (ys := (six n one other t m).drop (i + 1)) (by rw [List.length_append, List.length_take, List.length_drop]; simp; have : (six n one other t m).length = 6 := rfl; omega)
  have g3 := add_tup (xs := six n one other t m) (ys := [.int 0]) (by show 6 + 1 ≤ 100; decide)
  rw [six_is]
  unfold L12 at e2
  unfold L5 at e3
  generalize six n one other t m = xs at *
  generalize List.replicate 13 122 = r13 at *
  generalize xs.take i ++ [part] ++ xs.drop (i + 1) = w1 at *
  generalize xs.take i ++ [part] = w2 at *
  generalize xs.take 5 = w3 at *
  generalize xs ++ [.int 0] = w4 at *
  generalize xs.drop (i + 1) = w5 at *
  generalize xs.take i = w6 at *
  unfold R5 R6 R7
  simp only [seqS, ifS, boolE, binE, unE, appE, ixOwnE, popOwnE, lenOwnE, cE, varE, retS, retNS, asgS, asgOwnS, parS, parOwnS, appendS, dropS, nopS, forS, forGo, seqI, range1I, range2I, enumI, rangeL, callE, callIO, callL, consA, nilA, nameT, tupT, consT, nilT, ownIxT, andE, orE, notE, andT, orT, notT, chainE, ifE, slE, someO, noO, lstE, lstF, appL, methE, isStrD, raiseS, rsIO, rsOf, own0, ofOpt, R.bind_ok, R.bind_er, R.bindS_ok, R.bindS_er, Option.bind_some, Option.map_some, List.map_cons, List.map_nil, List.cons_append, List.nil_append, List.replicate_succ, List.replicate_zero, List.getElem?_cons_zero, List.getElem?_cons_succ, List.length_cons, List.length_nil, List.set_cons_zero, List.set_cons_succ, isOwn, if_true, reduceIte, Bool.false_eq_true, Nat.reduceAdd, atI_0, atI_1, ixN_0, ixN_1, gt_int, lt_int, le_int, ge_int, add_int, sub_int, eq_int, ne_int, eq_str, ne_str, decide_true, decide_false, Nat.zero_add, e1', i2, i3, n1, z1, t1, l12, l5, s1, s2, s3, lf, g1, g2, g3, e2, e3]
theorem R89_ok {odd : D} (ho : Odd odd) (x0 x1 x2 t3 t4 t5 t9 : SV) : ∃ u7 : SV, seqS R8 R9 [x0, x1, x2, t3, t4, t5, .d odd, .un, .un, t9] = .nx [x0, x1, x2, t3, t4, t5, .d odd, u7, .un, t9] := by
  obtain ⟨bo, h1, h2⟩ := ho.same
  have h3 := x_is_slip h1
  obtain ⟨r, hr, _⟩ := (FDs.lst (k := 0) (.cons (FD.bl (b := bo)) (.cons (FD.bl (b := bo)) .nil))).repr (by decide) (by decide)
  have l2 : (2 : Nat) ≤ lim := by decide
  have l3 : (3 : Nat) ≤ lim := by decide
  refine ⟨.d (.bl bo), ?_⟩
  unfold R8 R9
  cases bo with
  | true => simp only [seqS, ifS, boolE, binE, unE, appE, ixOwnE, popOwnE, lenOwnE, cE, varE, retS, retNS, asgS, asgOwnS, parS, parOwnS, appendS, dropS, nopS, forS, forGo, seqI, range1I, range2I, enumI, rangeL, callE, callIO, callL, consA, nilA, nameT, tupT, consT, nilT, ownIxT, andE, orE, notE, andT, orT, notT, chainE, ifE, slE, someO, noO, lstE, lstF, appL, methE, isStrD, raiseS, rsIO, rsOf, own0, ofOpt, R.bind_ok, R.bind_er, R.bindS_ok, R.bindS_er, Option.bind_some, Option.map_some, List.map_cons, List.map_nil, List.cons_append, List.nil_append, List.replicate_succ, List.replicate_zero, List.getElem?_cons_zero, List.getElem?_cons_succ, List.length_cons, List.length_nil, List.set_cons_zero, List.set_cons_succ, isOwn, if_true, reduceIte, Bool.false_eq_true, Nat.reduceAdd, atI_0, atI_1, ixN_0, ixN_1, gt_int, lt_int, le_int, ge_int, add_int, sub_int, eq_int, ne_int, eq_str, ne_str, decide_true, decide_false, Nat.zero_add, h2, h3, hr, l2, Bool.not_true]
  | false =>
    obtain ⟨r2, hr2, ha2, _⟩ := ho.fd.repr (by decide) (by decide)
    have h4 := x_slip_text_no h1
    have hd1 : hdF hd_l ⟨"InvalidSlip", [("value", odd)]⟩ = some (.lst [.str ("slip" : Str), .str r2, .bl true]) := by
      show itL _ _ = _
      have q : itR (itF "value") ⟨"InvalidSlip", [("value", odd)]⟩ = some (.str r2) := hr2
      unfold itL itCons
      simp only [q, itC, itNil, Option.bind_some, List.length_cons, List.length_nil]
      rw [if_pos (by decide)]
    have ns : neF (.lst [.str ("slip" : Str), .str r2, .bl true]) (.lst [.str ("slip" : Str), .str r2, .bl true]) = some (.bl false) := by
      refine ne_same (p := .list [.str ("slip" : Str), .str r2, .bool true]) rfl ?_
      have k1 := strOk_asc ha2
      show ((PyData.canLay0 (.str ("slip" : Str)) && (PyData.canLay0 (.str r2) && true)) && decide (0 + 1 ≤ 64)) = true
      have k0 : PyData.canLay0 (.str ("slip" : Str)) = true := strOk_asc (Asc.of (by decide))
      rw [k1, k0]
      rfl
    have hc : heardE (some "told") hd_l (callE 1 f_slip_text (consA (varE 6) nilA)) [x0, x1, x2, t3, t4, t5, .d odd, .d (.bl false), .un, t9] = .ok (.lst [.str ("slip" : Str), .str r2, .bl true]) [x0, x1, x2, t3, t4, t5, .d odd, .d (.bl false), .un, t9] := by
      have z : callE 1 f_slip_text (consA (varE 6) nilA) [x0, x1, x2, t3, t4, t5, .d odd, .d (.bl false), .un, t9] = .er ⟨"InvalidSlip", [("value", odd)]⟩ [x0, x1, x2, t3, t4, t5, .d odd, .d (.bl false), .un, t9] := by
        simp only [seqS, ifS, boolE, binE, unE, appE, ixOwnE, popOwnE, lenOwnE, cE, varE, retS, retNS, asgS, asgOwnS, parS, parOwnS, appendS, dropS, nopS, forS, forGo, seqI, range1I, range2I, enumI, rangeL, callE, callIO, callL, consA, nilA, nameT, tupT, consT, nilT, ownIxT, andE, orE, notE, andT, orT, notT, chainE, ifE, slE, someO, noO, lstE, lstF, appL, methE, isStrD, raiseS, rsIO, rsOf, own0, ofOpt, R.bind_ok, R.bind_er, R.bindS_ok, R.bindS_er, Option.bind_some, Option.map_some, List.map_cons, List.map_nil, List.cons_append, List.nil_append, List.replicate_succ, List.replicate_zero, List.getElem?_cons_zero, List.getElem?_cons_succ, List.length_cons, List.length_nil, List.set_cons_zero, List.set_cons_succ, isOwn, if_true, reduceIte, Bool.false_eq_true, Nat.reduceAdd, atI_0, atI_1, ixN_0, ixN_1, gt_int, lt_int, le_int, ge_int, add_int, sub_int, eq_int, ne_int, eq_str, ne_str, decide_true, decide_false, Nat.zero_add, h4]
      unfold heardE
      rw [z]
      show ofOpt (hdF hd_l _) _ = _
      rw [hd1]
      rfl
    generalize heardE (some "told") hd_l (callE 1 f_slip_text (consA (varE 6) nilA)) = HE at hc
    simp only [seqS, ifS, boolE, binE, unE, appE, ixOwnE, popOwnE, lenOwnE, cE, varE, retS, retNS, asgS, asgOwnS, parS, parOwnS, appendS, dropS, nopS, forS, forGo, seqI, range1I, range2I, enumI, rangeL, callE, callIO, callL, consA, nilA, nameT, tupT, consT, nilT, ownIxT, andE, orE, notE, andT, orT, notT, chainE, ifE, slE, someO, noO, lstE, lstF, appL, methE, isStrD, raiseS, rsIO, rsOf, own0, ofOpt, R.bind_ok, R.bind_er, R.bindS_ok, R.bindS_er, Option.bind_some, Option.map_some, List.map_cons, List.map_nil, List.cons_append, List.nil_append, List.replicate_succ, List.replicate_zero, List.getElem?_cons_zero, List.getElem?_cons_succ, List.length_cons, List.length_nil, List.set_cons_zero, List.set_cons_succ, isOwn, if_true, reduceIte, Bool.false_eq_true, Nat.reduceAdd, atI_0, atI_1, ixN_0, ixN_1, gt_int, lt_int, le_int, ge_int, add_int, sub_int, eq_int, ne_int, eq_str, ne_str, decide_true, decide_false, Nat.zero_add, h2, h3, hr, hr2, l2, l3, hc, ns, Bool.not_false, Bool.not_true]
end
end K26
end L2
set_option linter.all false
set_option maxRecDepth 100000
set_option maxHeartbeats 2000000
namespace L2
namespace K26
open PySem PySem.Spec PL TL
open _root_.SX (S S_len S_cat S_tl S_inj split_S join_S num_S int_S)
/-! _law_right: a drawn row of signs; all -/
def ab10 : List Nat := c' "ab z09~ !Q"
def pkE : GE D := (callIO 0 2 f_l_pick (consA (lstE (appL listF (consA (cE (.str "ab z09~ !Q")) nilA))) nilA))
def oneS (c : Nat) : D := .str (S [c])
theorem pkE_ok {a b : Int} (hp : PotOk a b) (x1 x2 x3 x4 x5 x6 x7 x8 x9 : SV) : ∃ (c : Nat) (a' b' : Int), c ∈ ab10 ∧ PotOk a' b' ∧ pkE [.own [.int a, .int b], x1, x2, x3, x4, x5, x6, x7, x8, x9] = .ok (oneS c) [.own [.int a', .int b'], x1, x2, x3, x4, x5, x6, x7, x8, x9] := by
  obtain ⟨c, a1, b1, e1, hc, p1⟩ := pick_sign hp ab10 (by decide) (by decide)
  have lf : listF [.str ("ab z09~ !Q" : Str)] = some (signs (S ab10)) := rfl
  refine ⟨c, a1, b1, hc, p1, ?_⟩
  generalize signs (S ab10) = L1 at e1 lf
  unfold pkE oneS
  simp only [seqS, ifS, boolE, binE, unE, appE, ixOwnE, popOwnE, lenOwnE, cE, varE, retS, retNS, asgS, asgOwnS, parS, parOwnS, appendS, dropS, nopS, forS, forGo, seqI, range1I, range2I, enumI, rangeL, callE, callIO, callL, consA, nilA, nameT, tupT, consT, nilT, ownIxT, andE, orE, notE, andT, orT, notT, chainE, ifE, slE, someO, noO, lstE, lstF, appL, methE, isStrD, raiseS, rsIO, rsOf, own0, ofOpt, R.bind_ok, R.bind_er, R.bindS_ok, R.bindS_er, Option.bind_some, Option.map_some, List.map_cons, List.map_nil, List.cons_append, List.nil_append, List.replicate_succ, List.replicate_zero, List.getElem?_cons_zero, List.getElem?_cons_succ, List.length_cons, List.length_nil, List.set_cons_zero, List.set_cons_succ, isOwn, if_true, reduceIte, Bool.false_eq_true, Nat.reduceAdd, atI_0, atI_1, ixN_0, ixN_1, gt_int, lt_int, le_int, ge_int, add_int, sub_int, eq_int, ne_int, eq_str, ne_str, decide_true, decide_false, Nat.zero_add, lf, e1]
theorem R10go (x1 x2 x4 x5 x6 x7 x8 x9 : SV) : ∀ (is : List D) (acc : List Nat) (a b : Int), PotOk a b → acc.length + is.length ≤ 100 → ∃ (cs : List Nat) (a' b' : Int), PotOk a' b' ∧ (∀ c ∈ cs, c ∈ ab10) ∧ cs.length = is.length ∧
    lcGo [3] (nameT 3) yesT pkE is [.own [.int a, .int b], x1, x2, .un, x4, x5, x6, x7, x8, x9] (acc.map oneS) = .ok ((acc ++ cs).map oneS) [.own [.int a', .int b'], x1, x2, .un, x4, x5, x6, x7, x8, x9]
  | [], acc, a, b, hp, _ => ⟨[], a, b, hp, (fun c h => by cases h), rfl, by rw [List.append_nil]; rfl⟩
  | i :: is, acc, a, b, hp, hl => by
    rw [List.length_cons] at hl
    obtain ⟨c, a1, b1, hc, p1, e1⟩ := pkE_ok hp x1 x2 (.d i) x4 x5 x6 x7 x8 x9
    obtain ⟨cs, a2, b2, p2, hcs, hlen, e2⟩ := R10go x1 x2 x4 x5 x6 x7 x8 x9 is (acc ++ [c]) a1 b1 p1 (by rw [List.length_append, List.length_singleton]; omega)
    refine ⟨c :: cs, a2, b2, p2, fun d hd => ?_, by rw [List.length_cons, List.length_cons, hlen], ?_⟩
    · rcases List.mem_cons.mp hd with rfl | hd
      · exact hc
      · exact hcs d hd
    · show (match pkE [.own [.int a, .int b], x1, x2, .d i, x4, x5, x6, x7, x8, x9] with | .ok y ρ3 => if (acc.map oneS).length < lim then lcGo [3] (nameT 3) yesT pkE is (wipeP ρ3 [3]) (acc.map oneS ++ [y]) else .bad | _ => .bad) = _
      rw [e1]
      show (if (acc.map oneS).length < lim then lcGo [3] (nameT 3) yesT pkE is [.own [.int a1, .int b1], x1, x2, .un, x4, x5, x6, x7, x8, x9] (acc.map oneS ++ [oneS c]) else .bad) = _
      rw [if_pos (by rw [List.length_map]; unfold lim; omega)]
      rw [List.map_append] at e2
      have e2' : lcGo [3] (nameT 3) yesT pkE is [.own [.int a1, .int b1], x1, x2, .un, x4, x5, x6, x7, x8, x9] (acc.map oneS ++ [oneS c]) = _ := e2
      rw [e2', List.append_assoc]
      rfl
theorem joinL_ones : ∀ cs : List Nat, joinL [] (cs.map fun c => [c]) = cs
  | [] => rfl
  | [c] => rfl
  | c :: d :: cs => by
    show [c] ++ ([] ++ joinL [] ((d :: cs).map fun c => [c])) = _
    rw [joinL_ones (d :: cs)]
    rfl
theorem join_ones (cs : List Nat) (hl : cs.length ≤ 1000) : joinF (.str ("" : Str)) [.lst (cs.map oneS)] = some (.str (S cs)) := by
  have e : cs.map oneS = (cs.map fun c => S [c]).map D.str := by rw [List.map_map]; rfl
  show ((strsOf (cs.map oneS)).bind fun ts => if (ts.map (·.length)).sum + ts.length * ("" : Str).length ≤ lim then some (D.str (Txt.join ("" : Str) ts)) else none) = _
  rw [e, strsOf_map]
  have hs : ∀ cs : List Nat, ((cs.map fun c => S [c]).map (·.length)).sum = cs.length := fun cs => by
    induction cs with
    | nil => rfl
    | cons c cs ih =>
      rw [List.map_cons, List.map_cons, List.sum_cons, ih, List.length_cons]
      show 1 + cs.length = _
      omega
  show (if ((cs.map fun c => S [c]).map (·.length)).sum + _ * 0 ≤ lim then _ else none) = _
  rw [if_pos (by rw [hs]; unfold lim; omega)]
  have e2 : (cs.map fun c => S [c]) = (cs.map fun c => [c]).map S := by rw [List.map_map]; rfl
  show some (D.str (Txt.join (S []) _)) = _
  rw [e2, join_S, joinL_ones]
def R10l : GE (List D) := (lcE [3] (range1I (consA (callIO 0 2 f_l_draw (consA (cE (.int 60)) nilA)) nilA)) (nameT 3) yesT pkE)
def R10 : GS := (asgS (methE joinF (cE (.str "")) (consA (lstE R10l) nilA)) (nameT 8))
def R11 : GS := (retS (andE (binE eqF (appE reprF (consA (lstE (lstF (consA (callE 1 f_check_of (consA (varE 8) nilA)) (consA (callE 1 f_check_of (consA (varE 8) nilA)) nilA)))) nilA)) (appE reprF (consA (binE mulF (lstE (lstF (consA (callE 1 f_l_check (consA (varE 8) nilA)) nilA))) (cE (.int 2))) nilA))) (callE 1 f_l_text_right (consA (varE 8) nilA))))
theorem R10l_ok {a b : Int} (hp : PotOk a b) (x1 x2 x3 x4 x5 x6 x7 x9 : SV) (h3 : isOwn (some x3) = false) : ∃ (cs : List Nat) (a' b' : Int), PotOk a' b' ∧ (∀ c ∈ cs, c ∈ ab10) ∧ cs.length ≤ 60 ∧
    R10l [.own [.int a, .int b], x1, x2, x3, x4, x5, x6, x7, .un, x9] = .ok (cs.map oneS) [.own [.int a', .int b'], x1, x2, x3, x4, x5, x6, x7, .un, x9] := by
  obtain ⟨k, a1, b1, e1, hk, p1⟩ := x_drawN a b 60 hp (by decide)
  have e1' : f_l_draw [.int a, .int b] [.int 60] = _ := e1
  obtain ⟨cs, a2, b2, p2, hcs, hlen, e2⟩ := R10go x1 x2 x4 x5 x6 x7 .un x9 ((List.range k).map fun (i : Nat) => D.int i) [] a1 b1 p1 (by simp; omega)
  refine ⟨cs, a2, b2, p2, hcs, by rw [hlen, List.length_map, List.length_range]; omega, ?_⟩
  have rg : range1I (consA (callIO 0 2 f_l_draw (consA (cE (.int 60)) nilA)) nilA) [.own [.int a, .int b], x1, x2, x3, x4, x5, x6, x7, .un, x9] = .ok ((List.range k).map fun (i : Nat) => D.int i) [.own [.int a1, .int b1], x1, x2, x3, x4, x5, x6, x7, .un, x9] := range1_nat (by simp only [seqS, ifS, boolE, binE, unE, appE, ixOwnE, popOwnE, lenOwnE, cE, varE, retS, retNS, asgS, asgOwnS, parS, parOwnS, appendS, dropS, nopS, forS, forGo, seqI, range1I, range2I, enumI, rangeL, callE, callIO, callL, consA, nilA, nameT, tupT, consT, nilT, ownIxT, andE, orE, notE, andT, orT, notT, chainE, ifE, slE, someO, noO, lstE, lstF, appL, methE, isStrD, raiseS, rsIO, rsOf, own0, ofOpt, R.bind_ok, R.bind_er, R.bindS_ok, R.bindS_er, Option.bind_some, Option.map_some, List.map_cons, List.map_nil, List.cons_append, List.nil_append, List.replicate_succ, List.replicate_zero, List.getElem?_cons_zero, List.getElem?_cons_succ, List.length_cons, List.length_nil, List.set_cons_zero, List.set_cons_succ, isOwn, if_true, reduceIte, Bool.false_eq_true, Nat.reduceAdd, atI_0, atI_1, ixN_0, ixN_1, gt_int, lt_int, le_int, ge_int, add_int, sub_int, eq_int, ne_int, eq_str, ne_str, decide_true, decide_false, Nat.zero_add, e1']) (by omega)
  have no : noOwn [.own [.int a1, .int b1], x1, x2, x3, x4, x5, x6, x7, .un, x9] [3] = true := by
    show (!isOwn (some x3) && true) = true
    rw [h3]
    rfl
  unfold R10l lcE
  rw [rg, R.bind_ok, if_pos no]
  have e2' : lcGo [3] (nameT 3) yesT pkE ((List.range k).map fun (i : Nat) => D.int i) (wipeP [.own [.int a1, .int b1], x1, x2, x3, x4, x5, x6, x7, .un, x9] [3]) [] = _ := e2
  rw [e2']
  rfl
theorem R1011_ok {a b : Int} (hp : PotOk a b) (x1 x2 x3 x4 x5 x6 x7 x9 : SV) (h3 : isOwn (some x3) = false) : ∃ (a' b' : Int), PotOk a' b' ∧
    rsIO (seqS R10 R11 [.own [.int a, .int b], x1, x2, x3, x4, x5, x6, x7, .un, x9]) = (.ok (.bl true), [.int a', .int b']) := by
  obtain ⟨cs, a1, b1, p1, hcs, hlen, e1⟩ := R10l_ok hp x1 x2 x3 x4 x5 x6 x7 x9 h3
  have jn := join_ones cs (by omega)
  have ok10 : ∀ c ∈ ab10, pr c = true ∧ c < 128 := by decide
  have hpr : cs.all pr = true := List.all_eq_true.mpr fun c hc => (ok10 c (hcs c hc)).1
  have hasc : asc cs = true := List.all_eq_true.mpr fun c hc => decide_eq_true (ok10 c (hcs c hc)).2
  have c1 := x_check_of cs (by omega) hpr
  have c2 := x_l_check cs (by omega)
  have c3 := x_l_text_right cs (by omega) hasc
  have cl := chk_len cs
  have ca := chk_asc cs
  obtain ⟨r, hr, _⟩ := (FDs.lst (.cons (fdS (k := 0) (by omega) ca) (.cons (fdS (by omega) ca) .nil))).repr (by decide) (by omega)
  have ml : ∀ d : D, mulF (.lst [d]) (.int 2) = some (.lst [d, d]) := fun d => rfl
  have isd : isStrD (.str ("" : Str)) = true := rfl
  have l2 : (2 : Nat) ≤ lim := by decide
  have l1 : (1 : Nat) ≤ lim := by decide
  refine ⟨a1, b1, p1, ?_⟩
  generalize chk cs = ch at c1 c2 hr
  unfold R10 R11
  simp only [seqS, ifS, boolE, binE, unE, appE, ixOwnE, popOwnE, lenOwnE, cE, varE, retS, retNS, asgS, asgOwnS, parS, parOwnS, appendS, dropS, nopS, forS, forGo, seqI, range1I, range2I, enumI, rangeL, callE, callIO, callL, consA, nilA, nameT, tupT, consT, nilT, ownIxT, andE, orE, notE, andT, orT, notT, chainE, ifE, slE, someO, noO, lstE, lstF, appL, methE, isStrD, raiseS, rsIO, rsOf, own0, ofOpt, R.bind_ok, R.bind_er, R.bindS_ok, R.bindS_er, Option.bind_some, Option.map_some, List.map_cons, List.map_nil, List.cons_append, List.nil_append, List.replicate_succ, List.replicate_zero, List.getElem?_cons_zero, List.getElem?_cons_succ, List.length_cons, List.length_nil, List.set_cons_zero, List.set_cons_succ, isOwn, if_true, reduceIte, Bool.false_eq_true, Nat.reduceAdd, atI_0, atI_1, ixN_0, ixN_1, gt_int, lt_int, le_int, ge_int, add_int, sub_int, eq_int, ne_int, eq_str, ne_str, decide_true, decide_false, Nat.zero_add, e1, jn, c1, c2, c3, hr, ml, isd, l1, l2, rsIO, own0]
theorem seqS_as (g h k : GS) : seqS g (seqS h k) = seqS (seqS g h) k := by
  funext ρ
  unfold seqS
  cases g ρ <;> rfl
theorem seqS_nx {g h : GS} {ρ ρ1 : PEnv} (e : g ρ = .nx ρ1) : seqS g h ρ = h ρ1 := by
  unfold seqS
  rw [e]
theorem right_is : g_l_right = seqS R1 (seqS R2 (seqS R3 (seqS R4 (seqS R5 (seqS R6 (seqS R7 (seqS R8 (seqS R9 (seqS R10 R11))))))))) := rfl
theorem x_l_right {a b : Int} (hp : PotOk a b) : ∃ (a' b' : Int), f_l_right [.int a, .int b] [] = (.ok (.bl true), [.int a', .int b']) ∧ PotOk a' b' := by
  obtain ⟨n, one, other, t, m, a1, b1, sl, p1, e1⟩ := R12_ok hp
  obtain ⟨a2, b2, p2, e2⟩ := R3_ok sl p1
  obtain ⟨a3, b3, u3, u9, h3, p3, e3⟩ := R4_ok sl p2
  obtain ⟨a4, b4, u4, u5, odd, p4, ho, e4⟩ := R567_ok sl p3 (.d (.str (S (textL n one other t m)))) u3 u9
  obtain ⟨u7, e5⟩ := R89_ok ho (.own [.int a4, .int b4]) (.d (slipD n one other t m)) (.d (.str (S (textL n one other t m)))) u3 u4 u5 u9
  obtain ⟨a6, b6, p6, e6⟩ := R1011_ok p4 (.d (slipD n one other t m)) (.d (.str (S (textL n one other t m)))) u3 u4 u5 (.d odd) u7 u9 h3
  refine ⟨a6, b6, ?_, p6⟩
  have z : f_l_right [.int a, .int b] [] = rsIO (g_l_right [.own [.int a, .int b], .un, .un, .un, .un, .un, .un, .un, .un, .un]) := rfl
  rw [z, right_is, seqS_as R1 R2, seqS_nx e1, seqS_nx e2, seqS_nx e3, seqS_as R6 R7, seqS_as R5, seqS_nx e4]
  have q : ∀ h : GS, seqS R8 (seqS R9 h) = seqS (seqS R8 R9) h := fun h => seqS_as _ _ _
  rw [q, seqS_nx e5]
  exact e6
end K26
end L2
set_option Elab.async false
set_option linter.all false
set_option maxRecDepth 100000
set_option maxHeartbeats 2000000
namespace L2
namespace K26
open PySem PySem.Spec PyProof.Rows PL
section
variable {P : Program} {w : World} {K : PySem.W.Frag} {mg : Str → Option Value} {base : Heap}
/-! law -/
def g_law : GS := (seqS (forS (seqI (appE tupF (consA (cE (.int 0)) (consA (cE (.int 1)) nilA)))) (nameT 1) (seqS (asgOwnS (callL 2 f_l_pot (consA (varE 0) (consA (varE 1) nilA))) 3)
    (seqS (forS (range1I (consA (cE (.int 4)) nilA)) (nameT 4) (ifS (notT (boolE (callIO 3 1 f_l_right nilA))) (retS (cE (.bl false))) nopS))
    (seqS (asgS (callIO 3 2 f_l_pick (consA (lstE (lstF (consA (cE .non) (consA (cE (.int 0)) (consA (cE (.str "a\nb")) (consA (lstE (lstF (consA (cE (.str "a")) nilA))) (consA (cE (.bl true)) (consA (cE (.str "\n")) nilA)))))))) nilA)) (nameT 5))
    (ifS (boolE (binE neF (heardE (some "told") hd_l (callE 1 f_check_of (consA (varE 5) nilA))) (lstE (lstF (consA (cE (.str "text")) (consA (appE reprF (consA (varE 5) nilA)) (consA (cE (.bl true)) nilA))))))) (retS (cE (.bl false))) nopS)))))
    (seqS (asgS (binE mulF (cE (.str "~")) (cE (.int 400))) (nameT 2))
    (retS (andE (binE eqF (callE 1 f_check_of (consA (varE 2) nilA)) (callE 1 f_l_check (consA (varE 2) nilA))) (binE eqF (callE 1 f_check_of (consA (cE (.str "")) nilA)) (cE (.str "000000")))))))
def f_law := runP g_law 5
theorem ok_law (T : Tx K mg) (B : Bx T base) : FnG P w K mg base 9 T.a_law T.fd_law ["script"] (spP K mg T.tabs 1 f_law) :=
  pure_GL T.F_law sc_law rfl rfl fun A outer s H E hr hgd => by
    have hu := hr.units
    have hur := room100 hr
    exact ((SXs.cons (SX.for own_cx rfl (IX.seq (EX.tup (AX.cons EX.int (AX.cons EX.int AX.nil)))) (TGX.name ioP (pg_name (i := 1) sc_law.nd rfl (Or.inl rfl))) (SXs.cons (SX.setOwn (LX.callL (ok_l_pot T) (hr.mono (by decide)) hgd T.g_l_pot T.k_l_pot T.b_l_pot pass_cx (AX.cons (EX.var ioP (pv 0)) (AX.cons (EX.var ioP (pv 1)) AX.nil))) ioP (fun _ h => ps_set (i := 3) sc_law.nd rfl (Or.inl rfl) h))
    (SXs.cons (SX.for own_cx rfl (IX.range1 (AX.cons EX.int AX.nil) T.n_range) (TGX.name ioP (pg_name (i := 4) sc_law.nd rfl (Or.inl rfl))) (SXs.one (SX.ifS (TX.not (TX.val (EX.callIO (ok_l_right T B) (hr.mono (by decide)) hgd T.g_l_right T.k_l_right T.b_l_right pass_cx (pv 3) AX.nil))) (SXs.one (SX.ret EX.bl)) SXs.nil)))
    (SXs.cons (SX.set (EX.callIO (ok_l_pick T) (hr.mono (by decide)) hgd T.g_l_pick T.k_l_pick T.b_l_pick pass_cx (pv 3) (AX.cons (LX.ex (LX.lst (AX.cons EX.non (AX.cons EX.int (AX.cons EX.str (AX.cons (LX.ex (LX.lst (AX.cons EX.str AX.nil))) (AX.cons EX.bl (AX.cons EX.str AX.nil)))))))) AX.nil)) ioP (fun _ h => ps_set (i := 5) sc_law.nd rfl (Or.inr rfl) h))
    (SXs.one (SX.ifS (TX.cmp o2_ne (op_neP hu) (EX.heard (k := 3) (l := T.cl) (ini := (some "none")) (wr := (some "told")) T.F_l_heard sc_l_heard T.b_l_heard rfl (fun cdg => (HC.cons T.xm_InvalidSlip rfl rfl (IT.lst (ITs.cons IT.str (ITs.cons (IT.repr hgd (room103 hr) rfl T.n_repr (IT.fld T.xx_InvalidSlip T.xn_InvalidSlip_value rfl (Or.inl rfl))) (ITs.cons (IT.isi T.xi_InvalidSlip_ContestError T.xm_ContestError rfl rfl (Or.inl rfl) rfl T.n_isinstance) ITs.nil)))) (fun _ => rfl) (HC.cons T.xm_InvalidText rfl rfl (IT.lst (ITs.cons IT.str (ITs.cons (IT.repr hgd (room103 hr) rfl T.n_repr (IT.fld T.xx_InvalidText T.xn_InvalidText_value rfl (Or.inl rfl))) (ITs.cons (IT.isi T.xi_InvalidText_ContestError T.xm_ContestError rfl rfl (Or.inl rfl) rfl T.n_isinstance) ITs.nil)))) (fun _ => rfl) HC.nil))) T.exm T.clm rfl rfl rfl rfl rfl (Or.inl rfl) rfl rfl rfl rfl .lst .lst (fun _ => rfl) (fun _ => rfl) T.g_l_heard T.k_l_heard B.b_law rfl T.tm_law T.tu_law (hr.mono (by decide)) (LamX.lamS_by rfl) rfl (fun _ _ _ _ _ => rfl) (fun A outer s H E f c' hr2 => (have hu := hr2.units; (EX.callN (ok_check_of T) (hr2.mono (by decide)) T.g_check_of T.k_check_of T.b_check_of (passAt takes_lam) (AX.cons (EX.var ioP (pv 5)) AX.nil))))) (LX.ex (LX.lst (AX.cons EX.str (AX.cons (EX.callB ol_repr (cr_repr hgd hur) T.n_repr boot_repr' (AX.cons (EX.var ioP (pv 5)) AX.nil)) (AX.cons EX.bl AX.nil)))))) (SXs.one (SX.ret EX.bl)) SXs.nil))))))
    (SXs.cons (SX.set (EX.bin o2_mul op_mulP EX.str EX.int) ioP (fun _ h => ps_set (i := 2) sc_law.nd rfl (Or.inl rfl) h))
    (SXs.one (SX.ret (EX.and (EX.cmp o2_eq (op_eqP hu) (EX.call (FnG.of (ok_check_of T)) (hr.mono (by decide)) hgd T.g_check_of T.k_check_of T.b_check_of pass_cx (AX.cons (EX.var ioP (pv 2)) AX.nil)) (EX.call (ok_l_check T) (hr.mono (by decide)) hgd T.g_l_check T.k_l_check T.b_l_check pass_cx (AX.cons (EX.var ioP (pv 2)) AX.nil))) (EX.one (EX.cmp o2_eq (op_eqP hu) (EX.call (FnG.of (ok_check_of T)) (hr.mono (by decide)) hgd T.g_check_of T.k_check_of T.b_check_of pass_cx (AX.cons EX.str AX.nil)) EX.str))))))))
end
end K26
end L2
set_option linter.all false
set_option maxRecDepth 100000
set_option maxHeartbeats 2000000
namespace L2
namespace K26
open PySem PySem.Spec PL TL
open _root_.SX (S S_len S_cat S_tl S_inj split_S join_S num_S int_S)
/-! law -/
theorem repS_c (c k : Nat) : repS (S [c]) k = S (List.replicate k c) := by
  unfold repS
  suffices ∀ acc : Array Nat, (List.replicate k (S [c]).cps).foldl (· ++ ·) acc = (acc.toList ++ List.replicate k c).toArray by
    rw [this #[]]
    rfl
  induction k with
  | zero => intro acc; simp
  | succ k ih =>
    intro acc
    rw [List.replicate_succ, List.foldl_cons, ih]
    simp [List.replicate_succ, S]
theorem mulS (c k : Nat) (h : 1 < k ∧ k ≤ 1000) : mulF (.str (S [c])) (.int k) = some (.str (S (List.replicate k c))) := by
  unfold mulF orF intsF strMulF
  have hl : (S [c]).length = 1 := rfl
  have a1 : ¬ ((k : Int) < 1 ∧ -(2 ^ 62) ≤ (k : Int)) := by omega
  have a2 : ¬ ((k : Int) = 1) := by omega
  have a3 : (1 : Int) < k ∧ 0 < (S [c]).length ∧ (S [c]).length * (k : Int).toNat ≤ lim ∧ (k : Int) ≤ lim := by
    rw [hl]
    unfold lim
    omega
  simp only [if_neg a1, if_neg a2]
  rw [if_pos a3, Int.toNat_natCast, repS_c]
def LO : List D := [.non, .int 0, .str ("a\nb" : Str), .lst [.str ("a" : Str)], .bl true, .str ("\n" : Str)]
theorem LO_ok : ∀ d ∈ LO, FD d 1 200 ∧ f_is_printed [d] = .ok (.bl false) := by
  intro d hd
  unfold LO at hd
  simp only [List.mem_cons, List.not_mem_nil, or_false] at hd
  rcases hd with rfl | rfl | rfl | rfl | rfl | rfl
  · exact ⟨FD.non.up (Nat.le_refl _) (by decide), rfl⟩
  · exact ⟨(FD.int (by decide)).up (Nat.le_refl _) (by decide), rfl⟩
  · exact ⟨(FD.str (by decide) (by decide)).up (Nat.le_refl _) (by decide), x_is_printed [97, 10, 98] (by decide)⟩
  · exact ⟨(FDs.lst (k := 0) (.cons (FD.str (by decide) (by decide)) .nil)).up (Nat.le_refl _) (by decide), rfl⟩
  · exact ⟨FD.bl.up (Nat.le_refl _) (by decide), rfl⟩
  · exact ⟨(FD.str (by decide) (by decide)).up (Nat.le_refl _) (by decide), x_is_printed [10] (by decide)⟩
def LB4 : GS := (ifS (notT (boolE (callIO 3 1 f_l_right nilA))) (retS (cE (.bl false))) nopS)
def LH : GE D := heardE (some "told") hd_l (callE 1 f_check_of (consA (varE 5) nilA))
def LB : GS := (seqS (asgOwnS (callL 2 f_l_pot (consA (varE 0) (consA (varE 1) nilA))) 3)
    (seqS (forS (range1I (consA (cE (.int 4)) nilA)) (nameT 4) LB4)
    (seqS (asgS (callIO 3 2 f_l_pick (consA (lstE (lstF (consA (cE .non) (consA (cE (.int 0)) (consA (cE (.str "a\nb")) (consA (lstE (lstF (consA (cE (.str "a")) nilA))) (consA (cE (.bl true)) (consA (cE (.str "\n")) nilA)))))))) nilA)) (nameT 5))
    (ifS (boolE (binE neF LH (lstE (lstF (consA (cE (.str "text")) (consA (appE reprF (consA (varE 5) nilA)) (consA (cE (.bl true)) nilA))))))) (retS (cE (.bl false))) nopS))))
theorem law_is : g_law = (seqS (forS (seqI (appE tupF (consA (cE (.int 0)) (consA (cE (.int 1)) nilA)))) (nameT 1) LB)
    (seqS (asgS (binE mulF (cE (.str "~")) (cE (.int 400))) (nameT 2))
    (retS (andE (binE eqF (callE 1 f_check_of (consA (varE 2) nilA)) (callE 1 f_l_check (consA (varE 2) nilA))) (binE eqF (callE 1 f_check_of (consA (cE (.str "")) nilA)) (cE (.str "000000"))))))) := rfl
theorem LB4go (x0 x1 x2 x5 : SV) : ∀ (is : List D) (a b : Int) (x4 : SV), PotOk a b → ∃ (a' b' : Int) (y4 : SV), PotOk a' b' ∧
    forGo (nameT 4) LB4 is [x0, x1, x2, .own [.int a, .int b], x4, x5] = .nx [x0, x1, x2, .own [.int a', .int b'], y4, x5]
  | [], a, b, x4, hp => ⟨a, b, x4, hp, rfl⟩
  | i :: is, a, b, x4, hp => by
    obtain ⟨a1, b1, e1, p1⟩ := x_l_right hp
    obtain ⟨a2, b2, y4, p2, e2⟩ := LB4go x0 x1 x2 x5 is a1 b1 (.d i) p1
    refine ⟨a2, b2, y4, p2, ?_⟩
    have e3 : LB4 [x0, x1, x2, .own [.int a, .int b], .d i, x5] = .nx [x0, x1, x2, .own [.int a1, .int b1], .d i, x5] := by
      unfold LB4
      simp only [seqS, ifS, boolE, binE, unE, appE, ixOwnE, popOwnE, lenOwnE, cE, varE, retS, retNS, asgS, asgOwnS, parS, parOwnS, appendS, dropS, nopS, forS, forGo, seqI, range1I, range2I, enumI, rangeL, callE, callIO, callL, consA, nilA, nameT, tupT, consT, nilT, ownIxT, andE, orE, notE, andT, orT, notT, chainE, ifE, slE, someO, noO, lstE, lstF, appL, methE, isStrD, raiseS, rsIO, rsOf, own0, ofOpt, R.bind_ok, R.bind_er, R.bindS_ok, R.bindS_er, Option.bind_some, Option.map_some, List.map_cons, List.map_nil, List.cons_append, List.nil_append, List.replicate_succ, List.replicate_zero, List.getElem?_cons_zero, List.getElem?_cons_succ, List.length_cons, List.length_nil, List.set_cons_zero, List.set_cons_succ, isOwn, if_true, reduceIte, Bool.false_eq_true, Nat.reduceAdd, atI_0, atI_1, ixN_0, ixN_1, gt_int, lt_int, le_int, ge_int, add_int, sub_int, eq_int, ne_int, eq_str, ne_str, decide_true, decide_false, Nat.zero_add, e1, Bool.not_true]
    show (match LB4 [x0, x1, x2, .own [.int a, .int b], .d i, x5] with | .nx ρ2 => forGo (nameT 4) LB4 is ρ2 | .ct ρ2 => forGo (nameT 4) LB4 is ρ2 | .bk ρ2 => .nx ρ2 | r => r) = _
    rw [e3]
    exact e2
theorem LB_ok (ns : List Int) (k : Nat) (x2 x3 x4 x5 : SV) : ∃ y3 y4 y5 : SV, LB [.d (.fz (ns.map .int)), .d (.int k), x2, x3, x4, x5] = .nx [.d (.fz (ns.map .int)), .d (.int k), x2, y3, y4, y5] := by
  obtain ⟨a, b, e0, p0⟩ := x_l_pot ns k
  obtain ⟨a1, b1, y4, p1, e1⟩ := LB4go (.d (.fz (ns.map .int))) (.d (.int k)) x2 x5 ((List.range 4).map fun (i : Nat) => D.int i) a b x4 p0
  obtain ⟨odd, a2, b2, e2, hodd, p2⟩ := x_pick a1 b1 p1 LO (by unfold LO; simp) (by unfold LO; simp)
  obtain ⟨fd, np⟩ := LO_ok odd hodd
  obtain ⟨r2, hr2, ha2, _⟩ := fd.repr (by decide) (by decide)
  have h4 := x_check_of_no np
  have hd1 : hdF hd_l ⟨"InvalidText", [("value", odd)]⟩ = some (.lst [.str ("text" : Str), .str r2, .bl true]) := by
    show itL _ _ = _
    have q : itR (itF "value") ⟨"InvalidText", [("value", odd)]⟩ = some (.str r2) := hr2
    unfold itL itCons
    simp only [q, itC, itNil, Option.bind_some, List.length_cons, List.length_nil]
    rw [if_pos (by decide)]
  have ns1 : neF (.lst [.str ("text" : Str), .str r2, .bl true]) (.lst [.str ("text" : Str), .str r2, .bl true]) = some (.bl false) := by
    refine ne_same (p := .list [.str ("text" : Str), .str r2, .bool true]) rfl ?_
    have k1 := strOk_asc ha2
    show ((PyData.canLay0 (.str ("text" : Str)) && (PyData.canLay0 (.str r2) && true)) && decide (0 + 1 ≤ 64)) = true
    have k0 : PyData.canLay0 (.str ("text" : Str)) = true := strOk_asc (Asc.of (by decide))
    rw [k1, k0]
    rfl
  generalize ns.map D.int = xs at *
  have hc : LH [.d (.fz xs), .d (.int k), x2, .own [.int a2, .int b2], y4, .d odd] = .ok (.lst [.str ("text" : Str), .str r2, .bl true]) [.d (.fz xs), .d (.int k), x2, .own [.int a2, .int b2], y4, .d odd] := by
    have z : callE 1 f_check_of (consA (varE 5) nilA) [.d (.fz xs), .d (.int k), x2, .own [.int a2, .int b2], y4, .d odd] = .er ⟨"InvalidText", [("value", odd)]⟩ [.d (.fz xs), .d (.int k), x2, .own [.int a2, .int b2], y4, .d odd] := by
      simp only [seqS, ifS, boolE, binE, unE, appE, ixOwnE, popOwnE, lenOwnE, cE, varE, retS, retNS, asgS, asgOwnS, parS, parOwnS, appendS, dropS, nopS, forS, forGo, seqI, range1I, range2I, enumI, rangeL, callE, callIO, callL, consA, nilA, nameT, tupT, consT, nilT, ownIxT, andE, orE, notE, andT, orT, notT, chainE, ifE, slE, someO, noO, lstE, lstF, appL, methE, isStrD, raiseS, rsIO, rsOf, own0, ofOpt, R.bind_ok, R.bind_er, R.bindS_ok, R.bindS_er, Option.bind_some, Option.map_some, List.map_cons, List.map_nil, List.cons_append, List.nil_append, List.replicate_succ, List.replicate_zero, List.getElem?_cons_zero, List.getElem?_cons_succ, List.length_cons, List.length_nil, List.set_cons_zero, List.set_cons_succ, isOwn, if_true, reduceIte, Bool.false_eq_true, Nat.reduceAdd, atI_0, atI_1, ixN_0, ixN_1, gt_int, lt_int, le_int, ge_int, add_int, sub_int, eq_int, ne_int, eq_str, ne_str, decide_true, decide_false, Nat.zero_add, h4]
    unfold LH heardE
    rw [z]
    show ofOpt (hdF hd_l _) _ = _
    rw [hd1]
    rfl
  have rg : range1I (consA (cE (.int 4)) nilA) [.d (.fz xs), .d (.int k), x2, .own [.int a, .int b], x4, x5] = .ok ((List.range 4).map fun (i : Nat) => D.int i) [.d (.fz xs), .d (.int k), x2, .own [.int a, .int b], x4, x5] := range1_nat (n := 4) rfl (by decide)
  have hfor : forS (range1I (consA (cE (.int 4)) nilA)) (nameT 4) LB4 [.d (.fz xs), .d (.int k), x2, .own [.int a, .int b], x4, x5] = .nx [.d (.fz xs), .d (.int k), x2, .own [.int a1, .int b1], y4, x5] := by
    unfold forS
    rw [rg]
    exact e1
  have hpot : asgOwnS (callL 2 f_l_pot (consA (varE 0) (consA (varE 1) nilA))) 3 [.d (.fz xs), .d (.int k), x2, x3, x4, x5] = .nx [.d (.fz xs), .d (.int k), x2, .own [.int a, .int b], x4, x5] := by
    simp only [seqS, ifS, boolE, binE, unE, appE, ixOwnE, popOwnE, lenOwnE, cE, varE, retS, retNS, asgS, asgOwnS, parS, parOwnS, appendS, dropS, nopS, forS, forGo, seqI, range1I, range2I, enumI, rangeL, callE, callIO, callL, consA, nilA, nameT, tupT, consT, nilT, ownIxT, andE, orE, notE, andT, orT, notT, chainE, ifE, slE, someO, noO, lstE, lstF, appL, methE, isStrD, raiseS, rsIO, rsOf, own0, ofOpt, R.bind_ok, R.bind_er, R.bindS_ok, R.bindS_er, Option.bind_some, Option.map_some, List.map_cons, List.map_nil, List.cons_append, List.nil_append, List.replicate_succ, List.replicate_zero, List.getElem?_cons_zero, List.getElem?_cons_succ, List.length_cons, List.length_nil, List.set_cons_zero, List.set_cons_succ, isOwn, if_true, reduceIte, Bool.false_eq_true, Nat.reduceAdd, atI_0, atI_1, ixN_0, ixN_1, gt_int, lt_int, le_int, ge_int, add_int, sub_int, eq_int, ne_int, eq_str, ne_str, decide_true, decide_false, Nat.zero_add, e0]
  refine ⟨.own [.int a2, .int b2], y4, .d odd, ?_⟩
  · unfold LB
    rw [seqS_nx hpot, seqS_nx hfor]
    unfold LO at e2
    have l6 : (6 : Nat) ≤ lim := by decide
    have l3 : (3 : Nat) ≤ lim := by decide
    have l1 : (1 : Nat) ≤ lim := by decide
    simp only [seqS, ifS, boolE, binE, unE, appE, ixOwnE, popOwnE, lenOwnE, cE, varE, retS, retNS, asgS, asgOwnS, parS, parOwnS, appendS, dropS, nopS, forS, forGo, seqI, range1I, range2I, enumI, rangeL, callE, callIO, callL, consA, nilA, nameT, tupT, consT, nilT, ownIxT, andE, orE, notE, andT, orT, notT, chainE, ifE, slE, someO, noO, lstE, lstF, appL, methE, isStrD, raiseS, rsIO, rsOf, own0, ofOpt, R.bind_ok, R.bind_er, R.bindS_ok, R.bindS_er, Option.bind_some, Option.map_some, List.map_cons, List.map_nil, List.cons_append, List.nil_append, List.replicate_succ, List.replicate_zero, List.getElem?_cons_zero, List.getElem?_cons_succ, List.length_cons, List.length_nil, List.set_cons_zero, List.set_cons_succ, isOwn, if_true, reduceIte, Bool.false_eq_true, Nat.reduceAdd, atI_0, atI_1, ixN_0, ixN_1, gt_int, lt_int, le_int, ge_int, add_int, sub_int, eq_int, ne_int, eq_str, ne_str, decide_true, decide_false, Nat.zero_add, l1, l3, l6, e2, hc, hr2, ns1]
theorem law_plain (ns : List Int) : f_law [.fz (ns.map .int)] = .ok (.bl true) := by
  obtain ⟨y3, y4, y5, e1⟩ := LB_ok ns 0 .un .un .un .un
  obtain ⟨z3, z4, z5, e2⟩ := LB_ok ns 1 .un y3 y4 y5
  have t2 : ∀ x y : D, tupF [x, y] = some (.tup [x, y]) := fun _ _ => rfl
  have hr : (List.replicate 400 126).length = 400 := List.length_replicate
  have g1 : mulF (.str ("~" : Str)) (.int 400) = some (.str (S (List.replicate 400 126))) := mulS 126 400 (by decide)
  have c1 := x_check_of (List.replicate 400 126) (by rw [hr]; decide) (by rw [List.all_eq_true]; intro c hc; rw [(List.mem_replicate.mp hc).2]; rfl)
  have c2 := x_l_check (List.replicate 400 126) (by rw [hr]; decide)
  have c3 : f_check_of [.str ("" : Str)] = .ok (.str (S (chk []))) := x_check_of [] (by decide) rfl
  have c4 : eqF (.str (S (chk []))) (.str ("000000" : Str)) = some (.bl true) := by
    show some (D.bl (decide (S (chk []) = S [48, 48, 48, 48, 48, 48]))) = _
    rw [S_eq, decide_eq_true (by decide)]
  generalize chk [] = ch0 at c3 c4
  generalize chk (List.replicate 400 126) = ch at c1 c2
  generalize List.replicate 400 126 = great at g1 c1 c2
  generalize ns.map D.int = xs at *
  have hfor : forS (seqI (appE tupF (consA (cE (.int 0)) (consA (cE (.int 1)) nilA)))) (nameT 1) LB [.d (.fz xs), .un, .un, .un, .un, .un] = .nx [.d (.fz xs), .d (.int 1), .un, z3, z4, z5] := by
    have e1' : LB [.d (.fz xs), .d (.int 0), .un, .un, .un, .un] = .nx [.d (.fz xs), .d (.int 0), .un, y3, y4, y5] := e1
    have e2' : LB [.d (.fz xs), .d (.int 1), .un, y3, y4, y5] = .nx [.d (.fz xs), .d (.int 1), .un, z3, z4, z5] := e2
    generalize LB = B at e1' e2'
    simp only [seqS, ifS, boolE, binE, unE, appE, ixOwnE, popOwnE, lenOwnE, cE, varE, retS, retNS, asgS, asgOwnS, parS, parOwnS, appendS, dropS, nopS, forS, forGo, seqI, range1I, range2I, enumI, rangeL, callE, callIO, callL, consA, nilA, nameT, tupT, consT, nilT, ownIxT, andE, orE, notE, andT, orT, notT, chainE, ifE, slE, someO, noO, lstE, lstF, appL, methE, isStrD, raiseS, rsIO, rsOf, own0, ofOpt, R.bind_ok, R.bind_er, R.bindS_ok, R.bindS_er, Option.bind_some, Option.map_some, List.map_cons, List.map_nil, List.cons_append, List.nil_append, List.replicate_succ, List.replicate_zero, List.getElem?_cons_zero, List.getElem?_cons_succ, List.length_cons, List.length_nil, List.set_cons_zero, List.set_cons_succ, isOwn, if_true, reduceIte, Bool.false_eq_true, Nat.reduceAdd, atI_0, atI_1, ixN_0, ixN_1, gt_int, lt_int, le_int, ge_int, add_int, sub_int, eq_int, ne_int, eq_str, ne_str, decide_true, decide_false, Nat.zero_add, t2, e1', e2']
  have hq : ∀ x y : Str, eqF (.str x) (.str y) = some (.bl (decide (x = y))) := fun _ _ => rfl
  show rsOf (g_law [.d (.fz xs), .un, .un, .un, .un, .un]) = _
  rw [law_is, seqS_nx hfor]
  simp only [seqS, ifS, boolE, binE, unE, appE, ixOwnE, popOwnE, lenOwnE, cE, varE, retS, retNS, asgS, asgOwnS, parS, parOwnS, appendS, dropS, nopS, forS, forGo, seqI, range1I, range2I, enumI, rangeL, callE, callIO, callL, consA, nilA, nameT, tupT, consT, nilT, ownIxT, andE, orE, notE, andT, orT, notT, chainE, ifE, slE, someO, noO, lstE, lstF, appL, methE, isStrD, raiseS, rsIO, rsOf, own0, ofOpt, R.bind_ok, R.bind_er, R.bindS_ok, R.bindS_er, Option.bind_some, Option.map_some, List.map_cons, List.map_nil, List.cons_append, List.nil_append, List.replicate_succ, List.replicate_zero, List.getElem?_cons_zero, List.getElem?_cons_succ, List.length_cons, List.length_nil, List.set_cons_zero, List.set_cons_succ, isOwn, if_true, reduceIte, Bool.false_eq_true, Nat.reduceAdd, atI_0, atI_1, ixN_0, ixN_1, gt_int, lt_int, le_int, ge_int, add_int, sub_int, eq_int, ne_int, eq_str, ne_str, decide_true, decide_false, Nat.zero_add, g1, c1, c2, c3, c4, hq]
end K26
end L2
namespace L2
namespace K26
open PySem PySem.Spec PyProof.Rows PL
theorem law_true : ∀ ns : List Int, ns.length ≤ 63 → (∀ z ∈ ns, Builtin.Int.intBits z ≤ 1048576) → f_law [.fz (ns.map .int)] = .ok (.bl true) := fun ns _ _ => law_plain ns
end K26
end L2
set_option Elab.async false
set_option linter.all false
set_option maxRecDepth 100000
set_option maxHeartbeats 4000000
namespace L2
namespace K26
open PySem PySem.Spec PyProof.Rows PL
theorem law_mk {w : World} {K : PySem.W.Frag} {h : Heap} {mg : Str → Option Value} {fa : Addr} (X : K.In h) (G : h.Ns mainGlobals mg) (hfa : mg "law" = some (.ref fa))
    {q_is_integer : Addr}
    {od_is_integer an_is_integer : Option Addr}
    {sl_is_integer : Array (Option Value)}
    {oc_is_integer kV_is_integer dc_is_integer pm_is_integer cd_is_integer ct_is_integer : Value}
    (a_is_integer : PySem.W.nsIn K mainGlobals "is_integer" = some (some (.ref q_is_integer)))
    (l_is_integer : K.lookup q_is_integer = some ⟨oc_is_integer, od_is_integer, .func (PySem.W.fnOf "is_integer" "is_integer" (defArgs s_is_integer) (defBody s_is_integer) (defScope s_is_integer) .none kV_is_integer dc_is_integer pm_is_integer an_is_integer cd_is_integer ct_is_integer), sl_is_integer⟩)
    (c_is_integer : PySem.W.codeIn K cd_is_integer "is_integer" = true)
    (k_is_integer : PySem.W.keepIn K (.ref q_is_integer) = true)
    {q_is_within : Addr}
    {od_is_within an_is_within : Option Addr}
    {sl_is_within : Array (Option Value)}
    {oc_is_within kV_is_within dc_is_within pm_is_within cd_is_within ct_is_within : Value}
    (a_is_within : PySem.W.nsIn K mainGlobals "is_within" = some (some (.ref q_is_within)))
    (l_is_within : K.lookup q_is_within = some ⟨oc_is_within, od_is_within, .func (PySem.W.fnOf "is_within" "is_within" (defArgs s_is_within) (defBody s_is_within) (defScope s_is_within) .none kV_is_within dc_is_within pm_is_within an_is_within cd_is_within ct_is_within), sl_is_within⟩)
    (c_is_within : PySem.W.codeIn K cd_is_within "is_within" = true)
    (k_is_within : PySem.W.keepIn K (.ref q_is_within) = true)
    {q_is_tuple : Addr}
    {od_is_tuple an_is_tuple : Option Addr}
    {sl_is_tuple : Array (Option Value)}
    {oc_is_tuple kV_is_tuple dc_is_tuple pm_is_tuple cd_is_tuple ct_is_tuple : Value}
    (a_is_tuple : PySem.W.nsIn K mainGlobals "is_tuple" = some (some (.ref q_is_tuple)))
    (l_is_tuple : K.lookup q_is_tuple = some ⟨oc_is_tuple, od_is_tuple, .func (PySem.W.fnOf "is_tuple" "is_tuple" (defArgs s_is_tuple) (defBody s_is_tuple) (defScope s_is_tuple) .none kV_is_tuple dc_is_tuple pm_is_tuple an_is_tuple cd_is_tuple ct_is_tuple), sl_is_tuple⟩)
    (c_is_tuple : PySem.W.codeIn K cd_is_tuple "is_tuple" = true)
    (k_is_tuple : PySem.W.keepIn K (.ref q_is_tuple) = true)
    {q_is_name_value : Addr}
    {od_is_name_value an_is_name_value : Option Addr}
    {sl_is_name_value : Array (Option Value)}
    {oc_is_name_value kV_is_name_value dc_is_name_value pm_is_name_value cd_is_name_value ct_is_name_value : Value}
    (a_is_name_value : PySem.W.nsIn K mainGlobals "is_name_value" = some (some (.ref q_is_name_value)))
    (l_is_name_value : K.lookup q_is_name_value = some ⟨oc_is_name_value, od_is_name_value, .func (PySem.W.fnOf "is_name_value" "is_name_value" (defArgs s_is_name_value) (defBody s_is_name_value) (defScope s_is_name_value) .none kV_is_name_value dc_is_name_value pm_is_name_value an_is_name_value cd_is_name_value ct_is_name_value), sl_is_name_value⟩)
    (c_is_name_value : PySem.W.codeIn K cd_is_name_value "is_name_value" = true)
    (k_is_name_value : PySem.W.keepIn K (.ref q_is_name_value) = true)
    {q_number_in : Addr}
    {od_number_in an_number_in : Option Addr}
    {sl_number_in : Array (Option Value)}
    {oc_number_in kV_number_in dc_number_in pm_number_in cd_number_in ct_number_in : Value}
    (a_number_in : PySem.W.nsIn K mainGlobals "number_in" = some (some (.ref q_number_in)))
    (l_number_in : K.lookup q_number_in = some ⟨oc_number_in, od_number_in, .func (PySem.W.fnOf "number_in" "number_in" (defArgs s_number_in) (defBody s_number_in) (defScope s_number_in) .none kV_number_in dc_number_in pm_number_in an_number_in cd_number_in ct_number_in), sl_number_in⟩)
    (c_number_in : PySem.W.codeIn K cd_number_in "number_in" = true)
    (k_number_in : PySem.W.keepIn K (.ref q_number_in) = true)
    {q_is_printed : Addr}
    {od_is_printed an_is_printed : Option Addr}
    {sl_is_printed : Array (Option Value)}
    {oc_is_printed kV_is_printed dc_is_printed pm_is_printed cd_is_printed ct_is_printed : Value}
    (a_is_printed : PySem.W.nsIn K mainGlobals "is_printed" = some (some (.ref q_is_printed)))
    (l_is_printed : K.lookup q_is_printed = some ⟨oc_is_printed, od_is_printed, .func (PySem.W.fnOf "is_printed" "is_printed" (defArgs s_is_printed) (defBody s_is_printed) (defScope s_is_printed) .none kV_is_printed dc_is_printed pm_is_printed an_is_printed cd_is_printed ct_is_printed), sl_is_printed⟩)
    (c_is_printed : PySem.W.codeIn K cd_is_printed "is_printed" = true)
    (k_is_printed : PySem.W.keepIn K (.ref q_is_printed) = true)
    {q_is_slip_value : Addr}
    {od_is_slip_value an_is_slip_value : Option Addr}
    {sl_is_slip_value : Array (Option Value)}
    {oc_is_slip_value kV_is_slip_value dc_is_slip_value pm_is_slip_value cd_is_slip_value ct_is_slip_value : Value}
    (a_is_slip_value : PySem.W.nsIn K mainGlobals "is_slip_value" = some (some (.ref q_is_slip_value)))
    (l_is_slip_value : K.lookup q_is_slip_value = some ⟨oc_is_slip_value, od_is_slip_value, .func (PySem.W.fnOf "is_slip_value" "is_slip_value" (defArgs s_is_slip_value) (defBody s_is_slip_value) (defScope s_is_slip_value) .none kV_is_slip_value dc_is_slip_value pm_is_slip_value an_is_slip_value cd_is_slip_value ct_is_slip_value), sl_is_slip_value⟩)
    (c_is_slip_value : PySem.W.codeIn K cd_is_slip_value "is_slip_value" = true)
    (k_is_slip_value : PySem.W.keepIn K (.ref q_is_slip_value) = true)
    {q_padded : Addr}
    {od_padded an_padded : Option Addr}
    {sl_padded : Array (Option Value)}
    {oc_padded kV_padded dc_padded pm_padded cd_padded ct_padded : Value}
    (a_padded : PySem.W.nsIn K mainGlobals "padded" = some (some (.ref q_padded)))
    (l_padded : K.lookup q_padded = some ⟨oc_padded, od_padded, .func (PySem.W.fnOf "padded" "padded" (defArgs s_padded) (defBody s_padded) (defScope s_padded) .none kV_padded dc_padded pm_padded an_padded cd_padded ct_padded), sl_padded⟩)
    (c_padded : PySem.W.codeIn K cd_padded "padded" = true)
    (k_padded : PySem.W.keepIn K (.ref q_padded) = true)
    {q_check_in : Addr}
    {od_check_in an_check_in : Option Addr}
    {sl_check_in : Array (Option Value)}
    {oc_check_in kV_check_in dc_check_in pm_check_in cd_check_in ct_check_in : Value}
    (a_check_in : PySem.W.nsIn K mainGlobals "check_in" = some (some (.ref q_check_in)))
    (l_check_in : K.lookup q_check_in = some ⟨oc_check_in, od_check_in, .func (PySem.W.fnOf "check_in" "check_in" (defArgs s_check_in) (defBody s_check_in) (defScope s_check_in) .none kV_check_in dc_check_in pm_check_in an_check_in cd_check_in ct_check_in), sl_check_in⟩)
    (c_check_in : PySem.W.codeIn K cd_check_in "check_in" = true)
    (k_check_in : PySem.W.keepIn K (.ref q_check_in) = true)
    {q_body_of : Addr}
    {od_body_of an_body_of : Option Addr}
    {sl_body_of : Array (Option Value)}
    {oc_body_of kV_body_of dc_body_of pm_body_of cd_body_of ct_body_of : Value}
    (a_body_of : PySem.W.nsIn K mainGlobals "body_of" = some (some (.ref q_body_of)))
    (l_body_of : K.lookup q_body_of = some ⟨oc_body_of, od_body_of, .func (PySem.W.fnOf "body_of" "body_of" (defArgs s_body_of) (defBody s_body_of) (defScope s_body_of) .none kV_body_of dc_body_of pm_body_of an_body_of cd_body_of ct_body_of), sl_body_of⟩)
    (c_body_of : PySem.W.codeIn K cd_body_of "body_of" = true)
    (k_body_of : PySem.W.keepIn K (.ref q_body_of) = true)
    {q_text_of : Addr}
    {od_text_of an_text_of : Option Addr}
    {sl_text_of : Array (Option Value)}
    {oc_text_of kV_text_of dc_text_of pm_text_of cd_text_of ct_text_of : Value}
    (a_text_of : PySem.W.nsIn K mainGlobals "text_of" = some (some (.ref q_text_of)))
    (l_text_of : K.lookup q_text_of = some ⟨oc_text_of, od_text_of, .func (PySem.W.fnOf "text_of" "text_of" (defArgs s_text_of) (defBody s_text_of) (defScope s_text_of) .none kV_text_of dc_text_of pm_text_of an_text_of cd_text_of ct_text_of), sl_text_of⟩)
    (c_text_of : PySem.W.codeIn K cd_text_of "text_of" = true)
    (k_text_of : PySem.W.keepIn K (.ref q_text_of) = true)
    {q_slip_in : Addr}
    {od_slip_in an_slip_in : Option Addr}
    {sl_slip_in : Array (Option Value)}
    {oc_slip_in kV_slip_in dc_slip_in pm_slip_in cd_slip_in ct_slip_in : Value}
    (a_slip_in : PySem.W.nsIn K mainGlobals "slip_in" = some (some (.ref q_slip_in)))
    (l_slip_in : K.lookup q_slip_in = some ⟨oc_slip_in, od_slip_in, .func (PySem.W.fnOf "slip_in" "slip_in" (defArgs s_slip_in) (defBody s_slip_in) (defScope s_slip_in) .none kV_slip_in dc_slip_in pm_slip_in an_slip_in cd_slip_in ct_slip_in), sl_slip_in⟩)
    (c_slip_in : PySem.W.codeIn K cd_slip_in "slip_in" = true)
    (k_slip_in : PySem.W.keepIn K (.ref q_slip_in) = true)
    {q_is_slip : Addr}
    {od_is_slip an_is_slip : Option Addr}
    {sl_is_slip : Array (Option Value)}
    {oc_is_slip kV_is_slip dc_is_slip pm_is_slip cd_is_slip ct_is_slip : Value}
    (a_is_slip : PySem.W.nsIn K mainGlobals "is_slip" = some (some (.ref q_is_slip)))
    (l_is_slip : K.lookup q_is_slip = some ⟨oc_is_slip, od_is_slip, .func (PySem.W.fnOf "is_slip" "is_slip" (defArgs s_is_slip) (defBody s_is_slip) (defScope s_is_slip) .none kV_is_slip dc_is_slip pm_is_slip an_is_slip cd_is_slip ct_is_slip), sl_is_slip⟩)
    (c_is_slip : PySem.W.codeIn K cd_is_slip "is_slip" = true)
    (k_is_slip : PySem.W.keepIn K (.ref q_is_slip) = true)
    {q_slip_text : Addr}
    {od_slip_text an_slip_text : Option Addr}
    {sl_slip_text : Array (Option Value)}
    {oc_slip_text kV_slip_text dc_slip_text pm_slip_text cd_slip_text ct_slip_text : Value}
    (a_slip_text : PySem.W.nsIn K mainGlobals "slip_text" = some (some (.ref q_slip_text)))
    (l_slip_text : K.lookup q_slip_text = some ⟨oc_slip_text, od_slip_text, .func (PySem.W.fnOf "slip_text" "slip_text" (defArgs s_slip_text) (defBody s_slip_text) (defScope s_slip_text) .none kV_slip_text dc_slip_text pm_slip_text an_slip_text cd_slip_text ct_slip_text), sl_slip_text⟩)
    (c_slip_text : PySem.W.codeIn K cd_slip_text "slip_text" = true)
    (k_slip_text : PySem.W.keepIn K (.ref q_slip_text) = true)
    {q_slip_of_text : Addr}
    {od_slip_of_text an_slip_of_text : Option Addr}
    {sl_slip_of_text : Array (Option Value)}
    {oc_slip_of_text kV_slip_of_text dc_slip_of_text pm_slip_of_text cd_slip_of_text ct_slip_of_text : Value}
    (a_slip_of_text : PySem.W.nsIn K mainGlobals "slip_of_text" = some (some (.ref q_slip_of_text)))
    (l_slip_of_text : K.lookup q_slip_of_text = some ⟨oc_slip_of_text, od_slip_of_text, .func (PySem.W.fnOf "slip_of_text" "slip_of_text" (defArgs s_slip_of_text) (defBody s_slip_of_text) (defScope s_slip_of_text) .none kV_slip_of_text dc_slip_of_text pm_slip_of_text an_slip_of_text cd_slip_of_text ct_slip_of_text), sl_slip_of_text⟩)
    (c_slip_of_text : PySem.W.codeIn K cd_slip_of_text "slip_of_text" = true)
    (k_slip_of_text : PySem.W.keepIn K (.ref q_slip_of_text) = true)
    {q_check_of : Addr}
    {od_check_of an_check_of : Option Addr}
    {sl_check_of : Array (Option Value)}
    {oc_check_of kV_check_of dc_check_of pm_check_of cd_check_of ct_check_of : Value}
    (a_check_of : PySem.W.nsIn K mainGlobals "check_of" = some (some (.ref q_check_of)))
    (l_check_of : K.lookup q_check_of = some ⟨oc_check_of, od_check_of, .func (PySem.W.fnOf "check_of" "check_of" (defArgs s_check_of) (defBody s_check_of) (defScope s_check_of) .none kV_check_of dc_check_of pm_check_of an_check_of cd_check_of ct_check_of), sl_check_of⟩)
    (c_check_of : PySem.W.codeIn K cd_check_of "check_of" = true)
    (k_check_of : PySem.W.keepIn K (.ref q_check_of) = true)
    {q_l_pot : Addr}
    {od_l_pot an_l_pot : Option Addr}
    {sl_l_pot : Array (Option Value)}
    {oc_l_pot kV_l_pot dc_l_pot pm_l_pot cd_l_pot ct_l_pot : Value}
    (a_l_pot : PySem.W.nsIn K mainGlobals "_law_pot" = some (some (.ref q_l_pot)))
    (l_l_pot : K.lookup q_l_pot = some ⟨oc_l_pot, od_l_pot, .func (PySem.W.fnOf "_law_pot" "_law_pot" (defArgs s_l_pot) (defBody s_l_pot) (defScope s_l_pot) .none kV_l_pot dc_l_pot pm_l_pot an_l_pot cd_l_pot ct_l_pot), sl_l_pot⟩)
    (c_l_pot : PySem.W.codeIn K cd_l_pot "_law_pot" = true)
    (k_l_pot : PySem.W.keepIn K (.ref q_l_pot) = true)
    {q_l_draw : Addr}
    {od_l_draw an_l_draw : Option Addr}
    {sl_l_draw : Array (Option Value)}
    {oc_l_draw kV_l_draw dc_l_draw pm_l_draw cd_l_draw ct_l_draw : Value}
    (a_l_draw : PySem.W.nsIn K mainGlobals "_law_draw" = some (some (.ref q_l_draw)))
    (l_l_draw : K.lookup q_l_draw = some ⟨oc_l_draw, od_l_draw, .func (PySem.W.fnOf "_law_draw" "_law_draw" (defArgs s_l_draw) (defBody s_l_draw) (defScope s_l_draw) .none kV_l_draw dc_l_draw pm_l_draw an_l_draw cd_l_draw ct_l_draw), sl_l_draw⟩)
    (c_l_draw : PySem.W.codeIn K cd_l_draw "_law_draw" = true)
    (k_l_draw : PySem.W.keepIn K (.ref q_l_draw) = true)
    {q_l_pick : Addr}
    {od_l_pick an_l_pick : Option Addr}
    {sl_l_pick : Array (Option Value)}
    {oc_l_pick kV_l_pick dc_l_pick pm_l_pick cd_l_pick ct_l_pick : Value}
    (a_l_pick : PySem.W.nsIn K mainGlobals "_law_pick" = some (some (.ref q_l_pick)))
    (l_l_pick : K.lookup q_l_pick = some ⟨oc_l_pick, od_l_pick, .func (PySem.W.fnOf "_law_pick" "_law_pick" (defArgs s_l_pick) (defBody s_l_pick) (defScope s_l_pick) .none kV_l_pick dc_l_pick pm_l_pick an_l_pick cd_l_pick ct_l_pick), sl_l_pick⟩)
    (c_l_pick : PySem.W.codeIn K cd_l_pick "_law_pick" = true)
    (k_l_pick : PySem.W.keepIn K (.ref q_l_pick) = true)
    {q_l_some : Addr}
    {od_l_some an_l_some : Option Addr}
    {sl_l_some : Array (Option Value)}
    {oc_l_some kV_l_some dc_l_some pm_l_some cd_l_some ct_l_some : Value}
    (a_l_some : PySem.W.nsIn K mainGlobals "_law_some" = some (some (.ref q_l_some)))
    (l_l_some : K.lookup q_l_some = some ⟨oc_l_some, od_l_some, .func (PySem.W.fnOf "_law_some" "_law_some" (defArgs s_l_some) (defBody s_l_some) (defScope s_l_some) .none kV_l_some dc_l_some pm_l_some an_l_some cd_l_some ct_l_some), sl_l_some⟩)
    (c_l_some : PySem.W.codeIn K cd_l_some "_law_some" = true)
    (k_l_some : PySem.W.keepIn K (.ref q_l_some) = true)
    {q_l_check : Addr}
    {od_l_check an_l_check : Option Addr}
    {sl_l_check : Array (Option Value)}
    {oc_l_check kV_l_check dc_l_check pm_l_check cd_l_check ct_l_check : Value}
    (a_l_check : PySem.W.nsIn K mainGlobals "_law_check" = some (some (.ref q_l_check)))
    (l_l_check : K.lookup q_l_check = some ⟨oc_l_check, od_l_check, .func (PySem.W.fnOf "_law_check" "_law_check" (defArgs s_l_check) (defBody s_l_check) (defScope s_l_check) .none kV_l_check dc_l_check pm_l_check an_l_check cd_l_check ct_l_check), sl_l_check⟩)
    (c_l_check : PySem.W.codeIn K cd_l_check "_law_check" = true)
    (k_l_check : PySem.W.keepIn K (.ref q_l_check) = true)
    {q_l_slip_text : Addr}
    {od_l_slip_text an_l_slip_text : Option Addr}
    {sl_l_slip_text : Array (Option Value)}
    {oc_l_slip_text kV_l_slip_text dc_l_slip_text pm_l_slip_text cd_l_slip_text ct_l_slip_text : Value}
    (a_l_slip_text : PySem.W.nsIn K mainGlobals "_law_slip_text" = some (some (.ref q_l_slip_text)))
    (l_l_slip_text : K.lookup q_l_slip_text = some ⟨oc_l_slip_text, od_l_slip_text, .func (PySem.W.fnOf "_law_slip_text" "_law_slip_text" (defArgs s_l_slip_text) (defBody s_l_slip_text) (defScope s_l_slip_text) .none kV_l_slip_text dc_l_slip_text pm_l_slip_text an_l_slip_text cd_l_slip_text ct_l_slip_text), sl_l_slip_text⟩)
    (c_l_slip_text : PySem.W.codeIn K cd_l_slip_text "_law_slip_text" = true)
    (k_l_slip_text : PySem.W.keepIn K (.ref q_l_slip_text) = true)
    {q_l_slip_of : Addr}
    {od_l_slip_of an_l_slip_of : Option Addr}
    {sl_l_slip_of : Array (Option Value)}
    {oc_l_slip_of kV_l_slip_of dc_l_slip_of pm_l_slip_of cd_l_slip_of ct_l_slip_of : Value}
    (a_l_slip_of : PySem.W.nsIn K mainGlobals "_law_slip_of" = some (some (.ref q_l_slip_of)))
    (l_l_slip_of : K.lookup q_l_slip_of = some ⟨oc_l_slip_of, od_l_slip_of, .func (PySem.W.fnOf "_law_slip_of" "_law_slip_of" (defArgs s_l_slip_of) (defBody s_l_slip_of) (defScope s_l_slip_of) .none kV_l_slip_of dc_l_slip_of pm_l_slip_of an_l_slip_of cd_l_slip_of ct_l_slip_of), sl_l_slip_of⟩)
    (c_l_slip_of : PySem.W.codeIn K cd_l_slip_of "_law_slip_of" = true)
    (k_l_slip_of : PySem.W.keepIn K (.ref q_l_slip_of) = true)
    {q_l_is_slip : Addr}
    {od_l_is_slip an_l_is_slip : Option Addr}
    {sl_l_is_slip : Array (Option Value)}
    {oc_l_is_slip kV_l_is_slip dc_l_is_slip pm_l_is_slip cd_l_is_slip ct_l_is_slip : Value}
    (a_l_is_slip : PySem.W.nsIn K mainGlobals "_law_is_slip" = some (some (.ref q_l_is_slip)))
    (l_l_is_slip : K.lookup q_l_is_slip = some ⟨oc_l_is_slip, od_l_is_slip, .func (PySem.W.fnOf "_law_is_slip" "_law_is_slip" (defArgs s_l_is_slip) (defBody s_l_is_slip) (defScope s_l_is_slip) .none kV_l_is_slip dc_l_is_slip pm_l_is_slip an_l_is_slip cd_l_is_slip ct_l_is_slip), sl_l_is_slip⟩)
    (c_l_is_slip : PySem.W.codeIn K cd_l_is_slip "_law_is_slip" = true)
    (k_l_is_slip : PySem.W.keepIn K (.ref q_l_is_slip) = true)
    {q_l_drawn : Addr}
    {od_l_drawn an_l_drawn : Option Addr}
    {sl_l_drawn : Array (Option Value)}
    {oc_l_drawn kV_l_drawn dc_l_drawn pm_l_drawn cd_l_drawn ct_l_drawn : Value}
    (a_l_drawn : PySem.W.nsIn K mainGlobals "_law_drawn" = some (some (.ref q_l_drawn)))
    (l_l_drawn : K.lookup q_l_drawn = some ⟨oc_l_drawn, od_l_drawn, .func (PySem.W.fnOf "_law_drawn" "_law_drawn" (defArgs s_l_drawn) (defBody s_l_drawn) (defScope s_l_drawn) .none kV_l_drawn dc_l_drawn pm_l_drawn an_l_drawn cd_l_drawn ct_l_drawn), sl_l_drawn⟩)
    (c_l_drawn : PySem.W.codeIn K cd_l_drawn "_law_drawn" = true)
    (k_l_drawn : PySem.W.keepIn K (.ref q_l_drawn) = true)
    {q_l_spoilt : Addr}
    {od_l_spoilt an_l_spoilt : Option Addr}
    {sl_l_spoilt : Array (Option Value)}
    {oc_l_spoilt kV_l_spoilt dc_l_spoilt pm_l_spoilt cd_l_spoilt ct_l_spoilt : Value}
    (a_l_spoilt : PySem.W.nsIn K mainGlobals "_law_spoilt" = some (some (.ref q_l_spoilt)))
    (l_l_spoilt : K.lookup q_l_spoilt = some ⟨oc_l_spoilt, od_l_spoilt, .func (PySem.W.fnOf "_law_spoilt" "_law_spoilt" (defArgs s_l_spoilt) (defBody s_l_spoilt) (defScope s_l_spoilt) .none kV_l_spoilt dc_l_spoilt pm_l_spoilt an_l_spoilt cd_l_spoilt ct_l_spoilt), sl_l_spoilt⟩)
    (c_l_spoilt : PySem.W.codeIn K cd_l_spoilt "_law_spoilt" = true)
    (k_l_spoilt : PySem.W.keepIn K (.ref q_l_spoilt) = true)
    {q_l_body : Addr}
    {od_l_body an_l_body : Option Addr}
    {sl_l_body : Array (Option Value)}
    {oc_l_body kV_l_body dc_l_body pm_l_body cd_l_body ct_l_body : Value}
    (a_l_body : PySem.W.nsIn K mainGlobals "_law_body" = some (some (.ref q_l_body)))
    (l_l_body : K.lookup q_l_body = some ⟨oc_l_body, od_l_body, .func (PySem.W.fnOf "_law_body" "_law_body" (defArgs s_l_body) (defBody s_l_body) (defScope s_l_body) .none kV_l_body dc_l_body pm_l_body an_l_body cd_l_body ct_l_body), sl_l_body⟩)
    (c_l_body : PySem.W.codeIn K cd_l_body "_law_body" = true)
    (k_l_body : PySem.W.keepIn K (.ref q_l_body) = true)
    {q_l_heard : Addr}
    {od_l_heard an_l_heard : Option Addr}
    {sl_l_heard : Array (Option Value)}
    {oc_l_heard kV_l_heard dc_l_heard pm_l_heard cd_l_heard ct_l_heard : Value}
    (a_l_heard : PySem.W.nsIn K mainGlobals "_law_heard" = some (some (.ref q_l_heard)))
    (l_l_heard : K.lookup q_l_heard = some ⟨oc_l_heard, od_l_heard, .func (PySem.W.fnOf "_law_heard" "_law_heard" (defArgs s_l_heard) (defBody s_l_heard) (defScope s_l_heard) .none kV_l_heard dc_l_heard pm_l_heard an_l_heard cd_l_heard ct_l_heard), sl_l_heard⟩)
    (c_l_heard : PySem.W.codeIn K cd_l_heard "_law_heard" = true)
    (k_l_heard : PySem.W.keepIn K (.ref q_l_heard) = true)
    {q_l_text_right : Addr}
    {od_l_text_right an_l_text_right : Option Addr}
    {sl_l_text_right : Array (Option Value)}
    {oc_l_text_right kV_l_text_right dc_l_text_right pm_l_text_right cd_l_text_right ct_l_text_right : Value}
    (a_l_text_right : PySem.W.nsIn K mainGlobals "_law_text_right" = some (some (.ref q_l_text_right)))
    (l_l_text_right : K.lookup q_l_text_right = some ⟨oc_l_text_right, od_l_text_right, .func (PySem.W.fnOf "_law_text_right" "_law_text_right" (defArgs s_l_text_right) (defBody s_l_text_right) (defScope s_l_text_right) .none kV_l_text_right dc_l_text_right pm_l_text_right an_l_text_right cd_l_text_right ct_l_text_right), sl_l_text_right⟩)
    (c_l_text_right : PySem.W.codeIn K cd_l_text_right "_law_text_right" = true)
    (k_l_text_right : PySem.W.keepIn K (.ref q_l_text_right) = true)
    {q_l_right : Addr}
    {od_l_right an_l_right : Option Addr}
    {sl_l_right : Array (Option Value)}
    {oc_l_right kV_l_right dc_l_right pm_l_right ct_l_right : Value}
    {cc_l_right pp_l_right : Addr}
    (a_l_right : PySem.W.nsIn K mainGlobals "_law_right" = some (some (.ref q_l_right)))
    (l_l_right : K.lookup q_l_right = some ⟨oc_l_right, od_l_right, .func (PySem.W.fnOf "_law_right" "_law_right" (defArgs s_l_right) (defBody s_l_right) (defScope s_l_right) .none kV_l_right dc_l_right pm_l_right an_l_right (.ref cc_l_right) ct_l_right), sl_l_right⟩)
    (c_l_right : PySem.W.codeIn K (.ref cc_l_right) "_law_right" = true)
    (k_l_right : PySem.W.keepIn K (.ref q_l_right) = true)
    (h_l_right : PySem.W.codeHdIn K cc_l_right pp_l_right = true)
    (z_l_right : K.lookup pp_l_right = none)
    (t_l_right : h.get? pp_l_right = some (PySem.W.tabObj #[]))
    {q_law : Addr}
    {od_law an_law : Option Addr}
    {sl_law : Array (Option Value)}
    {oc_law kV_law dc_law pm_law ct_law : Value}
    {cc_law pp_law : Addr}
    (a_law : PySem.W.nsIn K mainGlobals "law" = some (some (.ref q_law)))
    (l_law : K.lookup q_law = some ⟨oc_law, od_law, .func (PySem.W.fnOf "law" "law" (defArgs s_law) (defBody s_law) (defScope s_law) .none kV_law dc_law pm_law an_law (.ref cc_law) ct_law), sl_law⟩)
    (c_law : PySem.W.codeIn K (.ref cc_law) "law" = true)
    (k_law : PySem.W.keepIn K (.ref q_law) = true)
    (h_law : PySem.W.codeHdIn K cc_law pp_law = true)
    (z_law : K.lookup pp_law = none)
    (t_law : h.get? pp_law = some (PySem.W.tabObj #[]))
    (d_l_right_law : pp_l_right ≠ pp_law)
    (n_abs : PySem.W.nsIn K mainGlobals "abs" = some none)
    (n_all : PySem.W.nsIn K mainGlobals "all" = some none)
    (n_bool : PySem.W.nsIn K mainGlobals "bool" = some none)
    (n_divmod : PySem.W.nsIn K mainGlobals "divmod" = some none)
    (n_enumerate : PySem.W.nsIn K mainGlobals "enumerate" = some none)
    (n_int : PySem.W.nsIn K mainGlobals "int" = some none)
    (n_isinstance : PySem.W.nsIn K mainGlobals "isinstance" = some none)
    (n_len : PySem.W.nsIn K mainGlobals "len" = some none)
    (n_list : PySem.W.nsIn K mainGlobals "list" = some none)
    (n_max : PySem.W.nsIn K mainGlobals "max" = some none)
    (n_min : PySem.W.nsIn K mainGlobals "min" = some none)
    (n_ord : PySem.W.nsIn K mainGlobals "ord" = some none)
    (n_range : PySem.W.nsIn K mainGlobals "range" = some none)
    (n_repr : PySem.W.nsIn K mainGlobals "repr" = some none)
    (n_str : PySem.W.nsIn K mainGlobals "str" = some none)
    (n_sum : PySem.W.nsIn K mainGlobals "sum" = some none)
    (n_tuple : PySem.W.nsIn K mainGlobals "tuple" = some none)
    {tk_LETTERS : Tok}
    (g_LETTERS : PySem.W.nsIn K mainGlobals "LETTERS" = some (some (.str "abcdefghijklmnopqrstuvwxyz" tk_LETTERS)))
    {tk_DIGITS_forms : Tok}
    (g_DIGITS_forms : PySem.W.nsIn K mainGlobals "DIGITS_forms" = some (some (.str "0123456789" tk_DIGITS_forms)))
    {tk_MINUS : Tok}
    (g_MINUS : PySem.W.nsIn K mainGlobals "MINUS" = some (some (.str "-" tk_MINUS)))
    {tk_MOST_NAME : Tok}
    (g_MOST_NAME : PySem.W.nsIn K mainGlobals "MOST_NAME" = some (some (.int 12 tk_MOST_NAME)))
    {tk_MOST_DIGITS : Tok}
    (g_MOST_DIGITS : PySem.W.nsIn K mainGlobals "MOST_DIGITS" = some (some (.int 13 tk_MOST_DIGITS)))
    {tk_SLIP : Tok}
    (g_SLIP : PySem.W.nsIn K mainGlobals "SLIP" = some (some (.str "slip" tk_SLIP)))
    {tk_VERBS_0 tk_VERBS_1 tk_VERBS_2 : Tok}
    {u_VERBS : Addr}
    {nn_VERBS : Nat}
    {ls_VERBS : Array (Option Value)}
    (g_VERBS : PySem.W.nsIn K mainGlobals "VERBS" = some (some (.ref u_VERBS)))
    (lk_VERBS : K.lookup u_VERBS = some ⟨.type "tuple", none, .seq #[.str "yields" tk_VERBS_0, .str "draws" tk_VERBS_1, .str "beats" tk_VERBS_2] nn_VERBS, ls_VERBS⟩)
    {tk_MOST_NUMBER : Tok}
    (g_MOST_NUMBER : PySem.W.nsIn K mainGlobals "MOST_NUMBER" = some (some (.int 99 tk_MOST_NUMBER)))
    {tk_PRIME : Tok}
    (g_PRIME : PySem.W.nsIn K mainGlobals "PRIME" = some (some (.int 997 tk_PRIME)))
    {tk_DIGITS_slips : Tok}
    (g_DIGITS_slips : PySem.W.nsIn K mainGlobals "DIGITS_slips" = some (some (.int 3 tk_DIGITS_slips)))
    {f_init td_init : Addr}
    {od_init an_init dd_init : Option Addr}
    {sl_init sm_init : Array (Option Value)}
    {oc_init kV_init dc_init pm_init cd_init ct_init cl_init : Value}
    {nn_init : Nat}
    {C_InvalidText : Addr}
    (ax_InvalidText : PySem.W.nsIn K mainGlobals "InvalidText" = some (some (.ref C_InvalidText)))
    {xo_InvalidText : Obj}
    (xl_InvalidText : K.lookup C_InvalidText = some xo_InvalidText)
    (xc_InvalidText : ∃ nm q N bs bm sn sub ab col dd k0 k1 k2 k3 k5, xo_InvalidText = excClassObj nm q C_InvalidText N bs bm true sn sub ab col dd k0 k1 k2 k3 k5 "ValueError.__new__" ∧ PySem.HandSPX.refsVE bm = true)
    (xs_InvalidText : PySem.W.findIn K (.ref C_InvalidText) "__setattr__" = some (some (.builtin "object.__setattr__")))
    (xb_InvalidText : PySem.W.subIn K (.ref C_InvalidText) (.type "BaseException") = some true)
    (xt_InvalidText : PySem.W.typeIn K (.ref C_InvalidText) = some (.type "type"))
    (xk_InvalidText : PySem.W.keepIn K (.ref C_InvalidText) = true)
    (xv_InvalidText : PySem.W.findIn K (.ref C_InvalidText) "value" = some none)
    (xi_InvalidText : PySem.W.findIn K (.ref C_InvalidText) "__init__" = some (some (.ref f_init)))
    (xg_InvalidText : PySem.W.findIn K (.ref C_InvalidText) "__getattribute__" = some (some (.builtin "BaseException.__getattribute__")))
    (xh_InvalidText : PySem.W.findIn K (.ref C_InvalidText) "__getattr__" = some none)
    (xd_InvalidText : PySem.W.hasDictIn K C_InvalidText = true)
    {C_InvalidSlip : Addr}
    (ax_InvalidSlip : PySem.W.nsIn K mainGlobals "InvalidSlip" = some (some (.ref C_InvalidSlip)))
    {xo_InvalidSlip : Obj}
    (xl_InvalidSlip : K.lookup C_InvalidSlip = some xo_InvalidSlip)
    (xc_InvalidSlip : ∃ nm q N bs bm sn sub ab col dd k0 k1 k2 k3 k5, xo_InvalidSlip = excClassObj nm q C_InvalidSlip N bs bm true sn sub ab col dd k0 k1 k2 k3 k5 "ValueError.__new__" ∧ PySem.HandSPX.refsVE bm = true)
    (xs_InvalidSlip : PySem.W.findIn K (.ref C_InvalidSlip) "__setattr__" = some (some (.builtin "object.__setattr__")))
    (xb_InvalidSlip : PySem.W.subIn K (.ref C_InvalidSlip) (.type "BaseException") = some true)
    (xt_InvalidSlip : PySem.W.typeIn K (.ref C_InvalidSlip) = some (.type "type"))
    (xk_InvalidSlip : PySem.W.keepIn K (.ref C_InvalidSlip) = true)
    (xv_InvalidSlip : PySem.W.findIn K (.ref C_InvalidSlip) "value" = some none)
    (xi_InvalidSlip : PySem.W.findIn K (.ref C_InvalidSlip) "__init__" = some (some (.ref f_init)))
    (xg_InvalidSlip : PySem.W.findIn K (.ref C_InvalidSlip) "__getattribute__" = some (some (.builtin "BaseException.__getattribute__")))
    (xh_InvalidSlip : PySem.W.findIn K (.ref C_InvalidSlip) "__getattr__" = some none)
    (xd_InvalidSlip : PySem.W.hasDictIn K C_InvalidSlip = true)
    (l_init : K.lookup f_init = some ⟨oc_init, od_init, .func (PySem.W.fnOf "__init__" "ContestError.__init__" (defArgs s_init) (defBody s_init) (defScope s_init) (.ref td_init) kV_init dc_init pm_init an_init cd_init ct_init), sl_init⟩)
    (c_init : PySem.W.codeIn K cd_init "ContestError.__init__" = true)
    (k_init : PySem.W.keepIn K (.ref f_init) = true)
    (lt_init : K.lookup td_init = some ⟨cl_init, dd_init, .seq #[Value.none] nn_init, sm_init⟩)
    (ty_init : PySem.W.typeIn K (.ref f_init) = some (.type "function"))
    {C_ContestError : Addr}
    (ax_ContestError : PySem.W.nsIn K mainGlobals "ContestError" = some (some (.ref C_ContestError)))
    (xn_InvalidSlip_value : PySem.W.findIn K (.ref C_InvalidSlip) "value" = some none)
    (xn_InvalidText_value : PySem.W.findIn K (.ref C_InvalidText) "value" = some none)
    (xi_InvalidSlip_ContestError : PySem.W.isIn K (.ref C_InvalidSlip) C_ContestError = true)
    (xi_InvalidText_ContestError : PySem.W.isIn K (.ref C_InvalidText) C_ContestError = true)
    (xe_InvalidSlip_InvalidSlip : PySem.W.exmOne K (.ref C_InvalidSlip) (.ref C_InvalidSlip) = some true)
    (xe_InvalidSlip_InvalidText : PySem.W.exmOne K (.ref C_InvalidSlip) (.ref C_InvalidText) = some false)
    (xe_InvalidText_InvalidSlip : PySem.W.exmOne K (.ref C_InvalidText) (.ref C_InvalidSlip) = some false)
    (xe_InvalidText_InvalidText : PySem.W.exmOne K (.ref C_InvalidText) (.ref C_InvalidText) = some true)
    : LawG PySem.Challenge.rw_contesthouse_k26_any_string_as_a_slip w K 9 63 "script" mg fa h := by
  have e := hfa.symm.trans (PySem.W.mg_of X G a_law)
  cases e
  let T : Tx K mg := {
    a_is_integer := q_is_integer,
    fd_is_integer := _,
    F_is_integer := fun_mk l_is_integer c_is_integer k_is_integer,
    g_is_integer := PySem.W.mg_of X G a_is_integer,
    b_is_integer := (fun_mk l_is_integer c_is_integer k_is_integer).binds (ps := ["value"]) fun _ _ _ _ _ _ us hl => match us, hl with | [_], _ => rfl,
    bk_is_integer := kw_all fun us hl => match us, hl with | [_], _ => rfl,
    a_is_within := q_is_within,
    fd_is_within := _,
    F_is_within := fun_mk l_is_within c_is_within k_is_within,
    g_is_within := PySem.W.mg_of X G a_is_within,
    b_is_within := (fun_mk l_is_within c_is_within k_is_within).binds (ps := ["value", "least", "most"]) fun _ _ _ _ _ _ us hl => match us, hl with | [_, _, _], _ => rfl,
    bk_is_within := kw_all fun us hl => match us, hl with | [_, _, _], _ => rfl,
    a_is_tuple := q_is_tuple,
    fd_is_tuple := _,
    F_is_tuple := fun_mk l_is_tuple c_is_tuple k_is_tuple,
    g_is_tuple := PySem.W.mg_of X G a_is_tuple,
    b_is_tuple := (fun_mk l_is_tuple c_is_tuple k_is_tuple).binds (ps := ["value", "many"]) fun _ _ _ _ _ _ us hl => match us, hl with | [_, _], _ => rfl,
    bk_is_tuple := kw_all fun us hl => match us, hl with | [_, _], _ => rfl,
    a_is_name_value := q_is_name_value,
    fd_is_name_value := _,
    F_is_name_value := fun_mk l_is_name_value c_is_name_value k_is_name_value,
    g_is_name_value := PySem.W.mg_of X G a_is_name_value,
    b_is_name_value := (fun_mk l_is_name_value c_is_name_value k_is_name_value).binds (ps := ["value"]) fun _ _ _ _ _ _ us hl => match us, hl with | [_], _ => rfl,
    bk_is_name_value := kw_all fun us hl => match us, hl with | [_], _ => rfl,
    a_number_in := q_number_in,
    fd_number_in := _,
    F_number_in := fun_mk l_number_in c_number_in k_number_in,
    g_number_in := PySem.W.mg_of X G a_number_in,
    b_number_in := (fun_mk l_number_in c_number_in k_number_in).binds (ps := ["token"]) fun _ _ _ _ _ _ us hl => match us, hl with | [_], _ => rfl,
    bk_number_in := kw_all fun us hl => match us, hl with | [_], _ => rfl,
    a_is_printed := q_is_printed,
    fd_is_printed := _,
    F_is_printed := fun_mk l_is_printed c_is_printed k_is_printed,
    g_is_printed := PySem.W.mg_of X G a_is_printed,
    b_is_printed := (fun_mk l_is_printed c_is_printed k_is_printed).binds (ps := ["value"]) fun _ _ _ _ _ _ us hl => match us, hl with | [_], _ => rfl,
    bk_is_printed := kw_all fun us hl => match us, hl with | [_], _ => rfl,
    a_is_slip_value := q_is_slip_value,
    fd_is_slip_value := _,
    F_is_slip_value := fun_mk l_is_slip_value c_is_slip_value k_is_slip_value,
    g_is_slip_value := PySem.W.mg_of X G a_is_slip_value,
    b_is_slip_value := (fun_mk l_is_slip_value c_is_slip_value k_is_slip_value).binds (ps := ["value"]) fun _ _ _ _ _ _ us hl => match us, hl with | [_], _ => rfl,
    bk_is_slip_value := kw_all fun us hl => match us, hl with | [_], _ => rfl,
    a_padded := q_padded,
    fd_padded := _,
    F_padded := fun_mk l_padded c_padded k_padded,
    g_padded := PySem.W.mg_of X G a_padded,
    b_padded := (fun_mk l_padded c_padded k_padded).binds (ps := ["number"]) fun _ _ _ _ _ _ us hl => match us, hl with | [_], _ => rfl,
    bk_padded := kw_all fun us hl => match us, hl with | [_], _ => rfl,
    a_check_in := q_check_in,
    fd_check_in := _,
    F_check_in := fun_mk l_check_in c_check_in k_check_in,
    g_check_in := PySem.W.mg_of X G a_check_in,
    b_check_in := (fun_mk l_check_in c_check_in k_check_in).binds (ps := ["body"]) fun _ _ _ _ _ _ us hl => match us, hl with | [_], _ => rfl,
    bk_check_in := kw_all fun us hl => match us, hl with | [_], _ => rfl,
    a_body_of := q_body_of,
    fd_body_of := _,
    F_body_of := fun_mk l_body_of c_body_of k_body_of,
    g_body_of := PySem.W.mg_of X G a_body_of,
    b_body_of := (fun_mk l_body_of c_body_of k_body_of).binds (ps := ["slip"]) fun _ _ _ _ _ _ us hl => match us, hl with | [_], _ => rfl,
    bk_body_of := kw_all fun us hl => match us, hl with | [_], _ => rfl,
    a_text_of := q_text_of,
    fd_text_of := _,
    F_text_of := fun_mk l_text_of c_text_of k_text_of,
    g_text_of := PySem.W.mg_of X G a_text_of,
    b_text_of := (fun_mk l_text_of c_text_of k_text_of).binds (ps := ["slip"]) fun _ _ _ _ _ _ us hl => match us, hl with | [_], _ => rfl,
    bk_text_of := kw_all fun us hl => match us, hl with | [_], _ => rfl,
    a_slip_in := q_slip_in,
    fd_slip_in := _,
    F_slip_in := fun_mk l_slip_in c_slip_in k_slip_in,
    g_slip_in := PySem.W.mg_of X G a_slip_in,
    b_slip_in := (fun_mk l_slip_in c_slip_in k_slip_in).binds (ps := ["text"]) fun _ _ _ _ _ _ us hl => match us, hl with | [_], _ => rfl,
    bk_slip_in := kw_all fun us hl => match us, hl with | [_], _ => rfl,
    a_is_slip := q_is_slip,
    fd_is_slip := _,
    F_is_slip := fun_mk l_is_slip c_is_slip k_is_slip,
    g_is_slip := PySem.W.mg_of X G a_is_slip,
    b_is_slip := (fun_mk l_is_slip c_is_slip k_is_slip).binds (ps := ["value"]) fun _ _ _ _ _ _ us hl => match us, hl with | [_], _ => rfl,
    bk_is_slip := kw_all fun us hl => match us, hl with | [_], _ => rfl,
    a_slip_text := q_slip_text,
    fd_slip_text := _,
    F_slip_text := fun_mk l_slip_text c_slip_text k_slip_text,
    g_slip_text := PySem.W.mg_of X G a_slip_text,
    b_slip_text := (fun_mk l_slip_text c_slip_text k_slip_text).binds (ps := ["slip"]) fun _ _ _ _ _ _ us hl => match us, hl with | [_], _ => rfl,
    bk_slip_text := kw_all fun us hl => match us, hl with | [_], _ => rfl,
    a_slip_of_text := q_slip_of_text,
    fd_slip_of_text := _,
    F_slip_of_text := fun_mk l_slip_of_text c_slip_of_text k_slip_of_text,
    g_slip_of_text := PySem.W.mg_of X G a_slip_of_text,
    b_slip_of_text := (fun_mk l_slip_of_text c_slip_of_text k_slip_of_text).binds (ps := ["text"]) fun _ _ _ _ _ _ us hl => match us, hl with | [_], _ => rfl,
    bk_slip_of_text := kw_all fun us hl => match us, hl with | [_], _ => rfl,
    a_check_of := q_check_of,
    fd_check_of := _,
    F_check_of := fun_mk l_check_of c_check_of k_check_of,
    g_check_of := PySem.W.mg_of X G a_check_of,
    b_check_of := (fun_mk l_check_of c_check_of k_check_of).binds (ps := ["text"]) fun _ _ _ _ _ _ us hl => match us, hl with | [_], _ => rfl,
    bk_check_of := kw_all fun us hl => match us, hl with | [_], _ => rfl,
    a_l_pot := q_l_pot,
    fd_l_pot := _,
    F_l_pot := fun_mk l_l_pot c_l_pot k_l_pot,
    g_l_pot := PySem.W.mg_of X G a_l_pot,
    b_l_pot := (fun_mk l_l_pot c_l_pot k_l_pot).binds (ps := ["script", "k"]) fun _ _ _ _ _ _ us hl => match us, hl with | [_, _], _ => rfl,
    bk_l_pot := kw_all fun us hl => match us, hl with | [_, _], _ => rfl,
    a_l_draw := q_l_draw,
    fd_l_draw := _,
    F_l_draw := fun_mk l_l_draw c_l_draw k_l_draw,
    g_l_draw := PySem.W.mg_of X G a_l_draw,
    b_l_draw := (fun_mk l_l_draw c_l_draw k_l_draw).binds (ps := ["pot", "many"]) fun _ _ _ _ _ _ us hl => match us, hl with | [_, _], _ => rfl,
    bk_l_draw := kw_all fun us hl => match us, hl with | [_, _], _ => rfl,
    a_l_pick := q_l_pick,
    fd_l_pick := _,
    F_l_pick := fun_mk l_l_pick c_l_pick k_l_pick,
    g_l_pick := PySem.W.mg_of X G a_l_pick,
    b_l_pick := (fun_mk l_l_pick c_l_pick k_l_pick).binds (ps := ["pot", "some"]) fun _ _ _ _ _ _ us hl => match us, hl with | [_, _], _ => rfl,
    bk_l_pick := kw_all fun us hl => match us, hl with | [_, _], _ => rfl,
    a_l_some := q_l_some,
    fd_l_some := _,
    F_l_some := fun_mk l_l_some c_l_some k_l_some,
    g_l_some := PySem.W.mg_of X G a_l_some,
    b_l_some := (fun_mk l_l_some c_l_some k_l_some).binds (ps := ["pot", "some", "many"]) fun _ _ _ _ _ _ us hl => match us, hl with | [_, _, _], _ => rfl,
    bk_l_some := kw_all fun us hl => match us, hl with | [_, _, _], _ => rfl,
    a_l_check := q_l_check,
    fd_l_check := _,
    F_l_check := fun_mk l_l_check c_l_check k_l_check,
    g_l_check := PySem.W.mg_of X G a_l_check,
    b_l_check := (fun_mk l_l_check c_l_check k_l_check).binds (ps := ["body"]) fun _ _ _ _ _ _ us hl => match us, hl with | [_], _ => rfl,
    bk_l_check := kw_all fun us hl => match us, hl with | [_], _ => rfl,
    a_l_slip_text := q_l_slip_text,
    fd_l_slip_text := _,
    F_l_slip_text := fun_mk l_l_slip_text c_l_slip_text k_l_slip_text,
    g_l_slip_text := PySem.W.mg_of X G a_l_slip_text,
    b_l_slip_text := (fun_mk l_l_slip_text c_l_slip_text k_l_slip_text).binds (ps := ["slip"]) fun _ _ _ _ _ _ us hl => match us, hl with | [_], _ => rfl,
    bk_l_slip_text := kw_all fun us hl => match us, hl with | [_], _ => rfl,
    a_l_slip_of := q_l_slip_of,
    fd_l_slip_of := _,
    F_l_slip_of := fun_mk l_l_slip_of c_l_slip_of k_l_slip_of,
    g_l_slip_of := PySem.W.mg_of X G a_l_slip_of,
    b_l_slip_of := (fun_mk l_l_slip_of c_l_slip_of k_l_slip_of).binds (ps := ["text"]) fun _ _ _ _ _ _ us hl => match us, hl with | [_], _ => rfl,
    bk_l_slip_of := kw_all fun us hl => match us, hl with | [_], _ => rfl,
    a_l_is_slip := q_l_is_slip,
    fd_l_is_slip := _,
    F_l_is_slip := fun_mk l_l_is_slip c_l_is_slip k_l_is_slip,
    g_l_is_slip := PySem.W.mg_of X G a_l_is_slip,
    b_l_is_slip := (fun_mk l_l_is_slip c_l_is_slip k_l_is_slip).binds (ps := ["value"]) fun _ _ _ _ _ _ us hl => match us, hl with | [_], _ => rfl,
    bk_l_is_slip := kw_all fun us hl => match us, hl with | [_], _ => rfl,
    a_l_drawn := q_l_drawn,
    fd_l_drawn := _,
    F_l_drawn := fun_mk l_l_drawn c_l_drawn k_l_drawn,
    g_l_drawn := PySem.W.mg_of X G a_l_drawn,
    b_l_drawn := (fun_mk l_l_drawn c_l_drawn k_l_drawn).binds (ps := ["pot"]) fun _ _ _ _ _ _ us hl => match us, hl with | [_], _ => rfl,
    bk_l_drawn := kw_all fun us hl => match us, hl with | [_], _ => rfl,
    a_l_spoilt := q_l_spoilt,
    fd_l_spoilt := _,
    F_l_spoilt := fun_mk l_l_spoilt c_l_spoilt k_l_spoilt,
    g_l_spoilt := PySem.W.mg_of X G a_l_spoilt,
    b_l_spoilt := (fun_mk l_l_spoilt c_l_spoilt k_l_spoilt).binds (ps := ["pot", "text"]) fun _ _ _ _ _ _ us hl => match us, hl with | [_, _], _ => rfl,
    bk_l_spoilt := kw_all fun us hl => match us, hl with | [_, _], _ => rfl,
    a_l_body := q_l_body,
    fd_l_body := _,
    F_l_body := fun_mk l_l_body c_l_body k_l_body,
    g_l_body := PySem.W.mg_of X G a_l_body,
    b_l_body := (fun_mk l_l_body c_l_body k_l_body).binds (ps := ["pot"]) fun _ _ _ _ _ _ us hl => match us, hl with | [_], _ => rfl,
    bk_l_body := kw_all fun us hl => match us, hl with | [_], _ => rfl,
    a_l_heard := q_l_heard,
    fd_l_heard := _,
    F_l_heard := fun_mk l_l_heard c_l_heard k_l_heard,
    g_l_heard := PySem.W.mg_of X G a_l_heard,
    b_l_heard := (fun_mk l_l_heard c_l_heard k_l_heard).binds (ps := ["call"]) fun _ _ _ _ _ _ us hl => match us, hl with | [_], _ => rfl,
    bk_l_heard := kw_all fun us hl => match us, hl with | [_], _ => rfl,
    a_l_text_right := q_l_text_right,
    fd_l_text_right := _,
    F_l_text_right := fun_mk l_l_text_right c_l_text_right k_l_text_right,
    g_l_text_right := PySem.W.mg_of X G a_l_text_right,
    b_l_text_right := (fun_mk l_l_text_right c_l_text_right k_l_text_right).binds (ps := ["text"]) fun _ _ _ _ _ _ us hl => match us, hl with | [_], _ => rfl,
    bk_l_text_right := kw_all fun us hl => match us, hl with | [_], _ => rfl,
    a_l_right := q_l_right,
    fd_l_right := _,
    F_l_right := funL_mk l_l_right c_l_right k_l_right,
    g_l_right := PySem.W.mg_of X G a_l_right,
    b_l_right := (funL_mk l_l_right c_l_right k_l_right).fun.binds (ps := ["pot"]) fun _ _ _ _ _ _ us hl => match us, hl with | [_], _ => rfl,
    bk_l_right := kw_all fun us hl => match us, hl with | [_], _ => rfl,
    cc_l_right := cc_l_right,
    pp_l_right := pp_l_right,
    a_law := fa,
    fd_law := _,
    F_law := funL_mk l_law c_law k_law,
    g_law := PySem.W.mg_of X G a_law,
    b_law := (funL_mk l_law c_law k_law).fun.binds (ps := ["script"]) fun _ _ _ _ _ _ us hl => match us, hl with | [_], _ => rfl,
    bk_law := kw_all fun us hl => match us, hl with | [_], _ => rfl,
    cc_law := cc_law,
    pp_law := pp_law,
    tabs := [(pp_l_right, ("_law_right" : Str) ++ ".<locals>." ++ "<lambda>"), (pp_law, ("law" : Str) ++ ".<locals>." ++ "<lambda>")],
    tm_l_right := by simp,
    tu_l_right := by
      intro p hp e
      simp only [List.mem_cons, List.not_mem_nil, or_false] at hp
      rcases hp with hp | hp <;> subst hp
      · rfl
      · exact absurd e.symm d_l_right_law,
    tm_law := by simp,
    tu_law := by
      intro p hp e
      simp only [List.mem_cons, List.not_mem_nil, or_false] at hp
      rcases hp with hp | hp <;> subst hp
      · exact absurd e d_l_right_law
      · rfl,
    n_abs := PySem.W.mg_none_of X G n_abs,
    n_all := PySem.W.mg_none_of X G n_all,
    n_bool := PySem.W.mg_none_of X G n_bool,
    n_divmod := PySem.W.mg_none_of X G n_divmod,
    n_enumerate := PySem.W.mg_none_of X G n_enumerate,
    n_int := PySem.W.mg_none_of X G n_int,
    n_isinstance := PySem.W.mg_none_of X G n_isinstance,
    n_len := PySem.W.mg_none_of X G n_len,
    n_list := PySem.W.mg_none_of X G n_list,
    n_max := PySem.W.mg_none_of X G n_max,
    n_min := PySem.W.mg_none_of X G n_min,
    n_ord := PySem.W.mg_none_of X G n_ord,
    n_range := PySem.W.mg_none_of X G n_range,
    n_repr := PySem.W.mg_none_of X G n_repr,
    n_str := PySem.W.mg_none_of X G n_str,
    n_sum := PySem.W.mg_none_of X G n_sum,
    n_tuple := PySem.W.mg_none_of X G n_tuple,
    g_LETTERS := ⟨_, PySem.W.mg_of X G g_LETTERS⟩,
    g_DIGITS_forms := ⟨_, PySem.W.mg_of X G g_DIGITS_forms⟩,
    g_MINUS := ⟨_, PySem.W.mg_of X G g_MINUS⟩,
    g_MOST_NAME := ⟨_, PySem.W.mg_of X G g_MOST_NAME⟩,
    g_MOST_DIGITS := ⟨_, PySem.W.mg_of X G g_MOST_DIGITS⟩,
    g_SLIP := ⟨_, PySem.W.mg_of X G g_SLIP⟩,
    u_VERBS := u_VERBS,
    g_VERBS := PySem.W.mg_of X G g_VERBS,
    s_VERBS := sqT_mk lk_VERBS (by simp) (.cons ⟨_, rfl⟩ (.cons ⟨_, rfl⟩ (.cons ⟨_, rfl⟩ (.nil)))),
    t_VERBS := ⟨_, lk_VERBS, rfl, rfl⟩,
    g_MOST_NUMBER := ⟨_, PySem.W.mg_of X G g_MOST_NUMBER⟩,
    g_PRIME := ⟨_, PySem.W.mg_of X G g_PRIME⟩,
    g_DIGITS_slips := ⟨_, PySem.W.mg_of X G g_DIGITS_slips⟩,
    C_InvalidText := C_InvalidText,
    xm_InvalidText := PySem.W.mg_of X G ax_InvalidText,
    x_InvalidText := ⟨by obtain ⟨nm, q, N, bs, bm, sn, sub, ab, col, dd, k0, k1, k2, k3, k5, e1, e2⟩ := xc_InvalidText; exact ⟨nm, q, N, bs, bm, sn, sub, ab, col, dd, k0, k1, k2, k3, k5, xl_InvalidText.trans (congrArg some e1), e2⟩, xs_InvalidText, xb_InvalidText, xt_InvalidText, xk_InvalidText⟩,
    xf_InvalidText := xv_InvalidText,
    xi_InvalidText := xi_InvalidText,
    xx_InvalidText := ⟨xg_InvalidText, xh_InvalidText, xb_InvalidText, xd_InvalidText⟩,
    C_InvalidSlip := C_InvalidSlip,
    xm_InvalidSlip := PySem.W.mg_of X G ax_InvalidSlip,
    x_InvalidSlip := ⟨by obtain ⟨nm, q, N, bs, bm, sn, sub, ab, col, dd, k0, k1, k2, k3, k5, e1, e2⟩ := xc_InvalidSlip; exact ⟨nm, q, N, bs, bm, sn, sub, ab, col, dd, k0, k1, k2, k3, k5, xl_InvalidSlip.trans (congrArg some e1), e2⟩, xs_InvalidSlip, xb_InvalidSlip, xt_InvalidSlip, xk_InvalidSlip⟩,
    xf_InvalidSlip := xv_InvalidSlip,
    xi_InvalidSlip := xi_InvalidSlip,
    xx_InvalidSlip := ⟨xg_InvalidSlip, xh_InvalidSlip, xb_InvalidSlip, xd_InvalidSlip⟩,
    a_init := f_init,
    fd_init := _,
    F_init := (funD_mk (its := [Value.none]) (dvs := [V.non]) (osl2 := #[]) l_init c_init k_init (List.cons_ne_nil _ _) lt_init rfl (.cons rfl .nil)),
    xb := by
      obtain ⟨ds, h1, h2⟩ := (funD_mk (its := [Value.none]) (dvs := [V.non]) (osl2 := #[]) l_init c_init k_init (List.cons_ne_nil _ _) lt_init rfl (.cons rfl .nil)).binds1 (ps := ["self", "value"]) 2 1 (List.cons_ne_nil _ _) rfl fun T kV doc pm an cdv ct us its hl hi => match us, its, hl, hi with | [_, _], [_], _, _ => ⟨_, rfl, rfl⟩
      cases h1
      exact h2,
    xt := ty_init,
    C_ContestError := C_ContestError,
    xm_ContestError := PySem.W.mg_of X G ax_ContestError,
    xn_InvalidSlip_value := xn_InvalidSlip_value,
    xn_InvalidText_value := xn_InvalidText_value,
    xi_InvalidSlip_ContestError := xi_InvalidSlip_ContestError,
    xi_InvalidText_ContestError := xi_InvalidText_ContestError,
    xe_InvalidSlip_InvalidSlip := xe_InvalidSlip_InvalidSlip,
    xe_InvalidSlip_InvalidText := xe_InvalidSlip_InvalidText,
    xe_InvalidText_InvalidSlip := xe_InvalidText_InvalidSlip,
    xe_InvalidText_InvalidText := xe_InvalidText_InvalidText }
  refine ⟨T.fd_law, [(cc_l_right, pp_l_right), (cc_law, pp_law)], T.tabs, f_law, List.forall_mem_cons.mpr ⟨t_l_right, List.forall_mem_cons.mpr ⟨t_law, fun _ h => nomatch h⟩⟩, List.forall_mem_cons.mpr ⟨z_l_right, List.forall_mem_cons.mpr ⟨z_law, fun _ h => nomatch h⟩⟩, List.forall_mem_cons.mpr ⟨PySem.W.codeHd_of_K X h_l_right, List.forall_mem_cons.mpr ⟨PySem.W.codeHd_of_K X h_law, fun _ h => nomatch h⟩⟩, ?_, fun s v => .of_eq rfl, law_true, fun base _ _ TB => ok_law T ⟨TB (cc_l_right, pp_l_right) (by simp), TB (cc_law, pp_law) (by simp)⟩⟩
  exact List.forall_mem_cons.mpr ⟨by simp, List.forall_mem_cons.mpr ⟨by simp, fun _ h => nomatch h⟩⟩
end K26
end L2
open PySem PySem.W PyProof.Rows
set_option maxHeartbeats 0 in
theorem PySem.Challenge.cw_contesthouse_k26_any_string_as_a_slip_holds : PySem.Challenge.rw_contesthouse_k26_any_string_as_a_slip.Holds := by
  w_on; o_law; k_head; (case hw => w_witness2)
  k_fill
  refine L2.PL.walk_G (l := PySem.Challenge.rw_contesthouse_k26_any_string_as_a_slip) (n := 63) (k := 9) (x := "script") rfl (by decide) rfl ⟨rfl, by decide, by decide⟩ (fun w h Y => Y.1) ?F
  case F =>
    intro w mg fa h Y KX G hmg
    refine' L2.K26.law_mk (pp_l_right := 251) (pp_law := 256) KX G hmg ?a_is_integer ?l_is_integer ?c_is_integer ?k_is_integer ?a_is_within ?l_is_within ?c_is_within ?k_is_within ?a_is_tuple ?l_is_tuple ?c_is_tuple ?k_is_tuple ?a_is_name_value ?l_is_name_value ?c_is_name_value ?k_is_name_value ?a_number_in ?l_number_in ?c_number_in ?k_number_in ?a_is_printed ?l_is_printed ?c_is_printed ?k_is_printed ?a_is_slip_value ?l_is_slip_value ?c_is_slip_value ?k_is_slip_value ?a_padded ?l_padded ?c_padded ?k_padded ?a_check_in ?l_check_in ?c_check_in ?k_check_in ?a_body_of ?l_body_of ?c_body_of ?k_body_of ?a_text_of ?l_text_of ?c_text_of ?k_text_of ?a_slip_in ?l_slip_in ?c_slip_in ?k_slip_in ?a_is_slip ?l_is_slip ?c_is_slip ?k_is_slip ?a_slip_text ?l_slip_text ?c_slip_text ?k_slip_text ?a_slip_of_text ?l_slip_of_text ?c_slip_of_text ?k_slip_of_text ?a_check_of ?l_check_of ?c_check_of ?k_check_of ?a_l_pot ?l_l_pot ?c_l_pot ?k_l_pot ?a_l_draw ?l_l_draw ?c_l_draw ?k_l_draw ?a_l_pick ?l_l_pick ?c_l_pick ?k_l_pick ?a_l_some ?l_l_some ?c_l_some ?k_l_some ?a_l_check ?l_l_check ?c_l_check ?k_l_check ?a_l_slip_text ?l_l_slip_text ?c_l_slip_text ?k_l_slip_text ?a_l_slip_of ?l_l_slip_of ?c_l_slip_of ?k_l_slip_of ?a_l_is_slip ?l_l_is_slip ?c_l_is_slip ?k_l_is_slip ?a_l_drawn ?l_l_drawn ?c_l_drawn ?k_l_drawn ?a_l_spoilt ?l_l_spoilt ?c_l_spoilt ?k_l_spoilt ?a_l_body ?l_l_body ?c_l_body ?k_l_body ?a_l_heard ?l_l_heard ?c_l_heard ?k_l_heard ?a_l_text_right ?l_l_text_right ?c_l_text_right ?k_l_text_right ?a_l_right ?l_l_right ?c_l_right ?k_l_right ?h_l_right ?z_l_right ?t_l_right ?a_law ?l_law ?c_law ?k_law ?h_law ?z_law ?t_law ?d_l_right_law ?n_abs ?n_all ?n_bool ?n_divmod ?n_enumerate ?n_int ?n_isinstance ?n_len ?n_list ?n_max ?n_min ?n_ord ?n_range ?n_repr ?n_str ?n_sum ?n_tuple ?g_LETTERS ?g_DIGITS_forms ?g_MINUS ?g_MOST_NAME ?g_MOST_DIGITS ?g_SLIP ?g_VERBS ?lk_VERBS ?g_MOST_NUMBER ?g_PRIME ?g_DIGITS_slips ?ax_InvalidText ?xl_InvalidText ?xc_InvalidText ?xs_InvalidText ?xb_InvalidText ?xt_InvalidText ?xk_InvalidText ?xv_InvalidText ?xi_InvalidText ?xg_InvalidText ?xh_InvalidText ?xd_InvalidText ?ax_InvalidSlip ?xl_InvalidSlip ?xc_InvalidSlip ?xs_InvalidSlip ?xb_InvalidSlip ?xt_InvalidSlip ?xk_InvalidSlip ?xv_InvalidSlip ?xi_InvalidSlip ?xg_InvalidSlip ?xh_InvalidSlip ?xd_InvalidSlip ?l_init ?c_init ?k_init ?lt_init ?ty_init ?ax_ContestError ?xn_InvalidSlip_value ?xn_InvalidText_value ?xi_InvalidSlip_ContestError ?xi_InvalidText_ContestError ?xe_InvalidSlip_InvalidSlip ?xe_InvalidSlip_InvalidText ?xe_InvalidText_InvalidSlip ?xe_InvalidText_InvalidText
    (case a_is_integer => k_is)
    (case l_is_integer => k_is)
    (case c_is_integer => k_is)
    (case k_is_integer => k_is)
    (case a_is_within => k_is)
    (case l_is_within => k_is)
    (case c_is_within => k_is)
    (case k_is_within => k_is)
    (case a_is_tuple => k_is)
    (case l_is_tuple => k_is)
    (case c_is_tuple => k_is)
    (case k_is_tuple => k_is)
    (case a_is_name_value => k_is)
    (case l_is_name_value => k_is)
    (case c_is_name_value => k_is)
    (case k_is_name_value => k_is)
    (case a_number_in => k_is)
    (case l_number_in => k_is)
    (case c_number_in => k_is)
    (case k_number_in => k_is)
    (case a_is_printed => k_is)
    (case l_is_printed => k_is)
    (case c_is_printed => k_is)
    (case k_is_printed => k_is)
    (case a_is_slip_value => k_is)
    (case l_is_slip_value => k_is)
    (case c_is_slip_value => k_is)
    (case k_is_slip_value => k_is)
    (case a_padded => k_is)
    (case l_padded => k_is)
    (case c_padded => k_is)
    (case k_padded => k_is)
    (case a_check_in => k_is)
    (case l_check_in => k_is)
    (case c_check_in => k_is)
    (case k_check_in => k_is)
    (case a_body_of => k_is)
    (case l_body_of => k_is)
    (case c_body_of => k_is)
    (case k_body_of => k_is)
    (case a_text_of => k_is)
    (case l_text_of => k_is)
    (case c_text_of => k_is)
    (case k_text_of => k_is)
    (case a_slip_in => k_is)
    (case l_slip_in => k_is)
    (case c_slip_in => k_is)
    (case k_slip_in => k_is)
    (case a_is_slip => k_is)
    (case l_is_slip => k_is)
    (case c_is_slip => k_is)
    (case k_is_slip => k_is)
    (case a_slip_text => k_is)
    (case l_slip_text => k_is)
    (case c_slip_text => k_is)
    (case k_slip_text => k_is)
    (case a_slip_of_text => k_is)
    (case l_slip_of_text => k_is)
    (case c_slip_of_text => k_is)
    (case k_slip_of_text => k_is)
    (case a_check_of => k_is)
    (case l_check_of => k_is)
    (case c_check_of => k_is)
    (case k_check_of => k_is)
    (case a_l_pot => k_is)
    (case l_l_pot => k_is)
    (case c_l_pot => k_is)
    (case k_l_pot => k_is)
    (case a_l_draw => k_is)
    (case l_l_draw => k_is)
    (case c_l_draw => k_is)
    (case k_l_draw => k_is)
    (case a_l_pick => k_is)
    (case l_l_pick => k_is)
    (case c_l_pick => k_is)
    (case k_l_pick => k_is)
    (case a_l_some => k_is)
    (case l_l_some => k_is)
    (case c_l_some => k_is)
    (case k_l_some => k_is)
    (case a_l_check => k_is)
    (case l_l_check => k_is)
    (case c_l_check => k_is)
    (case k_l_check => k_is)
    (case a_l_slip_text => k_is)
    (case l_l_slip_text => k_is)
    (case c_l_slip_text => k_is)
    (case k_l_slip_text => k_is)
    (case a_l_slip_of => k_is)
    (case l_l_slip_of => k_is)
    (case c_l_slip_of => k_is)
    (case k_l_slip_of => k_is)
    (case a_l_is_slip => k_is)
    (case l_l_is_slip => k_is)
    (case c_l_is_slip => k_is)
    (case k_l_is_slip => k_is)
    (case a_l_drawn => k_is)
    (case l_l_drawn => k_is)
    (case c_l_drawn => k_is)
    (case k_l_drawn => k_is)
    (case a_l_spoilt => k_is)
    (case l_l_spoilt => k_is)
    (case c_l_spoilt => k_is)
    (case k_l_spoilt => k_is)
    (case a_l_body => k_is)
    (case l_l_body => k_is)
    (case c_l_body => k_is)
    (case k_l_body => k_is)
    (case a_l_heard => k_is)
    (case l_l_heard => k_is)
    (case c_l_heard => k_is)
    (case k_l_heard => k_is)
    (case a_l_text_right => k_is)
    (case l_l_text_right => k_is)
    (case c_l_text_right => k_is)
    (case k_l_text_right => k_is)
    (case a_l_right => k_is)
    (case l_l_right => k_is)
    (case c_l_right => k_is)
    (case k_l_right => k_is)
    (case h_l_right => kernel_rfl)
    (case z_l_right => kernel_rfl)
    (case t_l_right => exact PySem.W.km_tabs_of Y _ (by decide))
    (case a_law => k_is)
    (case l_law => k_is)
    (case c_law => k_is)
    (case k_law => k_is)
    (case h_law => kernel_rfl)
    (case z_law => kernel_rfl)
    (case t_law => exact PySem.W.km_tabs_of Y _ (by decide))
    (case d_l_right_law => decide)
    (case n_abs => k_is)
    (case n_all => k_is)
    (case n_bool => k_is)
    (case n_divmod => k_is)
    (case n_enumerate => k_is)
    (case n_int => k_is)
    (case n_isinstance => k_is)
    (case n_len => k_is)
    (case n_list => k_is)
    (case n_max => k_is)
    (case n_min => k_is)
    (case n_ord => k_is)
    (case n_range => k_is)
    (case n_repr => k_is)
    (case n_str => k_is)
    (case n_sum => k_is)
    (case n_tuple => k_is)
    (case g_LETTERS => k_is)
    (case g_DIGITS_forms => k_is)
    (case g_MINUS => k_is)
    (case g_MOST_NAME => k_is)
    (case g_MOST_DIGITS => k_is)
    (case g_SLIP => k_is)
    (case g_VERBS => k_is)
    (case lk_VERBS => k_is)
    (case g_MOST_NUMBER => k_is)
    (case g_PRIME => k_is)
    (case g_DIGITS_slips => k_is)
    (case ax_InvalidText => k_is)
    (case xl_InvalidText => k_is)
    (case xc_InvalidText => exact ⟨_, _, _, _, _, _, _, _, _, _, _, _, _, _, _, rfl, rfl⟩)
    (case xs_InvalidText => k_is)
    (case xb_InvalidText => k_is)
    (case xt_InvalidText => k_is)
    (case xk_InvalidText => k_is)
    (case xv_InvalidText => k_is)
    (case xi_InvalidText => k_is)
    (case xg_InvalidText => k_is)
    (case xh_InvalidText => k_is)
    (case xd_InvalidText => k_is)
    (case ax_InvalidSlip => k_is)
    (case xl_InvalidSlip => k_is)
    (case xc_InvalidSlip => exact ⟨_, _, _, _, _, _, _, _, _, _, _, _, _, _, _, rfl, rfl⟩)
    (case xs_InvalidSlip => k_is)
    (case xb_InvalidSlip => k_is)
    (case xt_InvalidSlip => k_is)
    (case xk_InvalidSlip => k_is)
    (case xv_InvalidSlip => k_is)
    (case xi_InvalidSlip => k_is)
    (case xg_InvalidSlip => k_is)
    (case xh_InvalidSlip => k_is)
    (case xd_InvalidSlip => k_is)
    (case l_init => k_is)
    (case c_init => k_is)
    (case k_init => k_is)
    (case lt_init => k_is)
    (case ty_init => k_is)
    (case ax_ContestError => k_is)
    (case xn_InvalidSlip_value => k_is)
    (case xn_InvalidText_value => k_is)
    (case xi_InvalidSlip_ContestError => k_is)
    (case xi_InvalidText_ContestError => k_is)
    (case xe_InvalidSlip_InvalidSlip => kernel_rfl)
    (case xe_InvalidSlip_InvalidText => kernel_rfl)
    (case xe_InvalidText_InvalidSlip => kernel_rfl)
    (case xe_InvalidText_InvalidText => kernel_rfl)
