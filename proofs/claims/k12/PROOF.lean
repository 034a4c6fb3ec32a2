import PyProof.Rows.All
import Wide.All
import OpenK.AllK
import Wide.FinOn
import PySem.Challenge.RW_contesthouse_k12_events_as_texts_of_any
import HandS.ForMost
import HandS.ForExc
import HandS.Lambda
import HandS.ExcInit
import HandS.TryMany
import HandS.IsInst
import HandS.Wide
import HandS.TupAny
import PyProof.StrOps2
import PyProof.ListStr
import HandS.Deep
import HandS.Strs
import HandS.Style
import HandS.TupLe
import HandS.NoneIn
import HandS.CallSlots
import HandS.Defaults
import HandS.ExcField
import HandS.EndTab
set_option Elab.async false
set_option linter.all false
set_option maxRecDepth 100000
/-! PL: a layer of pure judgements over the hand layer. -/
namespace L2
namespace PL
open PySem PySem.Spec PyProof.Rows

/-! ### data -/
inductive D where
  | non | bl (b : Bool) | int (i : Int) | str (x : Str) | lst (xs : List D) | tup (xs : List D) | dct (kvs : List (Key × D))
  /-- a list that is read only -/
  | fz (xs : List D)

mutual
/-- the value v is the data d, read in the ground heap G -/
inductive Rep (K : PySem.W.Frag) (G : Hp) : V → D → Prop
  | non : Rep K G .non .non
  | bl (b : Bool) : Rep K G (.bl b) (.bl b)
  | int (i : Int) : Rep K G (.int i) (.int i)
  | str (x : Str) : Rep K G (.str x) (.str x)
  | lst {a : Addr} {xs : List V} {ds : List D} : G a = some (.lst xs) → Reps K G xs ds → Rep K G (.ref a) (.lst ds)
  | tup {a : Addr} {xs : List V} {ds : List D} : SqT K G a xs → Reps K G xs ds → Rep K G (.ref a) (.tup ds)
  | dct {a : Addr} {kvs : List (Key × V)} {ds : List (Key × D)} : G a = some (.dK kvs) → RepKs K G kvs ds → Rep K G (.ref a) (.dct ds)
  | fz {a : Addr} {xs : List V} {ds : List D} : SqL K G a xs → Reps K G xs ds → Rep K G (.ref a) (.fz ds)
inductive Reps (K : PySem.W.Frag) (G : Hp) : List V → List D → Prop
  | nil : Reps K G [] []
  | cons {v : V} {vs : List V} {d : D} {ds : List D} : Rep K G v d → Reps K G vs ds → Reps K G (v :: vs) (d :: ds)
inductive RepKs (K : PySem.W.Frag) (G : Hp) : List (Key × V) → List (Key × D) → Prop
  | nil : RepKs K G [] []
  | cons {k : Key} {v : V} {vs : List (Key × V)} {d : D} {ds : List (Key × D)} : Rep K G v d → RepKs K G vs ds → RepKs K G ((k, v) :: vs) ((k, d) :: ds)
end

def Sub (G H : Hp) : Prop := ∀ b o, G b = some o → H b = some o
/-- no table of code objects stands there -/
def NT (G : Hp) : Prop := ∀ b ps, G b ≠ some (.tbl ps)
theorem NT.upd {G : Hp} {p : Addr} {o : HO} (h : NT G) (ho : ∀ ps, o ≠ .tbl ps) : NT (upd G p o) := fun b ps e => by
  by_cases hb : b = p
  · subst hb; rw [upd_same] at e; exact ho ps (Option.some.inj e)
  · rw [upd_ne hb] at e; exact h b ps e
theorem Sub.refl (H : Hp) : Sub H H := fun _ _ h => h
theorem Sub.trans {A B C : Hp} (a : Sub A B) (b : Sub B C) : Sub A C := fun x o h => b x o (a x o h)
theorem Sub.sqT {K : PySem.W.Frag} {G H : Hp} {a : Addr} {xs : List V} (s : Sub G H) (h : SqT K G a xs) : SqT K H a xs := by
  rcases h with (h | ⟨o, h⟩) | h
  · exact .inl (.inl (s _ _ h))
  · exact .inl (.inr ⟨o, s _ _ h⟩)
  · exact .inr h

theorem Sub.sqL' {K : PySem.W.Frag} {G H : Hp} {a : Addr} {xs : List V} (s : Sub G H) (h : SqL K G a xs) : SqL K H a xs := by
  rcases h with (h | ⟨o, h⟩) | h
  · exact .inl (.inl (s _ _ h))
  · exact .inl (.inr ⟨o, s _ _ h⟩)
  · exact .inr h
section
variable {K : PySem.W.Frag} {G H : Hp}
mutual
theorem Rep.sub (s : Sub G H) : ∀ {d : D} {v : V}, Rep K G v d → Rep K H v d
  | .non, _, h => by cases h; exact .non
  | .bl b, _, h => by cases h; exact .bl b
  | .int i, _, h => by cases h; exact .int i
  | .str x, _, h => by cases h; exact .str x
  | .lst ds, _, h => by
    cases h with
    | lst h1 h2 => exact .lst (s _ _ h1) (Reps.sub s h2)
  | .tup ds, _, h => by
    cases h with
    | tup h1 h2 => exact .tup (s.sqT h1) (Reps.sub s h2)
  | .dct ds, _, h => by
    cases h with
    | dct h1 h2 => exact .dct (s _ _ h1) (RepKs.sub s h2)
  | .fz ds, _, h => by
    cases h with
    | fz h1 h2 => exact .fz (s.sqL' h1) (Reps.sub s h2)
theorem Reps.sub (s : Sub G H) : ∀ {ds : List D} {vs : List V}, Reps K G vs ds → Reps K H vs ds
  | [], _, h => by cases h; exact .nil
  | d :: ds, _, h => by
    cases h with
    | cons h1 h2 => exact .cons (Rep.sub s h1) (Reps.sub s h2)
theorem RepKs.sub (s : Sub G H) : ∀ {ds : List (Key × D)} {vs : List (Key × V)}, RepKs K G vs ds → RepKs K H vs ds
  | [], _, h => by cases h; exact .nil
  | (k, d) :: ds, _, h => by
    cases h with
    | cons h1 h2 => exact .cons (Rep.sub s h1) (RepKs.sub s h2)
end
theorem Reps.length : ∀ {vs : List V} {ds : List D}, Reps K G vs ds → vs.length = ds.length
  | _, [], h => by cases h; rfl
  | _, d :: ds, h => by
    cases h with
    | cons h1 h2 => exact congrArg (· + 1) (Reps.length h2)
theorem Reps.get : ∀ {ds : List D} {vs : List V} {i : Nat} {d : D}, Reps K G vs ds → ds[i]? = some d → ∃ v, vs[i]? = some v ∧ Rep K G v d
  | [], _, i, d, _, e => by simp at e
  | x :: ds, _, 0, d, h, e => by
    cases h with
    | cons h1 h2 =>
      have e' : x = d := by simpa using e
      subst e'
      exact ⟨_, rfl, h1⟩
  | x :: ds, _, i + 1, d, h, e => by
    cases h with
    | cons h1 h2 =>
      obtain ⟨v, q1, q2⟩ := Reps.get (i := i) (d := d) h2 (by simpa using e)
      exact ⟨v, by simpa using q1, q2⟩
theorem Reps.append : ∀ {ds es : List D} {vs ws : List V}, Reps K G vs ds → Reps K G ws es → Reps K G (vs ++ ws) (ds ++ es)
  | [], _, _, _, h, g => by cases h; exact g
  | d :: ds, es, _, ws, h, g => by
    cases h with
    | cons h1 h2 => exact .cons h1 (Reps.append h2 g)
theorem Reps.take : ∀ {ds : List D} {vs : List V} (n : Nat), Reps K G vs ds → Reps K G (vs.take n) (ds.take n)
  | [], _, n, h => by cases h; simp; exact .nil
  | d :: ds, _, 0, h => by
    cases h with
    | cons h1 h2 => exact .nil
  | d :: ds, _, n + 1, h => by
    cases h with
    | cons h1 h2 => exact .cons h1 (Reps.take n h2)
theorem Reps.drop : ∀ {ds : List D} {vs : List V} (n : Nat), Reps K G vs ds → Reps K G (vs.drop n) (ds.drop n)
  | [], _, n, h => by cases h; simp; exact .nil
  | d :: ds, _, 0, h => h
  | d :: ds, _, n + 1, h => by
    cases h with
    | cons h1 h2 => exact Reps.drop n h2
theorem Reps.eraseIdx : ∀ {ds : List D} {vs : List V} (n : Nat), Reps K G vs ds → Reps K G (vs.eraseIdx n) (ds.eraseIdx n)
  | [], _, n, h => by cases h; exact .nil
  | d :: ds, _, 0, h => by
    cases h with
    | cons h1 h2 => exact h2
  | d :: ds, _, n + 1, h => by
    cases h with
    | cons h1 h2 => exact .cons h1 (Reps.eraseIdx n h2)
theorem Reps.set : ∀ {ds : List D} {vs : List V} (n : Nat) {v : V} {d : D}, Reps K G vs ds → Rep K G v d → Reps K G (vs.set n v) (ds.set n d)
  | [], _, n, _, _, h, _ => by cases h; exact .nil
  | d :: ds, _, 0, _, _, h, r => by
    cases h with
    | cons h1 h2 => exact .cons r h2
  | d :: ds, _, n + 1, _, _, h, r => by
    cases h with
    | cons h1 h2 => exact .cons h1 (Reps.set n h2 r)
theorem Reps.strs : ∀ {ss : List Str} {vs : List V}, Reps K G vs (ss.map D.str) → vs = ss.map V.str
  | [], _, h => by cases h; rfl
  | s :: ss, _, h => by
    cases h with
    | cons h1 h2 => cases h1; rw [Reps.strs h2]; rfl
theorem Reps.of_strs : ∀ (ss : List Str), Reps K G (ss.map V.str) (ss.map D.str)
  | [] => .nil
  | s :: ss => .cons (.str s) (Reps.of_strs ss)
theorem Reps.ints : ∀ {ss : List Int} {vs : List V}, Reps K G vs (ss.map D.int) → vs = ss.map V.int
  | [], _, h => by cases h; rfl
  | s :: ss, _, h => by
    cases h with
    | cons h1 h2 => cases h1; rw [Reps.ints h2]; rfl
theorem Reps.of_ints : ∀ (ss : List Int), Reps K G (ss.map V.int) (ss.map D.int)
  | [] => .nil
  | s :: ss => .cons (.int s) (Reps.of_ints ss)
theorem Reps.bls : ∀ {ss : List Bool} {vs : List V}, Reps K G vs (ss.map D.bl) → vs = ss.map V.bl
  | [], _, h => by cases h; rfl
  | s :: ss, _, h => by
    cases h with
    | cons h1 h2 => cases h1; rw [Reps.bls h2]; rfl
theorem Reps.snoc {ds : List D} {vs : List V} {v : V} {d : D} (h : Reps K G vs ds) (r : Rep K G v d) : Reps K G (vs ++ [v]) (ds ++ [d]) := h.append (.cons r .nil)
theorem Reps.rep : ∀ (k : Nat) {ds : List D} {vs : List V}, Reps K G vs ds → Reps K G (List.replicate k vs).flatten (List.replicate k ds).flatten
  | 0, _, _, _ => .nil
  | k + 1, _, _, h => by
    rw [List.replicate_succ, List.replicate_succ, List.flatten_cons, List.flatten_cons]
    exact h.append (Reps.rep k h)
end

/-! ### slots -/
inductive SV where
  | un | d (x : D) | own (xs : List D)
  /-- a list of lambdas of the def, by number -/
  | lams (js : List Nat)
abbrev PEnv := List SV
/-- static: the tables of code objects, the slots that are the caller's own lists, the def's lambdas and their code objects' name -/
structure Cz where
  T : List (Addr × Str)
  io : List (Nat × Addr)
  lam : Nat → Addr → Addr → HO := fun _ _ _ => .lst []
  lq : Str := ""
def LamsAt (c : Cz) (G H : Hp) (js : List Nat) (v : V) : Prop := ∃ (a : Addr) (fs : List Addr), v = .ref a ∧ G a = some (.lst (fs.map V.ref)) ∧ Paired (fun (f : Addr) (j : Nat) => ∃ c', G f = some (c.lam j f c') ∧ H c' = some (LamX.CodeO c' c.lq)) fs js
theorem LamsAt.mono {c : Cz} {G H G' H' : Hp} {js : List Nat} {v : V} (h : LamsAt c G H js v) (s : ∀ b o, G b = some o → G' b = some o) (k : ∀ b q, H b = some (LamX.CodeO b q) → H' b = some (LamX.CodeO b q)) : LamsAt c G' H' js v := by
  obtain ⟨a, fs, h1, h2, h3⟩ := h
  exact ⟨a, fs, h1, s _ _ h2, L2.Paired.mapP h3 fun f j ⟨c', q1, q2⟩ => ⟨c', s _ _ q1, k _ _ q2⟩⟩
def SlotOk (K : PySem.W.Frag) (c : Cz) (G H : Hp) : SV → Option V → Prop
  | .un, _ => True
  | .d x, some v => Rep K G v x
  | .d _, none => False
  | .own xs, some v => ∃ a vs, v = .ref a ∧ H a = some (.lst vs) ∧ Reps K G vs xs ∧ G a = none
  | .own _, none => False
  | .lams js, some v => LamsAt c G H js v
  | .lams _, none => False
theorem codeO_lst {b p : Addr} {q : Str} {H : Hp} {vs : List V} (h : H b = some (LamX.CodeO b q)) (h' : H p = some (.lst vs)) : b ≠ p := fun z => by
  rw [z, h'] at h
  cases h
def Own (ρ : PEnv) (σ : St) (a : Addr) : Prop := ∃ (i : Nat) (xs : List D), ρ[i]? = some (.own xs) ∧ σ[i]? = some (some (.ref a))
structure ER (K : PySem.W.Frag) (c : Cz) (ρ : PEnv) (σ : St) (G H : Hp) : Prop where
  len : ρ.length = σ.length
  slot : ∀ (i : Nat) (s : SV), ρ[i]? = some s → SlotOk K c G H s (σ[i]?.getD none)
  sub : Sub G H
  nt : NT G
  sep : ∀ (i j : Nat) (xs ys : List D) (a : Addr), ρ[i]? = some (.own xs) → ρ[j]? = some (.own ys) → σ[i]? = some (some (.ref a)) → σ[j]? = some (some (.ref a)) → i = j
  tabs : LamX.Tabs c.T H
  io : ∀ p ∈ c.io, σ[p.1]? = some (some (.ref p.2)) ∧ ∃ xs, ρ[p.1]? = some (.own xs)
/-- from (G, H) to (G', H'), O may have changed or been let go -/
structure Step (O : Addr → Prop) (G H G' H' : Hp) : Prop where
  g : Sub G G'
  n : ∀ b o, G' b = some o → G b = some o ∨ H b = none ∨ O b
  k : ∀ b o, H b = some o → ¬ O b → (∀ ps, o ≠ .tbl ps) → H' b = some o
  d : ∀ b, H' b = none → H b = none
  t : NT G → NT G'
theorem Step.refl (O : Addr → Prop) (G H : Hp) : Step O G H G H := ⟨Sub.refl G, fun _ _ h => .inl h, fun _ _ h _ _ => h, fun _ h => h, id⟩
theorem Step.trans {O O' : Addr → Prop} {G H G1 H1 G2 H2 : Hp} (a : Step O G H G1 H1) (b : Step O' G1 H1 G2 H2) (ho : ∀ x, O' x → O x ∨ H x = none) : Step O G H G2 H2 where
  g := a.g.trans b.g
  n := fun x o h => by
    rcases b.n x o h with h1 | h1 | h1
    · exact a.n x o h1
    · exact .inr (.inl (a.d x h1))
    · rcases ho x h1 with q | q
      · exact .inr (.inr q)
      · exact .inr (.inl q)
  k := fun x o h no nt => b.k x o (a.k x o h no nt) (fun q => by
    rcases ho x q with q | q
    · exact no q
    · rw [q] at h; cases h) nt
  d := fun x h => a.d x (b.d x h)
  t := fun h => b.t (a.t h)
theorem Step.mono {O O' : Addr → Prop} {G H G' H' : Hp} (a : Step O G H G' H') (ho : ∀ x, O x → O' x ∨ H x = none) : Step O' G H G' H' where
  g := a.g
  n := fun x o h => by
    rcases a.n x o h with q | q | q
    · exact .inl q
    · exact .inr (.inl q)
    · rcases ho x q with q | q
      · exact .inr (.inr q)
      · exact .inr (.inl q)
  k := fun x o h no nt => a.k x o h (fun q => by
    rcases ho x q with q | q
    · exact no q
    · rw [q] at h; cases h) nt
  d := a.d
  t := a.t
def OwnS (ρ : PEnv) (σ : St) (H : Hp) (ρ' : PEnv) (σ' : St) : Prop := ∀ a, Own ρ' σ' a → Own ρ σ a ∨ H a = none
theorem OwnS.refl (ρ : PEnv) (σ : St) (H : Hp) : OwnS ρ σ H ρ σ := fun _ h => .inl h

/-! ### results -/
/-- an exception: its class's name, its fields -/
structure Exn where
  cls : Str
  fs : List (Str × D)
inductive R (α : Type) where
  | ok (a : α) (ρ : PEnv) | er (x : Exn) (ρ : PEnv) | bad
def R.bind {α β : Type} : R α → (α → PEnv → R β) → R β
  | .ok a ρ, k => k a ρ
  | .er x ρ, _ => .er x ρ
  | .bad, _ => .bad
abbrev GE (α : Type) := PEnv → R α
end PL
end L2
set_option Elab.async false
set_option linter.all false
set_option maxRecDepth 100000
namespace L2
namespace PL
open PySem PySem.Spec PyProof.Rows

/-! ### states go on -/
structure StepN (G H G' H' : Hp) : Prop where
  g : Sub G G'
  n : ∀ b o, G' b = some o → G b = some o ∨ H b = none
  k : Sub H H'
  s : Sub G' H'
  t : NT G → NT G'
theorem StepN.refl {G H : Hp} (h : Sub G H) : StepN G H G H := ⟨Sub.refl G, fun _ _ e => .inl e, Sub.refl H, h, id⟩
theorem StepN.step {G H G' H' : Hp} (t : StepN G H G' H') (O : Addr → Prop) : Step O G H G' H' where
  g := t.g
  n := fun b o e => (t.n b o e).elim .inl fun q => .inr (.inl q)
  k := fun b o e _ _ => t.k b o e
  d := fun b e => by
    cases q : H b with
    | none => rfl
    | some o => rw [t.k b o q] at e; cases e
  t := t.t
/-- a new object on the ground -/
theorem StepN.new {G H : Hp} {p : Addr} {o : HO} (s : Sub G H) (hp : H p = none) (ho : ∀ ps, o ≠ .tbl ps := by intro ps z; cases z) : StepN G H (upd G p o) (upd H p o) where
  t := fun h => h.upd ho
  g := fun b u e => by
    rw [upd_ne (ne_of_none (s b u e) hp)]; exact e
  n := fun b u e => by
    by_cases hb : b = p
    · subst hb; exact .inr hp
    · rw [upd_ne hb] at e; exact .inl e
  k := fun b u e => by rw [upd_ne (ne_of_none e hp)]; exact e
  s := fun b u e => by
    by_cases hb : b = p
    · subst hb; rw [upd_same] at e ⊢; exact e
    · rw [upd_ne hb] at e ⊢; exact s b u e
theorem own_tracked {K : PySem.W.Frag} {c : Cz} {ρ : PEnv} {σ : St} {G H : Hp} (E : ER K c ρ σ G H) {a : Addr} (o : Own ρ σ a) : ∃ vs, H a = some (.lst vs) ∧ G a = none := by
  obtain ⟨i, xs, h1, h2⟩ := o
  have q := E.slot i _ h1
  rw [h2] at q
  obtain ⟨b, vs, e, hb, _, hg⟩ := q
  cases e
  exact ⟨vs, hb, hg⟩
theorem ER.stepN {K : PySem.W.Frag} {c : Cz} {ρ : PEnv} {σ : St} {G H G' H' : Hp} (E : ER K c ρ σ G H) (t : StepN G H G' H') : ER K c ρ σ G' H' where
  len := E.len
  slot := fun i s e => by
    have q := E.slot i s e
    cases s with
    | un => trivial
    | d x =>
      cases hσ : (σ[i]?.getD none) with
      | none => rw [hσ] at q; exact q.elim
      | some v => rw [hσ] at q; exact Rep.sub t.g q
    | lams js =>
      cases hσL : (σ[i]?.getD none) with
      | none => rw [hσL] at q; exact q.elim
      | some v => rw [hσL] at q; exact LamsAt.mono q t.g fun b w e => t.k _ _ e
    | own xs =>
      cases hσ : (σ[i]?.getD none) with
      | none => rw [hσ] at q; exact q.elim
      | some v =>
        rw [hσ] at q
        obtain ⟨a, vs, e1, e2, e3, e4⟩ := q
        refine ⟨a, vs, e1, t.k _ _ e2, Reps.sub t.g e3, ?_⟩
        cases q : G' a with
        | none => rfl
        | some o =>
          rcases t.n a o q with z | z
          · rw [e4] at z; cases z
          · rw [e2] at z; cases z
  sub := t.s
  nt := t.t E.nt
  sep := E.sep
  tabs := E.tabs.ext t.k
  io := E.io

/-- how an exception stands: its class's address, its dict -/
def XR (K : PySem.W.Frag) (mg : Str → Option Value) (x : Exn) (C dd : Addr) (G H : Hp) : Prop :=
  mg x.cls = some (.ref C) ∧ ∃ fs : List (Str × V), H dd = some (.xd fs) ∧ Paired (fun (p : Str × V) (q : Str × D) => p.1 = q.1 ∧ Rep K G p.2 q.2) fs x.fs
def Gd {α β : Type} (X : Cx) (c : Cz) (W : WX) (ρ : PEnv) (σ : St) (G H : Hp) (r : R α) (Rel : Hp → α → β → Prop) (Q : β → Hp → Prop) : Prop :=
  match r with
  | .ok a ρ' => ∀ b G' H', ER X.K c ρ' σ G' H' → Step (Own ρ σ) G H G' H' → OwnS ρ σ H ρ' σ → Rel G' a b → Q b H'
  | .er x ρ' => ∀ C dd G' H', ER X.K c ρ' σ G' H' → Step (Own ρ σ) G H G' H' → OwnS ρ σ H ρ' σ → XR X.K X.mg x C dd G' H' → W (.ref C) (some dd) σ H'
  | .bad => False
theorem OwnS.trans {ρ ρ1 ρ2 : PEnv} {σ σ1 σ2 : St} {O : Addr → Prop} {G H G1 H1 : Hp} (a : OwnS ρ σ H ρ1 σ1) (t : Step O G H G1 H1) (b : OwnS ρ1 σ1 H1 ρ2 σ2) : OwnS ρ σ H ρ2 σ2 := fun x h => by
  rcases b x h with q | q
  · exact a x q
  · exact .inr (t.d x q)
section
variable {α β γ δ : Type} {X : Cx} {c : Cz} {W : WX} {ρ ρ1 : PEnv} {σ : St} {G H G1 H1 : Hp}
theorem Gd.shift {r : R α} {Rel : Hp → α → β → Prop} {Q : β → Hp → Prop} (h : Gd X c W ρ σ G H r Rel Q) (t : Step (Own ρ σ) G H G1 H1) (o : OwnS ρ σ H ρ1 σ) : Gd X c W ρ1 σ G1 H1 r Rel Q := by
  cases r with
  | ok a ρ' => exact fun b G' H' e t' o' rel => h b G' H' e (t.trans t' o) (o.trans t o') rel
  | er x ρ' => exact fun C dd G' H' e t' o' rel => h C dd G' H' e (t.trans t' o) (o.trans t o') rel
  | bad => exact h
theorem Gd.bind {r : R α} {k : α → PEnv → R γ} {Rel1 : Hp → α → β → Prop} {Rel2 : Hp → γ → δ → Prop} {Q : δ → Hp → Prop} {M : β → Hp → Prop} (h : Gd X c W ρ σ G H (r.bind k) Rel2 Q)
    (hm : ∀ a ρ1 b G1 H1, ER X.K c ρ1 σ G1 H1 → Step (Own ρ σ) G H G1 H1 → Rel1 G1 a b → Gd X c W ρ1 σ G1 H1 (k a ρ1) Rel2 Q → M b H1) : Gd X c W ρ σ G H r Rel1 M := by
  cases r with
  | ok a ρ' => exact fun b G' H' e t o rel => hm a ρ' b G' H' e t rel (Gd.shift (show Gd X c W ρ σ G H (k a ρ') Rel2 Q from h) t o)
  | er x ρ' => exact h
  | bad => exact h
/-- the end of a chain -/
theorem Gd.here {a : α} {b : β} {Rel : Hp → α → β → Prop} {Q : β → Hp → Prop} (h : Gd X c W ρ σ G H (.ok a ρ) Rel Q) (E : ER X.K c ρ σ G H) (r : Rel G a b) : Q b H := h b G H E (Step.refl _ _ _) (OwnS.refl _ _ _) r
theorem Gd.new {a : α} {b : β} {G' H' : Hp} {Rel : Hp → α → β → Prop} {Q : β → Hp → Prop} (h : Gd X c W ρ σ G H (.ok a ρ) Rel Q) (E : ER X.K c ρ σ G H) (t : StepN G H G' H') (r : Rel G' a b) : Q b H' :=
  h b G' H' (E.stepN t) (t.step _) (OwnS.refl _ _ _) r
end

/-! ### judgements -/
def ofOpt {α : Type} : Option α → PEnv → R α
  | some d, ρ => .ok d ρ
  | none, _ => .bad
section
variable (X : Cx) (c : Cz) (W : WX)
abbrev RV : Hp → D → V → Prop := fun G d v => Rep X.K G v d
abbrev RVs : Hp → List D → List V → Prop := fun G d v => Reps X.K G v d
abbrev RB : Hp → Bool → Bool → Prop := fun _ a b => a = b
/-- a new list that no one else holds -/
abbrev RL : Hp → List D → V → Prop := fun G _ _ => True
def EX (e : Expr) (g : GE D) : Prop := ∃ t, PE X e t ∧ ∀ ρ σ G H Q, ER X.K c ρ σ G H → Gd X c W ρ σ G H (g ρ) (RV X) Q → t σ H Q
def TX (e : Expr) (g : GE Bool) : Prop := ∃ t, PT X e t ∧ ∀ ρ σ G H Q, ER X.K c ρ σ G H → Gd X c W ρ σ G H (g ρ) RB Q → t σ H Q
def WXT (e : Expr) (g : GE Bool) : Prop := ∃ t, PW X e t ∧ ∀ ρ σ G H Q, ER X.K c ρ σ G H → Gd X c W ρ σ G H (g ρ) RB Q → t σ H Q
def AX (es : List Expr) (g : GE (List D)) : Prop := ∃ t, PA X es t ∧ ∀ ρ σ G H Q, ER X.K c ρ σ G H → Gd X c W ρ σ G H (g ρ) (RVs X) Q → t σ H Q
/-- an expression that makes a new list: it is not on the ground yet -/
def LX (e : Expr) (g : GE (List D)) : Prop := ∃ t, PE X e t ∧ ∀ ρ σ G H Q, ER X.K c ρ σ G H →
  (match g ρ with
  | .ok xs ρ' => ∀ p vs G' H', ER X.K c ρ' σ G' H' → Step (Own ρ σ) G H G' H' → OwnS ρ σ H ρ' σ → H p = none → H' p = some (.lst vs) → G' p = none → ¬ Own ρ' σ p → Reps X.K G' vs xs → Q (.ref p) H'
  | .er x ρ' => ∀ C dd G' H', ER X.K c ρ' σ G' H' → Step (Own ρ σ) G H G' H' → OwnS ρ σ H ρ' σ → XR X.K X.mg x C dd G' H' → W (.ref C) (some dd) σ H'
  | .bad => False) → t σ H Q
end
section
variable {X : Cx} {c : Cz} {W : WX}
/-- a new list, put on the ground -/
theorem ER.ground {K : PySem.W.Frag} {ρ : PEnv} {σ : St} {G H : Hp} {p : Addr} {vs : List V} (E : ER K c ρ σ G H) (hp : H p = some (.lst vs)) (hg : G p = none) (no : ¬ Own ρ σ p) : ER K c ρ σ (upd G p (.lst vs)) H where
  len := E.len
  slot := fun i s e => by
    have q := E.slot i s e
    have sb : Sub G (upd G p (.lst vs)) := fun b o z => by rw [upd_ne (ne_of_none z hg)]; exact z
    cases s with
    | un => trivial
    | d x =>
      cases hσ : (σ[i]?.getD none) with
      | none => rw [hσ] at q; exact q.elim
      | some v => rw [hσ] at q; exact Rep.sub sb q
    | lams js =>
      cases hσL : (σ[i]?.getD none) with
      | none => rw [hσL] at q; exact q.elim
      | some v => rw [hσL] at q; exact LamsAt.mono q sb fun b w e => e
    | own xs =>
      cases hσ : (σ[i]?.getD none) with
      | none => rw [hσ] at q; exact q.elim
      | some v =>
        rw [hσ] at q
        obtain ⟨a, ws, e1, e2, e3, e4⟩ := q
        have na : a ≠ p := fun z => no (by
          subst z
          refine ⟨i, xs, e, ?_⟩
          cases hs : σ[i]? with
          | none => rw [hs] at hσ; cases hσ
          | some u =>
            rw [hs] at hσ
            have : u = some v := hσ
            rw [this, e1])
        exact ⟨a, ws, e1, e2, Reps.sub sb e3, by rw [upd_ne na]; exact e4⟩
  sub := fun b o e => by
    by_cases hb : b = p
    · subst hb; rw [upd_same] at e; rw [← e]; exact hp
    · rw [upd_ne hb] at e; exact E.sub b o e
  nt := E.nt.upd fun ps z => by cases z
  sep := E.sep
  tabs := E.tabs
  io := E.io
def lstE (g : GE (List D)) : GE D := fun ρ => (g ρ).bind fun xs ρ' => .ok (.lst xs) ρ'
theorem LX.ex {e : Expr} {g : GE (List D)} (h : LX X c W e g) : EX X c W e (lstE g) := by
  obtain ⟨t, p, ht⟩ := h
  refine ⟨t, p, fun ρ σ G H Q E hq => ht ρ σ G H Q E ?_⟩
  unfold lstE at hq
  cases hg : g ρ with
  | bad => rw [hg] at hq; exact hq
  | er x ρ' => rw [hg] at hq; exact hq
  | ok xs ρ' =>
    rw [hg] at hq
    intro p vs G' H' E' st ow h0 hp hgp no hr
    have sb : Sub G' (upd G' p (.lst vs)) := fun b o z => by rw [upd_ne (ne_of_none z hgp)]; exact z
    refine hq (.ref p) (upd G' p (.lst vs)) H' (E'.ground hp hgp no) ⟨st.g.trans sb, fun b o z => ?_, st.k, st.d, fun h => (st.t h).upd fun ps z => by cases z⟩ ow (.lst upd_same (Reps.sub sb hr))
    by_cases hb : b = p
    · subst hb; exact .inr (.inl h0)
    · rw [upd_ne hb] at z; exact st.n b o z

/-! ### names, constants -/
def varE (i : Nat) : GE D := fun ρ => match ρ[i]? with
  | some (.d x) => .ok x ρ
  | some (.own xs) => .ok (.lst xs) (ρ.set i (.d (.lst xs)))
  | _ => .bad
theorem slot_d {K : PySem.W.Frag} {ρ : PEnv} {σ : St} {G H : Hp} {i : Nat} {x : D} (E : ER K c ρ σ G H) (h : ρ[i]? = some (.d x)) : ∃ v, σ[i]? = some (some v) ∧ Rep K G v x := by
  have q := E.slot i _ h
  cases hs : σ[i]? with
  | none => rw [hs] at q; exact q.elim
  | some u =>
    rw [hs] at q
    cases u with
    | none => exact q.elim
    | some v => exact ⟨v, rfl, q⟩
theorem slot_own {K : PySem.W.Frag} {ρ : PEnv} {σ : St} {G H : Hp} {i : Nat} {xs : List D} (E : ER K c ρ σ G H) (h : ρ[i]? = some (.own xs)) : ∃ a vs, σ[i]? = some (some (.ref a)) ∧ H a = some (.lst vs) ∧ Reps K G vs xs ∧ G a = none := by
  have q := E.slot i _ h
  cases hs : σ[i]? with
  | none => rw [hs] at q; exact q.elim
  | some u =>
    rw [hs] at q
    cases u with
    | none => exact q.elim
    | some v =>
      obtain ⟨a, vs, e, r⟩ := q
      subst e
      exact ⟨a, vs, rfl, r⟩
/-- an own list is let go: it is data from now on -/
theorem ER.letgo {K : PySem.W.Frag} {ρ : PEnv} {σ : St} {G H : Hp} {i : Nat} {xs : List D} {a : Addr} {vs : List V} (E : ER K c ρ σ G H) (h : ρ[i]? = some (.own xs)) (hs : σ[i]? = some (some (.ref a))) (ha : H a = some (.lst vs)) (hr : Reps K G vs xs) (hg : G a = none) (hio : ∀ p ∈ c.io, p.1 ≠ i) :
    ER K c (ρ.set i (.d (.lst xs))) σ (upd G a (.lst vs)) H := by
  have sb : Sub G (upd G a (.lst vs)) := fun b o z => by rw [upd_ne (ne_of_none z hg)]; exact z
  refine ⟨by rw [List.length_set]; exact E.len, fun j s e => ?_, fun b o e => ?_, E.nt.upd fun ps z => (by cases z), fun j k ys zs b e1 e2 e3 e4 => ?_, E.tabs, fun p hp => ?_⟩
  · by_cases hj : j = i
    · subst hj
      have hlt : j < ρ.length := (List.getElem?_eq_some_iff.mp h).1
      rw [List.getElem?_set_self hlt] at e
      cases e
      rw [hs]
      exact .lst upd_same (Reps.sub sb hr)
    · rw [List.getElem?_set_ne (Ne.symm hj)] at e
      have q := E.slot j s e
      cases s with
      | un => trivial
      | d x =>
        cases hσ : (σ[j]?.getD none) with
        | none => rw [hσ] at q; exact q.elim
        | some v => rw [hσ] at q; exact Rep.sub sb q
      | lams js =>
        cases hσL : (σ[j]?.getD none) with
        | none => rw [hσL] at q; exact q.elim
        | some v => rw [hσL] at q; exact LamsAt.mono q sb fun b w e => e
      | own ys =>
        obtain ⟨b, ws, q1, q2, q3, q4⟩ := slot_own E e
        have nb : b ≠ a := fun z => hj (E.sep j i ys xs b e h q1 (by rw [z]; exact hs))
        rw [q1]
        exact ⟨b, ws, rfl, q2, Reps.sub sb q3, by rw [upd_ne nb]; exact q4⟩
  · by_cases hb : b = a
    · subst hb; rw [upd_same] at e; rw [← e]; exact ha
    · rw [upd_ne hb] at e; exact E.sub b o e
  · have f : ∀ (j : Nat) (ys : List D), (ρ.set i (.d (.lst xs)))[j]? = some (.own ys) → ρ[j]? = some (.own ys) := fun j ys e => by
      by_cases hj : j = i
      · subst hj
        have hlt : j < ρ.length := (List.getElem?_eq_some_iff.mp h).1
        rw [List.getElem?_set_self hlt] at e
        cases e
      · rw [List.getElem?_set_ne (Ne.symm hj)] at e; exact e
    exact E.sep j k ys zs b (f _ _ e1) (f _ _ e2) e3 e4
  · obtain ⟨q1, ys, q2⟩ := E.io p hp
    exact ⟨q1, ys, by rw [List.getElem?_set_ne (Ne.symm (hio p hp))]; exact q2⟩
theorem own_set_d {ρ : PEnv} {σ : St} {i : Nat} {x : D} {a : Addr} (h : Own (ρ.set i (.d x)) σ a) : Own ρ σ a := by
  obtain ⟨j, ys, e1, e2⟩ := h
  by_cases hj : j = i
  · subst hj
    by_cases hlt : j < ρ.length
    · rw [List.getElem?_set_self hlt] at e1; cases e1
    · rw [List.set_eq_of_length_le (by omega)] at e1
      exact ⟨j, ys, e1, e2⟩
  · rw [List.getElem?_set_ne (Ne.symm hj)] at e1
    exact ⟨j, ys, e1, e2⟩
theorem EX.var {i : Nat} {x : Str} {pos : Pos} (hio : ∀ p ∈ c.io, p.1 ≠ i) (hp : PE X (.Name x pos) (tVar i)) : EX X c W (.Name x pos) (varE i) := by
  refine ⟨_, hp, fun ρ σ G H Q E hq => ?_⟩
  unfold varE at hq
  cases h : ρ[i]? with
  | none => rw [h] at hq; exact hq.elim
  | some s =>
    rw [h] at hq
    cases s with
    | un => exact hq.elim
    | lams js => exact hq.elim
    | d y =>
      obtain ⟨v, e, r⟩ := slot_d E h
      exact ⟨v, e, hq.here E r⟩
    | own xs =>
      obtain ⟨a, vs, e1, e2, e3, e4⟩ := slot_own E h
      have sb : Sub G (upd G a (.lst vs)) := fun b o z => by rw [upd_ne (ne_of_none z e4)]; exact z
      refine ⟨.ref a, e1, hq (.ref a) (upd G a (.lst vs)) H (E.letgo h e1 e2 e3 e4 hio) ⟨sb, fun b o z => ?_, fun _ _ e _ _ => e, fun _ e => e, fun h => h.upd fun ps z => (by cases z)⟩ (fun b hb => .inl (own_set_d hb)) (.lst upd_same (Reps.sub sb e3))⟩
      by_cases hb : b = a
      · subst hb; exact .inr (.inr ⟨i, xs, h, e1⟩)
      · rw [upd_ne hb] at z; exact .inl z
def cE (d : D) : GE D := fun ρ => .ok d ρ
theorem EX.const {e : Expr} {v : V} {d : D} (hp : PE X e (tC v)) (hd : ∀ G, Rep X.K G v d) : EX X c W e (cE d) :=
  ⟨_, hp, fun ρ σ G H Q E hq => hq.here E (hd G)⟩
theorem EX.int {i : Int} {j : Nat} {pos : Pos} : EX X c W (.Constant (.int i) j pos) (cE (.int i)) := EX.const pe_int fun _ => .int i
theorem EX.str {x : Str} {j : Nat} {pos : Pos} : EX X c W (.Constant (.str x) j pos) (cE (.str x)) := EX.const pe_str fun _ => .str x
theorem EX.bl {b : Bool} {j : Nat} {pos : Pos} : EX X c W (.Constant (.bool b) j pos) (cE (.bl b)) := EX.const pe_bl fun _ => .bl b
theorem EX.non {j : Nat} {pos : Pos} : EX X c W (.Constant .none j pos) (cE .non) := EX.const pe_non fun _ => .non

/-! ### operations on values -/
/-- r, told by f on data; none: not told -/
def Op1 (X : Cx) (r : V → Hp → VK → Prop) (f : D → Option D) : Prop := ∀ (G H : Hp) (x : V) (dx : D) (d : D) (Q : VK), Sub G H → Rep X.K G x dx → f dx = some d →
  (∀ v G' H', StepN G H G' H' → Rep X.K G' v d → Q v H') → r x H Q
def Op2 (X : Cx) (r : R2) (f : D → D → Option D) : Prop := ∀ (G H : Hp) (x y : V) (dx dy d : D) (Q : VK), Sub G H → Rep X.K G x dx → Rep X.K G y dy → f dx dy = some d →
  (∀ v G' H', StepN G H G' H' → Rep X.K G' v d → Q v H') → r x y H Q
def OpL (X : Cx) (r : List V → Hp → VK → Prop) (f : List D → Option D) : Prop := ∀ (G H : Hp) (xs : List V) (ds : List D) (d : D) (Q : VK), Sub G H → Reps X.K G xs ds → f ds = some d →
  (∀ v G' H', StepN G H G' H' → Rep X.K G' v d → Q v H') → r xs H Q
def binE (f : D → D → Option D) (ga gb : GE D) : GE D := fun ρ => (ga ρ).bind fun x ρ1 => (gb ρ1).bind fun y ρ2 => ofOpt (f x y) ρ2
def unE (f : D → Option D) (ga : GE D) : GE D := fun ρ => (ga ρ).bind fun x ρ1 => ofOpt (f x) ρ1
def appE (f : List D → Option D) (ga : GE (List D)) : GE D := fun ρ => (ga ρ).bind fun x ρ1 => ofOpt (f x) ρ1
theorem Gd.opt {ρ : PEnv} {σ : St} {G H : Hp} {o : Option D} {Q : VK} (h : Gd X c W ρ σ G H (ofOpt o ρ) (RV X) Q) (E : ER X.K c ρ σ G H) : ∃ d, o = some d ∧ ∀ v G' H', StepN G H G' H' → Rep X.K G' v d → Q v H' := by
  cases o with
  | none => exact h.elim
  | some d => exact ⟨d, rfl, fun v G' H' t r => Gd.new (Rel := RV X) (show Gd X c W ρ σ G H (.ok d ρ) (RV X) Q from h) E t r⟩
theorem bin_ok {r : R2} {f : D → D → Option D} {ta tb : TE} {ga gb : GE D} (ho : Op2 X r f) (ha : ∀ ρ σ G H Q, ER X.K c ρ σ G H → Gd X c W ρ σ G H (ga ρ) (RV X) Q → ta σ H Q) (hb : ∀ ρ σ G H Q, ER X.K c ρ σ G H → Gd X c W ρ σ G H (gb ρ) (RV X) Q → tb σ H Q) :
    ∀ ρ σ G H Q, ER X.K c ρ σ G H → Gd X c W ρ σ G H (binE f ga gb ρ) (RV X) Q → tOp r ta tb σ H Q := fun ρ σ G H Q E hq =>
  ha ρ σ G H _ E (Gd.bind hq fun x ρ1 v G1 H1 E1 t1 r1 h1 => hb ρ1 σ G1 H1 _ E1 (Gd.bind h1 fun y ρ2 u G2 H2 E2 t2 r2 h2 => by
    obtain ⟨d, e, k⟩ := Gd.opt h2 E2
    exact ho G2 H2 v u x y d Q E2.sub (Rep.sub t2.g r1) r2 e k))
theorem EX.bin {op : Operator} {r : R2} {f : D → D → Option D} {a b : Expr} {ga gb : GE D} {pos : Pos} (ho : Op2 X r f) (hr : OpR X (binaryOp op) r) (ha : EX X c W a ga) (hb : EX X c W b gb) : EX X c W (.BinOp a op b pos) (binE f ga gb) := by
  obtain ⟨ta, pa, qa⟩ := ha
  obtain ⟨tb, pb, qb⟩ := hb
  exact ⟨_, pe_op hr pa pb, bin_ok ho qa qb⟩
theorem EX.cmp {op : CmpOp} {r : R2} {f : D → D → Option D} {a b : Expr} {ga gb : GE D} {pos : Pos} (ho : Op2 X r f) (hr : OpR X (compareOp op) r) (ha : EX X c W a ga) (hb : EX X c W b gb) (hm : behindInMarks op b = false := by first | exact nobehind _ (by decide) (by decide) | rfl) :
    EX X c W (.Compare a [op] [b] pos) (binE f ga gb) := by
  obtain ⟨ta, pa, qa⟩ := ha
  obtain ⟨tb, pb, qb⟩ := hb
  exact ⟨_, pe_cmpR hr pa pb hm, bin_ok ho qa qb⟩
theorem EX.un {op : UnaryOp} {r : V → Hp → VK → Prop} {f : D → Option D} {a : Expr} {ga : GE D} {pos : Pos} (ho : Op1 X r f) (hr : UnR X (unaryOp op) r) (ha : EX X c W a ga) : EX X c W (.UnaryOp op a pos) (unE f ga) := by
  obtain ⟨ta, pa, qa⟩ := ha
  refine ⟨_, pe_un hr pa, fun ρ σ G H Q E hq => qa ρ σ G H _ E (Gd.bind hq fun x ρ1 v G1 H1 E1 t1 r1 h1 => ?_)⟩
  obtain ⟨d, e, k⟩ := Gd.opt h1 E1
  exact ho G1 H1 v x d Q E1.sub r1 e k
/-- x[i] -/
theorem EX.ix {r : R2} {f : D → D → Option D} {a b : Expr} {ga gb : GE D} {pos : Pos} (ho : Op2 X r f) (hr : IxR X r) (ha : EX X c W a ga) (hb : EX X c W b gb) (hs : PlainIx b := by exact (fun _ _ => rfl)) : EX X c W (.Subscript a b pos) (binE f ga gb) := by
  obtain ⟨ta, pa, qa⟩ := ha
  obtain ⟨tb, pb, qb⟩ := hb
  exact ⟨_, pe_ix hr pa pb hs, bin_ok ho qa qb⟩
/-! ### arguments, displays -/
def nilA : GE (List D) := fun ρ => .ok [] ρ
def consA (ga : GE D) (gr : GE (List D)) : GE (List D) := fun ρ => (ga ρ).bind fun x ρ1 => (gr ρ1).bind fun xs ρ2 => .ok (x :: xs) ρ2
theorem AX.nil : AX X c W [] nilA := ⟨_, pa_nil, fun ρ σ G H Q E hq => hq.here E .nil⟩
theorem AX.cons {e : Expr} {es : List Expr} {ga : GE D} {gr : GE (List D)} (ha : EX X c W e ga) (hr : AX X c W es gr) (hs : starEach (e :: es) X.env = (false, eval e X.env) :: starEach es X.env := by rfl) : AX X c W (e :: es) (consA ga gr) := by
  obtain ⟨ta, pa, qa⟩ := ha
  obtain ⟨tr, pr, qr⟩ := hr
  refine ⟨_, pa_cons pa pr hs, fun ρ σ G H Q E hq => qa ρ σ G H _ E (Gd.bind hq fun x ρ1 v G1 H1 E1 t1 r1 h1 => qr ρ1 σ G1 H1 _ E1 (Gd.bind h1 fun xs ρ2 vs G2 H2 E2 t2 r2 h2 => ?_))⟩
  exact Gd.here (Rel := RVs X) h2 E2 (.cons (Rep.sub t2.g r1) r2)
def lim : Nat := 100000
theorem lim_ok {n : Nat} (h : n ≤ lim) : n ≤ sizeLine := Nat.le_trans h (by decide)
def tupF (ds : List D) : Option D := if ds.length ≤ lim then some (.tup ds) else none
theorem EX.tup {es : List Expr} {g : GE (List D)} {pos : Pos} {k : Nat} (h : AX X c W es g) : EX X c W (.Tuple es k pos) (appE tupF g) := by
  obtain ⟨t, p, q⟩ := h
  refine ⟨_, pe_tup p, fun ρ σ G H Q E hq => q ρ σ G H _ E (Gd.bind hq fun ds ρ1 vs G1 H1 E1 t1 r1 h1 => ?_)⟩
  obtain ⟨d, e, k⟩ := Gd.opt h1 E1
  unfold tupF at e
  by_cases hl : ds.length ≤ lim
  · rw [if_pos hl] at e
    cases e
    refine ⟨by rw [Reps.length r1]; exact lim_ok hl, fun p hp => k _ (upd G1 p (.tup vs)) _ (StepN.new E1.sub hp) (.tup (.inl (.inl upd_same)) (Reps.sub (StepN.new E1.sub hp).g r1))⟩
  · rw [if_neg hl] at e; cases e
def lstF (g : GE (List D)) : GE (List D) := fun ρ => (g ρ).bind fun ds ρ1 => if ds.length ≤ lim then .ok ds ρ1 else .bad
theorem not_own_new {K : PySem.W.Frag} {ρ : PEnv} {σ : St} {G H : Hp} {p : Addr} (E : ER K c ρ σ G H) (hp : H p = none) : ¬ Own ρ σ p := fun h => by
  obtain ⟨vs, q, _⟩ := own_tracked E h
  rw [hp] at q; cases q
/-- what LX asks, from a Gd of the list -/
def GdL (X : Cx) (c : Cz) (W : WX) (ρ : PEnv) (σ : St) (G H : Hp) (r : R (List D)) (Q : VK) : Prop :=
  match r with
  | .ok xs ρ' => ∀ p vs G' H', ER X.K c ρ' σ G' H' → Step (Own ρ σ) G H G' H' → OwnS ρ σ H ρ' σ → H p = none → H' p = some (.lst vs) → G' p = none → ¬ Own ρ' σ p → Reps X.K G' vs xs → Q (.ref p) H'
  | .er x ρ' => ∀ C dd G' H', ER X.K c ρ' σ G' H' → Step (Own ρ σ) G H G' H' → OwnS ρ σ H ρ' σ → XR X.K X.mg x C dd G' H' → W (.ref C) (some dd) σ H'
  | .bad => False
theorem LX.mk {e : Expr} {g : GE (List D)} {t : TE} (p : PE X e t) (h : ∀ ρ σ G H Q, ER X.K c ρ σ G H → GdL X c W ρ σ G H (g ρ) Q → t σ H Q) : LX X c W e g := ⟨t, p, h⟩
theorem GdL.bind {α β : Type} {ρ : PEnv} {σ : St} {G H : Hp} {r : R α} {k : α → PEnv → R (List D)} {Rel1 : Hp → α → β → Prop} {Q : VK} {M : β → Hp → Prop} (h : GdL X c W ρ σ G H (r.bind k) Q)
    (hm : ∀ a ρ1 b G1 H1, ER X.K c ρ1 σ G1 H1 → Step (Own ρ σ) G H G1 H1 → Rel1 G1 a b → GdL X c W ρ1 σ G1 H1 (k a ρ1) Q → M b H1) : Gd X c W ρ σ G H r Rel1 M := by
  cases r with
  | ok a ρ' =>
    refine fun b G' H' e t o rel => hm a ρ' b G' H' e t rel ?_
    have h' : GdL X c W ρ σ G H (k a ρ') Q := h
    cases hk : k a ρ' with
    | ok xs ρ2 =>
      rw [hk] at h'
      exact fun p vs G2 H2 e2 t2 o2 hp => h' p vs G2 H2 e2 (t.trans t2 o) (o.trans t o2) (t.d p hp)
    | er x ρ2 =>
      rw [hk] at h'
      exact fun C dd G2 H2 e2 t2 o2 => h' C dd G2 H2 e2 (t.trans t2 o) (o.trans t o2)
    | bad => rw [hk] at h'; exact h'
  | er x ρ' => exact h
  | bad => exact h
/-- the end: the new list at p -/
theorem GdL.new {ρ : PEnv} {σ : St} {G H : Hp} {xs : List D} {vs : List V} {p : Addr} {Q : VK} (h : GdL X c W ρ σ G H (.ok xs ρ) Q) (E : ER X.K c ρ σ G H) (hp : H p = none) (r : Reps X.K G vs xs) : Q (.ref p) (upd H p (.lst vs)) := by
  have t : StepN G H G (upd H p (.lst vs)) := ⟨Sub.refl G, fun _ _ e => .inl e, fun b u e => by rw [upd_ne (ne_of_none e hp)]; exact e, fun b u e => by
    have e' := E.sub b u e
    rw [upd_ne (ne_of_none e' hp)]; exact e', id⟩
  have hg : G p = none := by
    cases q : G p with
    | none => rfl
    | some o => rw [E.sub p o q] at hp; cases hp
  exact h p vs G _ (E.stepN t) (t.step _) (OwnS.refl _ _ _) hp upd_same hg (not_own_new E hp) r
theorem LX.lst {es : List Expr} {g : GE (List D)} {pos : Pos} (h : AX X c W es g) : LX X c W (.List es pos) (lstF g) := by
  obtain ⟨t, p, q⟩ := h
  refine LX.mk (pe_lst p) fun ρ σ G H Q E hq => q ρ σ G H _ E (GdL.bind hq fun ds ρ1 vs G1 H1 E1 t1 r1 h1 => ?_)
  by_cases hl : ds.length ≤ lim
  · rw [if_pos hl] at h1
    exact ⟨by rw [Reps.length r1]; exact lim_ok hl, fun p hp => GdL.new h1 E1 hp r1⟩
  · rw [if_neg hl] at h1; exact h1.elim
end
end PL
end L2
set_option Elab.async false
set_option linter.all false
set_option maxRecDepth 100000
namespace L2
namespace PL
open PySem PySem.Spec PyProof.Rows

/-! ### data that == and repr know -/
mutual
def D.toP : D → Option PyData
  | .non => some .none | .bl b => some (.bool b) | .int i => some (.int i) | .str x => some (.str x)
  | .lst xs => (D.toPs xs).map .list | .tup xs => (D.toPs xs).map .tuple | .dct _ => none | .fz _ => none
def D.toPs : List D → Option (List PyData)
  | [] => some []
  | x :: xs => match D.toP x, D.toPs xs with
    | some p, some ps => some (p :: ps)
    | _, _ => none
end
theorem Sub.sqL {K : PySem.W.Frag} {G : Hp} {H : Hp} {a : Addr} {xs : List V} (s : Sub G H) (h : G a = some (.lst xs)) : SqL K H a xs := .inl (.inl (s _ _ h))
mutual
theorem Rep.dp {K : PySem.W.Frag} {G H : Hp} (s : Sub G H) : ∀ {d : D} {v : V} {p : PyData}, Rep K G v d → d.toP = some p → Dp K H v p
  | .non, _, _, h, e => by cases h; cases e; exact .non
  | .bl b, _, _, h, e => by cases h; cases e; exact .bl b
  | .int i, _, _, h, e => by cases h; cases e; exact .int i
  | .str x, _, _, h, e => by cases h; cases e; exact .str x
  | .lst ds, _, _, h, e => by
    cases h with
    | lst h1 h2 =>
      unfold D.toP at e
      cases q : D.toPs ds with
      | none => rw [q] at e; cases e
      | some ps => rw [q] at e; cases e; exact .lst (s.sqL h1) (Reps.dp s h2 q)
  | .tup ds, _, _, h, e => by
    cases h with
    | tup h1 h2 =>
      unfold D.toP at e
      cases q : D.toPs ds with
      | none => rw [q] at e; cases e
      | some ps => rw [q] at e; cases e; exact .tup (s.sqT h1) (Reps.dp s h2 q)
  | .dct _, _, _, _, e => by cases e
  | .fz _, _, _, _, e => by cases e
theorem Reps.dp {K : PySem.W.Frag} {G H : Hp} (s : Sub G H) : ∀ {ds : List D} {vs : List V} {ps : List PyData}, Reps K G vs ds → D.toPs ds = some ps → DpAll K H vs ps
  | [], _, _, h, e => by cases h; cases e; exact .nil
  | d :: ds, _, _, h, e => by
    cases h with
    | cons h1 h2 =>
      unfold D.toPs at e
      cases q : D.toP d with
      | none => rw [q] at e; cases e
      | some p =>
        cases q2 : D.toPs ds with
        | none => rw [q, q2] at e; cases e
        | some ps => rw [q, q2] at e; cases e; exact .cons (Rep.dp s h1 q) (Reps.dp s h2 q2)
end

/-! ### operations, told by functions on data -/
def intsF (C : Int → Int → Bool) (g : Int → Int → D) : D → D → Option D
  | .int a, .int b => if C a b = true then some (g a b) else none
  | _, _ => none
def strsF (C : Str → Str → Bool) (g : Str → Str → D) : D → D → Option D
  | .str a, .str b => if C a b = true then some (g a b) else none
  | _, _ => none
def orF (f g : D → D → Option D) : D → D → Option D := fun x y => match f x y with
  | some d => some d
  | none => g x y
section
variable {X : Cx} {r r' : R2} {f g : D → D → Option D}
theorem Op2.or (h : Op2 X r f) (h' : Op2 X r' g) : Op2 X (fun x y H Q => r x y H Q ∨ r' x y H Q) (orF f g) := fun G H x y dx dy d Q s rx ry e k => by
  unfold orF at e
  cases q : f dx dy with
  | some d' => rw [q] at e; cases e; exact .inl (h G H x y dx dy d Q s rx ry q k)
  | none => rw [q] at e; exact .inr (h' G H x y dx dy d Q s rx ry e k)
theorem Op2.ints {C : Int → Int → Bool} {g : Int → Int → D} (gv : Int → Int → V) (hg : ∀ G a b, Rep X.K G (gv a b) (g a b)) (hr : ∀ a b H Q, C a b = true → Q (gv a b) H → r (.int a) (.int b) H Q) : Op2 X r (intsF C g) := fun G H x y dx dy d Q s rx ry e k => by
  cases dx <;> cases dy <;> first | (simp only [intsF, reduceCtorEq] at e; done) | skip
  cases rx
  cases ry
  rename_i a b
  unfold intsF at e
  by_cases hc : C a b = true
  · simp only [hc, if_true, Option.some.injEq] at e
    subst e
    exact hr a b H Q hc (k _ G H (StepN.refl s) (hg G a b))
  · simp only [hc] at e; cases e
theorem Op2.strs {C : Str → Str → Bool} {g : Str → Str → D} (gv : Str → Str → V) (hg : ∀ G a b, Rep X.K G (gv a b) (g a b)) (hr : ∀ a b H Q, C a b = true → Q (gv a b) H → r (.str a) (.str b) H Q) : Op2 X r (strsF C g) := fun G H x y dx dy d Q s rx ry e k => by
  cases dx <;> cases dy <;> first | (simp only [strsF, reduceCtorEq] at e; done) | skip
  cases rx
  cases ry
  rename_i a b
  unfold strsF at e
  by_cases hc : C a b = true
  · simp only [hc, if_true, Option.some.injEq] at e
    subst e
    exact hr a b H Q hc (k _ G H (StepN.refl s) (hg G a b))
  · simp only [hc] at e; cases e
abbrev yes2 {α β : Type} : α → β → Bool := fun _ _ => true
/-! + -/
def tupAddF : D → D → Option D
  | .tup a, .tup b => if a.length + b.length ≤ lim then some (.tup (a ++ b)) else none
  | _, _ => none
def lstAddF : D → D → Option D
  | .lst a, .lst b => if a.length + b.length ≤ lim then some (.lst (a ++ b)) else none
  | _, _ => none
def addF : D → D → Option D := orF (intsF yes2 fun a b => .int (a + b)) (orF (strsF (fun a b => decide (a.length + b.length ≤ lim)) fun a b => .str (a ++ b)) (orF tupAddF lstAddF))
theorem o2_tupAdd : Op2 X (rCatA X.K) tupAddF := fun G H x y dx dy d Q s rx ry e k => by
  cases dx <;> cases dy <;> first | (simp only [tupAddF, reduceCtorEq] at e; done) | skip
  cases rx with
  | tup h1 h2 =>
    cases ry with
    | tup g1 g2 =>
      rename_i ds1 ds2 a vs b ws
      unfold tupAddF at e
      by_cases hl : ds1.length + ds2.length ≤ lim
      · simp only [hl, if_true, Option.some.injEq] at e
        subst e
        refine ⟨a, b, vs, ws, rfl, rfl, s.sqT h1, s.sqT g1, by rw [Reps.length h2, Reps.length g2]; exact lim_ok hl, fun e1 => ?_, fun e1 e2 => ?_, fun e1 e2 p hp => ?_⟩
        · subst e1
          cases h2
          exact k _ G H (StepN.refl s) (.tup g1 g2)
        · subst e2
          cases g2
          exact k _ G H (StepN.refl s) (by rw [List.append_nil]; exact .tup h1 h2)
        · exact k _ _ _ (StepN.new s hp) (.tup (.inl (.inl upd_same)) (Reps.sub (StepN.new s hp).g (h2.append g2)))
      · simp only [hl] at e; cases e
theorem o2_lstAdd : Op2 X rCat lstAddF := fun G H x y dx dy d Q s rx ry e k => by
  cases dx <;> cases dy <;> first | (simp only [lstAddF, reduceCtorEq] at e; done) | skip
  cases rx with
  | lst h1 h2 =>
    cases ry with
    | lst g1 g2 =>
      rename_i ds1 ds2 a vs b ws
      unfold lstAddF at e
      by_cases hl : ds1.length + ds2.length ≤ lim
      · simp only [hl, if_true, Option.some.injEq] at e
        subst e
        exact ⟨a, b, vs, ws, rfl, rfl, s _ _ h1, s _ _ g1, by rw [Reps.length h2, Reps.length g2]; exact lim_ok hl, fun p hp => k _ _ _ (StepN.new s hp) (.lst upd_same (Reps.sub (StepN.new s hp).g (h2.append g2)))⟩
      · simp only [hl] at e; cases e
theorem o2_add : Op2 X (fun x y H Q => rI0 (fun i j => .int (i + j)) x y H Q ∨ (∃ i j, x = .str i ∧ y = .str j ∧ i.length + j.length ≤ sizeLine ∧ Q (.str (i ++ j)) H) ∨ rCatA X.K x y H Q ∨ rCat x y H Q) addF := Op2.or (Op2.ints (r := rI0 fun i j => .int (i + j)) (fun a b => .int (a + b)) (fun _ _ _ => .int _) fun a b H Q _ q => ⟨a, b, rfl, rfl, q⟩)
  (Op2.or (Op2.strs (r := fun x y H Q => ∃ i j, x = .str i ∧ y = .str j ∧ i.length + j.length ≤ sizeLine ∧ Q (.str (i ++ j)) H) (fun a b => .str (a ++ b)) (fun _ _ _ => .str _) fun a b H Q h q => ⟨a, b, rfl, rfl, lim_ok (of_decide_eq_true h), q⟩)
    (Op2.or o2_tupAdd o2_lstAdd))
theorem op_addP : OpR X (binaryOp .Add) (fun x y H Q => rI0 (fun i j => .int (i + j)) x y H Q ∨ (∃ i j, x = .str i ∧ y = .str j ∧ i.length + j.length ≤ sizeLine ∧ Q (.str (i ++ j)) H) ∨ rCatA X.K x y H Q ∨ rCat x y H Q) := op_add.or (op_add_str.or (op_catA.or op_cat))
/-! - * % // ** -/
def subF : D → D → Option D := intsF yes2 fun a b => .int (a - b)
theorem o2_sub : Op2 X (rI0 fun i j => .int (i - j)) subF := Op2.ints (fun a b => .int (a - b)) (fun _ _ _ => .int _) fun a b H Q _ q => ⟨a, b, rfl, rfl, q⟩
def small64b (i : Int) : Bool := decide (-(2 ^ 64) < i ∧ i < 2 ^ 64)
def modF : D → D → Option D := intsF (fun _ b => decide (0 < b)) fun a b => .int (a % b)
theorem o2_mod : Op2 X (rI (fun _ j => 0 < j) fun i j => .int (i % j)) modF := Op2.ints (fun a b => .int (a % b)) (fun _ _ _ => .int _) fun a b H Q h q => ⟨a, b, rfl, rfl, of_decide_eq_true h, q⟩
def fdivF : D → D → Option D := intsF (fun _ b => decide (0 < b ∧ b < 1073741824)) fun a b => .int (a / b)
theorem o2_fdiv : Op2 X (rI CDiv fun i j => .int (i / j)) fdivF := Op2.ints (fun a b => .int (a / b)) (fun _ _ _ => .int _) fun a b H Q h q => ⟨a, b, rfl, rfl, (of_decide_eq_true h : 0 < b ∧ b < 1073741824), q⟩
def powF : D → D → Option D := intsF (fun a b => decide (0 ≤ b ∧ b ≤ 1000000 ∧ a.natAbs < 2 ^ 64)) fun a b => .int (a ^ b.toNat)
theorem o2_pow : Op2 X (rI CPow fun i j => .int (i ^ j.toNat)) powF := Op2.ints (fun a b => .int (a ^ b.toNat)) (fun _ _ _ => .int _) fun a b H Q h q => ⟨a, b, rfl, rfl, (of_decide_eq_true h : 0 ≤ b ∧ b ≤ 1000000 ∧ a.natAbs < 2 ^ 64), q⟩
/-- a text so many times -/
def repS (x : Str) (k : Nat) : Str := ⟨(List.replicate k x.cps).foldl (· ++ ·) #[]⟩
theorem repS_list (x : Str) (k : Nat) : (repS x k).cps.toList = (List.replicate k x.cps.toList).flatten := by
  have h : ∀ (k : Nat) (acc : Array Nat), ((List.replicate k x.cps).foldl (· ++ ·) acc).toList = acc.toList ++ (List.replicate k x.cps.toList).flatten := by
    intro k
    induction k with
    | zero => intro acc; simp
    | succ k ih =>
      intro acc
      rw [List.replicate_succ, List.replicate_succ, List.foldl_cons, List.flatten_cons, ih, Array.toList_append, List.append_assoc]
  have := h k #[]
  simpa [repS] using this
theorem repS_len (x : Str) (k : Nat) : (repS x k).length = x.length * k := by
  have h := congrArg List.length (repS_list x k)
  rw [List.length_flatten, List.map_replicate, List.sum_replicate_nat] at h
  show (repS x k).cps.size = x.cps.size * k
  rw [← Array.length_toList, h, Array.length_toList, Nat.mul_comm]
def strMulF : D → D → Option D
  | .str x, .int k => if k < 1 ∧ -(2 ^ 62) ≤ k then some (.str Str.empty) else if k = 1 then some (.str x) else if 1 < k ∧ 0 < x.length ∧ x.length * k.toNat ≤ lim ∧ k ≤ lim then some (.str (repS x k.toNat)) else none
  | _, _ => none
def rMulS : R2 := fun x y H Q => ∃ z k, x = .str z ∧ y = .int k ∧ ((k < 1 ∧ -(2 ^ 62) ≤ k ∧ Q (.str Str.empty) H) ∨ (k = 1 ∧ Q (.str z) H) ∨ (1 < k ∧ 0 < z.length ∧ z.length * k.toNat ≤ lim ∧ k ≤ lim ∧ Q (.str (repS z k.toNat)) H))
theorem op_mulS : OpR X (binaryOp .Mult) rMulS := by
  intro pins s σ H x y v u Q I rx ry h
  obtain ⟨z, k, rfl, rfl, h⟩ := h
  obtain ⟨t, rfl⟩ := rx
  obtain ⟨t', rfl⟩ := ry
  have hlim : lim = 100000 := rfl
  rcases h with ⟨h1, h2, q⟩ | ⟨h1, q⟩ | ⟨h1, h2, h3, h4, q⟩
  · exact PySem.P.mul_str_none h1 (by omega) ⟨.str Str.empty, H, I.tok _, ⟨_, rfl⟩, q⟩
  · subst h1
    refine PySem.P.mul_str (by decide) (fun _ h => by simp at h) (fun _ h => by simp at h) ?_
    rw [if_neg (by decide), if_pos (by simp)]
    exact ⟨.str z, H, I, ⟨_, rfl⟩, q⟩
  · have e1 : (k == 1 || z.length == 0) = false := by
      have a1 : (k == 1) = false := beq_eq_false_iff_ne.mpr (by omega)
      have a2 : (z.length == 0) = false := beq_eq_false_iff_ne.mpr (by omega)
      rw [a1, a2]; rfl
    refine PySem.P.mul_str ?_ (fun _ _ => ?_) (fun _ _ => ?_) ?_
    · have a1 : ¬ k < -(2 ^ 63 : Int) := by omega
      have a2 : ¬ k ≥ 2 ^ 63 := by omega
      rw [decide_eq_false a1, decide_eq_false a2]; rfl
    · have hz : z.length ≤ 100000 := by
        have : 1 ≤ k.toNat := by omega
        calc z.length = z.length * 1 := by omega
          _ ≤ z.length * k.toNat := Nat.mul_le_mul_left _ this
          _ ≤ 100000 := h3
      have hk : (100000 : Int) ≤ (2 ^ 63 - 1) / k := by
        rw [Int.le_ediv_iff_mul_le (by omega)]
        omega
      omega
    · have h5 : z.length * k.toNat ≤ sizeLine := lim_ok h3
      exact decide_eq_false (Nat.not_lt.mpr h5)
    · rw [if_neg (by omega), e1, if_neg (by decide)]
      refine ⟨?_, ⟨.str (repS z k.toNat), H, I.tok _, ⟨_, rfl⟩, q⟩⟩
      exact Nat.le_trans (Nat.le_of_eq (repS_len z k.toNat)) (lim_ok h3)
end
end PL
end L2
set_option Elab.async false
set_option linter.all false
set_option maxRecDepth 100000
namespace L2
namespace PL
open PySem PySem.Spec PyProof.Rows
section
variable {X : Cx} {r r' : R2} {f g : D → D → Option D}
/-! * -/
def lstMulF : D → D → Option D
  | .lst a, .int k => if 0 ≤ k ∧ k ≤ lim ∧ a.length * k.toNat ≤ lim then some (.lst (List.replicate k.toNat a).flatten) else none
  | _, _ => none
theorem o2_lstMul : Op2 X rRep lstMulF := fun G H x y dx dy d Q s rx ry e k => by
  cases dx <;> cases dy <;> first | (simp only [lstMulF, reduceCtorEq] at e; done) | skip
  cases rx with
  | lst h1 h2 =>
    cases ry
    rename_i ds n a vs
    unfold lstMulF at e
    by_cases hl : 0 ≤ n ∧ n ≤ lim ∧ ds.length * n.toNat ≤ lim
    · simp only [hl, and_self, if_true, Option.some.injEq] at e
      subst e
      obtain ⟨l1, l2, l3⟩ := hl
      have hlim : lim = 100000 := rfl
      exact ⟨a, n, vs, rfl, rfl, s _ _ h1, by omega, by omega, by rw [Reps.length h2]; exact lim_ok l3, fun p hp => k _ _ _ (StepN.new s hp) (.lst upd_same (Reps.sub (StepN.new s hp).g (h2.rep n.toNat)))⟩
    · simp only [hl] at e; cases e
theorem o2_strMul : Op2 X rMulS strMulF := fun G H x y dx dy d Q s rx ry e k => by
  cases dx <;> cases dy <;> first | (simp only [strMulF, reduceCtorEq] at e; done) | skip
  cases rx
  cases ry
  rename_i z n
  refine ⟨z, n, rfl, rfl, ?_⟩
  simp only [strMulF] at e
  by_cases h1 : n < 1 ∧ -(2 ^ 62) ≤ n
  · rw [if_pos h1] at e
    cases e
    exact .inl ⟨h1.1, h1.2, k _ G H (StepN.refl s) (.str _)⟩
  · rw [if_neg h1] at e
    by_cases h2 : n = 1
    · rw [if_pos h2] at e
      cases e
      exact .inr (.inl ⟨h2, k _ G H (StepN.refl s) (.str _)⟩)
    · rw [if_neg h2] at e
      by_cases h3 : 1 < n ∧ 0 < z.length ∧ z.length * n.toNat ≤ lim ∧ n ≤ lim
      · rw [if_pos h3] at e
        cases e
        exact .inr (.inr ⟨h3.1, h3.2.1, h3.2.2.1, h3.2.2.2, k _ G H (StepN.refl s) (.str _)⟩)
      · rw [if_neg h3] at e; cases e
def mulF : D → D → Option D := orF (intsF (fun a b => small64b a || small64b b) fun a b => .int (a * b)) (orF strMulF lstMulF)
theorem o2_mul : Op2 X (fun x y H Q => rI CMul (fun i j => .int (i * j)) x y H Q ∨ rMulS x y H Q ∨ rRep x y H Q) mulF :=
  Op2.or (Op2.ints (r := rI CMul fun i j => .int (i * j)) (fun a b => .int (a * b)) (fun _ _ _ => .int _) fun a b H Q h q => ⟨a, b, rfl, rfl, by
    rcases Bool.or_eq_true_iff.mp h with h | h
    · exact .inl (of_decide_eq_true h)
    · exact .inr (of_decide_eq_true h), q⟩) (Op2.or o2_strMul o2_lstMul)
theorem op_mulP : OpR X (binaryOp .Mult) (fun x y H Q => rI CMul (fun i j => .int (i * j)) x y H Q ∨ rMulS x y H Q ∨ rRep x y H Q) := op_mul.or (op_mulS.or op_rep)

/-! == != -/
def scalD : D → D → Bool
  | .non, .non => true | .non, .int _ => true | .int _, .non => true | .non, .bl _ => true | .bl _, .non => true | .non, .str _ => true | .str _, .non => true
  | .int _, .int _ => true | .bl _, .bl _ => true | .str _, .str _ => true
  | .int _, .str _ => true | .str _, .int _ => true | .bl _, .str _ => true | .str _, .bl _ => true
  | _, _ => false
def eqS : D → D → Bool
  | .non, .non => true
  | .int a, .int b => decide (a = b)
  | .bl a, .bl b => decide (a = b)
  | .str a, .str b => decide (a = b)
  | _, _ => false
def eqPF (neg : Bool) : D → D → Option D := fun x y => match x.toP, y.toP with
  | some p, some q => if SeqAt.shaped p && SeqAt.shaped q then some (.bl (if neg then !PyData.eqv p q else PyData.eqv p q)) else none
  | _, _ => none
def eqSF (neg : Bool) : D → D → Option D := fun x y => if scalD x y then some (.bl (if neg then !eqS x y else eqS x y)) else none
def eqF : D → D → Option D := orF (eqSF false) (eqPF false)
def neF : D → D → Option D := orF (eqSF true) (eqPF true)
theorem eq_scal {G : Hp} {x y : V} {dx dy : D} (rx : Rep X.K G x dx) (ry : Rep X.K G y dy) (h : scalD dx dy = true) : scal x y = true ∧ decide (x = y) = eqS dx dy := by
  cases rx <;> cases ry <;> first | (simp [scalD] at h; done) | simp [scal, eqS]
theorem o2_eqS : Op2 X rEq (eqSF false) := fun G H x y dx dy d Q s rx ry e k => by
  unfold eqSF at e
  by_cases h : scalD dx dy = true
  · rw [if_pos h] at e
    cases e
    obtain ⟨h1, h2⟩ := eq_scal rx ry h
    exact ⟨h1, by rw [h2]; exact k _ G H (StepN.refl s) (.bl _)⟩
  · rw [if_neg h] at e; cases e
theorem o2_neS : Op2 X rNe (eqSF true) := fun G H x y dx dy d Q s rx ry e k => by
  unfold eqSF at e
  by_cases h : scalD dx dy = true
  · rw [if_pos h] at e
    cases e
    obtain ⟨h1, h2⟩ := eq_scal rx ry h
    exact ⟨h1, by rw [h2]; exact k _ G H (StepN.refl s) (.bl _)⟩
  · rw [if_neg h] at e; cases e
theorem o2_eqP : Op2 X (rEqD X.K) (eqPF false) := fun G H x y dx dy d Q s rx ry e k => by
  unfold eqPF at e
  cases h1 : dx.toP with
  | none => rw [h1] at e; cases e
  | some p =>
    cases h2 : dy.toP with
    | none => rw [h1, h2] at e; cases e
    | some q =>
      rw [h1, h2] at e
      simp only at e
      by_cases h : (SeqAt.shaped p && SeqAt.shaped q) = true
      · rw [if_pos h] at e
        cases e
        obtain ⟨a, b⟩ := Bool.and_eq_true_iff.mp h
        exact ⟨p, q, rx.dp s h1, ry.dp s h2, a, b, k _ G H (StepN.refl s) (.bl _)⟩
      · rw [if_neg h] at e; cases e
theorem o2_neP : Op2 X (rNeD X.K) (eqPF true) := fun G H x y dx dy d Q s rx ry e k => by
  unfold eqPF at e
  cases h1 : dx.toP with
  | none => rw [h1] at e; cases e
  | some p =>
    cases h2 : dy.toP with
    | none => rw [h1, h2] at e; cases e
    | some q =>
      rw [h1, h2] at e
      simp only at e
      by_cases h : (SeqAt.shaped p && SeqAt.shaped q) = true
      · rw [if_pos h] at e
        cases e
        obtain ⟨a, b⟩ := Bool.and_eq_true_iff.mp h
        exact ⟨p, q, rx.dp s h1, ry.dp s h2, a, b, k _ G H (StepN.refl s) (.bl _)⟩
      · rw [if_neg h] at e; cases e
theorem o2_eq : Op2 X (fun x y H Q => rEq x y H Q ∨ rEqD X.K x y H Q) eqF := Op2.or o2_eqS o2_eqP
theorem o2_ne : Op2 X (fun x y H Q => rNe x y H Q ∨ rNeD X.K x y H Q) neF := Op2.or o2_neS o2_neP
theorem op_eqP (hu : X.A.units + 64 < cLine) : OpR X (compareOp .Eq) (fun x y H Q => rEq x y H Q ∨ rEqD X.K x y H Q) := op_eq.or (op_eqD hu)
theorem op_neP (hu : X.A.units + 64 < cLine) : OpR X (compareOp .NotEq) (fun x y H Q => rNe x y H Q ∨ rNeD X.K x y H Q) := op_ne.or (op_neD hu)

/-! < <= > >= -/
abbrev rSS (g : Str → Str → Bool) : R2 := fun x y H Q => ∃ i j, x = .str i ∧ y = .str j ∧ Q (.bl (g i j)) H
def ordF (p : Int → Int → Bool) (q : Str → Str → Bool) : D → D → Option D := orF (intsF yes2 fun a b => .bl (p a b)) (strsF yes2 fun a b => .bl (q a b))
theorem o2_ord (p : Int → Int → Bool) (q : Str → Str → Bool) : Op2 X (fun x y H Q => rI0 (fun i j => .bl (p i j)) x y H Q ∨ rSS q x y H Q) (ordF p q) :=
  Op2.or (Op2.ints (r := rI0 fun i j => .bl (p i j)) (fun a b => .bl (p a b)) (fun _ _ _ => .bl _) fun a b H Q _ q => ⟨a, b, rfl, rfl, q⟩)
    (Op2.strs (r := rSS q) (fun a b => .bl (q a b)) (fun _ _ _ => .bl _) fun a b H Q _ q => ⟨a, b, rfl, rfl, q⟩)
def sLt (i j : Str) : Bool := decide (i.cps.toList < j.cps.toList)
def ltF : D → D → Option D := ordF (fun a b => decide (a < b)) sLt
def leF : D → D → Option D := ordF (fun a b => decide (a ≤ b)) fun i j => !sLt j i
def gtF : D → D → Option D := ordF (fun a b => decide (b < a)) fun i j => sLt j i
def geF : D → D → Option D := ordF (fun a b => decide (b ≤ a)) fun i j => !sLt i j
theorem op_ltP : OpR X (compareOp .Lt) (fun x y H Q => rI0 (fun i j => .bl (decide (i < j))) x y H Q ∨ rSS sLt x y H Q) := op_lt.or op_lt_str
theorem op_leP : OpR X (compareOp .LtE) (fun x y H Q => rI0 (fun i j => .bl (decide (i ≤ j))) x y H Q ∨ rSS (fun i j => !sLt j i) x y H Q) := op_le.or op_le_str
theorem op_gtP : OpR X (compareOp .Gt) (fun x y H Q => rI0 (fun i j => .bl (decide (j < i))) x y H Q ∨ rSS (fun i j => sLt j i) x y H Q) := op_gt.or op_gt_str
theorem op_geP : OpR X (compareOp .GtE) (fun x y H Q => rI0 (fun i j => .bl (decide (j ≤ i))) x y H Q ∨ rSS (fun i j => !sLt i j) x y H Q) := op_ge.or op_ge_str

/-! in, not in -/
def flatD : D → Bool
  | .non => true | .bl _ => true | .int _ => true | .str _ => true | _ => false
def eqFl : D → D → Bool
  | .non, .non => true
  | .bl a, .bl b => a == b
  | .bl a, .int b => (if a then 1 else 0) == b
  | .int a, .bl b => a == (if b then 1 else 0)
  | .int a, .int b => a == b
  | .str a, .str b => a == b
  | _, _ => false
def inSeqF (neg : Bool) : D → D → Option D := fun x y => match y with
  | .lst ys => if flatD x && ys.all flatD then some (.bl (if neg then !ys.any fun z => eqFl z x else ys.any fun z => eqFl z x)) else none
  | .tup ys => if flatD x && ys.all flatD then some (.bl (if neg then !ys.any fun z => eqFl z x else ys.any fun z => eqFl z x)) else none
  | _ => none
def inSgF (neg : Bool) : D → D → Option D
  | .str a, .str z => match a.cps.toList with
    | [c] => some (.bl (if neg then !decide (c ∈ z.cps.toList) else decide (c ∈ z.cps.toList)))
    | _ => none
  | _, _ => none
theorem flat_of {K : PySem.W.Frag} {G : Hp} {x : V} {d : D} (r : Rep K G x d) (h : flatD d = true) : flatV x = true := by
  cases r <;> first | rfl | (simp [flatD] at h; done)
theorem eqFl_of {K : PySem.W.Frag} {G : Hp} {x y : V} {d e : D} (r : Rep K G x d) (q : Rep K G y e) (h : flatD d = true) : eqV x y = eqFl d e := by
  cases r <;> cases q <;> first | rfl | (simp [flatD] at h; done)
theorem flats_of {K : PySem.W.Frag} {G : Hp} : ∀ {ds : List D} {xs : List V}, Reps K G xs ds → ds.all flatD = true → xs.all flatV = true
  | [], _, r, _ => by cases r; rfl
  | d :: ds, _, r, h => by
    cases r with
    | cons r1 r2 =>
      rw [List.all_cons, Bool.and_eq_true_iff] at h ⊢
      exact ⟨flat_of r1 h.1, flats_of r2 h.2⟩
theorem anyEq_of {K : PySem.W.Frag} {G : Hp} {x : V} {d : D} (rx : Rep K G x d) : ∀ {ds : List D} {xs : List V}, Reps K G xs ds → ds.all flatD = true → inV x xs = ds.any fun z => eqFl z d
  | [], _, r, _ => by cases r; rfl
  | e :: ds, _, r, h => by
    cases r with
    | cons r1 r2 =>
      rw [List.all_cons, Bool.and_eq_true_iff] at h
      have ih := anyEq_of rx r2 h.2
      unfold inV at ih ⊢
      rw [List.any_cons, List.any_cons, ih, eqFl_of r1 rx h.1]
theorem o2_inSeq (neg : Bool) : Op2 X (rIn X.K neg) (inSeqF neg) := fun G H x y dx dy d Q s rx ry e k => by
  cases ry <;> first | (simp only [inSeqF, reduceCtorEq] at e; done) | skip
  · rename_i a xs ds h1 h2
    simp only [inSeqF] at e
    by_cases h : (flatD dx && ds.all flatD) = true
    · rw [if_pos h] at e
      cases e
      obtain ⟨a1, a2⟩ := Bool.and_eq_true_iff.mp h
      refine ⟨a, xs, rfl, .inl (s.sqL h1), flat_of rx a1, flats_of h2 a2, ?_⟩
      rw [anyEq_of rx h2 a2]
      exact k _ G H (StepN.refl s) (.bl _)
    · rw [if_neg h] at e; cases e
  · rename_i a xs ds h1 h2
    simp only [inSeqF] at e
    by_cases h : (flatD dx && ds.all flatD) = true
    · rw [if_pos h] at e
      cases e
      obtain ⟨a1, a2⟩ := Bool.and_eq_true_iff.mp h
      refine ⟨a, xs, rfl, .inr (s.sqT h1), flat_of rx a1, flats_of h2 a2, ?_⟩
      rw [anyEq_of rx h2 a2]
      exact k _ G H (StepN.refl s) (.bl _)
    · rw [if_neg h] at e; cases e
abbrev rSg (neg : Bool) : R2 := fun x y H Q => ∃ (c : Nat) (z : Str), x = .str ⟨#[c]⟩ ∧ y = .str z ∧ Q (.bl (if neg then !decide (c ∈ z.cps.toList) else decide (c ∈ z.cps.toList))) H
theorem o2_inSg (neg : Bool) : Op2 X (rSg neg) (inSgF neg) := fun G H x y dx dy d Q s rx ry e k => by
  cases dx <;> cases dy <;> first | (simp only [inSgF, reduceCtorEq] at e; done) | skip
  cases rx
  cases ry
  rename_i a z
  simp only [inSgF] at e
  obtain ⟨⟨l⟩⟩ := a
  cases l with
  | nil => simp at e
  | cons c l =>
    cases l with
    | cons b l => simp at e
    | nil =>
      simp only [Option.some.injEq] at e
      subst e
      exact ⟨c, z, rfl, rfl, k _ G H (StepN.refl s) (.bl _)⟩
def inF : D → D → Option D := orF (inSeqF false) (inSgF false)
def notInF : D → D → Option D := orF (inSeqF true) (inSgF true)
theorem op_inP : OpR X (compareOp .In) (fun x y H Q => rIn X.K false x y H Q ∨ rSg false x y H Q) := op_in_seq.or op_in_sign
theorem op_notInP : OpR X (compareOp .NotIn) (fun x y H Q => rIn X.K true x y H Q ∨ rSg true x y H Q) := op_notIn_seq.or op_notIn_sign
theorem o2_in : Op2 X (fun x y H Q => rIn X.K false x y H Q ∨ rSg false x y H Q) inF := Op2.or (o2_inSeq false) (o2_inSg false)
theorem o2_notIn : Op2 X (fun x y H Q => rIn X.K true x y H Q ∨ rSg true x y H Q) notInF := Op2.or (o2_inSeq true) (o2_inSg true)

/-! is, is not -/
def isNonD : D → Bool
  | .non => true | _ => false
def isNF (neg : Bool) : D → D → Option D := fun x y => match y with
  | .non => some (.bl (if neg then !isNonD x else isNonD x))
  | _ => none
def isBF (neg : Bool) : D → D → Option D := fun x y => match x, y with
  | .bl a, .bl b => some (.bl (if neg then !decide (a = b) else decide (a = b)))
  | _, _ => none
abbrev rIsN' (neg : Bool) : R2 := fun x y H Q => y = .non ∧ Q (.bl (if neg then !decide (x = .non) else decide (x = .non))) H
abbrev rIsB' (neg : Bool) : R2 := fun x y H Q => ∃ a b : Bool, x = .bl a ∧ y = .bl b ∧ Q (.bl (if neg then !decide (a = b) else decide (a = b))) H
theorem isNon_of {K : PySem.W.Frag} {G : Hp} {x : V} {d : D} (r : Rep K G x d) : decide (x = V.non) = isNonD d := by
  cases r <;> simp [isNonD]
theorem o2_isN (neg : Bool) : Op2 X (rIsN' neg) (isNF neg) := fun G H x y dx dy d Q s rx ry e k => by
  cases ry <;> first | (simp only [isNF, reduceCtorEq] at e; done) | skip
  simp only [isNF, Option.some.injEq] at e
  subst e
  exact ⟨rfl, by rw [isNon_of rx]; exact k _ G H (StepN.refl s) (.bl _)⟩
theorem o2_isB (neg : Bool) : Op2 X (rIsB' neg) (isBF neg) := fun G H x y dx dy d Q s rx ry e k => by
  cases rx <;> cases ry <;> first | (simp only [isBF, reduceCtorEq] at e; done) | skip
  simp only [isBF, Option.some.injEq] at e
  subst e
  exact ⟨_, _, rfl, rfl, k _ G H (StepN.refl s) (.bl _)⟩
def isF : D → D → Option D := orF (isNF false) (isBF false)
def isNotF : D → D → Option D := orF (isNF true) (isBF true)
theorem op_isP : OpR X (compareOp .Is) (fun x y H Q => rIsN' false x y H Q ∨ rIsB' false x y H Q) := op_isN.or op_is_bl
theorem op_isNotP : OpR X (compareOp .IsNot) (fun x y H Q => rIsN' true x y H Q ∨ rIsB' true x y H Q) := op_notN.or op_isnot_bl
theorem o2_is : Op2 X (fun x y H Q => rIsN' false x y H Q ∨ rIsB' false x y H Q) isF := Op2.or (o2_isN false) (o2_isB false)
theorem o2_isNot : Op2 X (fun x y H Q => rIsN' true x y H Q ∨ rIsB' true x y H Q) isNotF := Op2.or (o2_isN true) (o2_isB true)

/-! x[i], slices -/
def ixF : D → D → Option D := fun x y => match x, y with
  | .lst ds, .int i => atI ds i
  | .tup ds, .int i => atI ds i
  | .fz ds, .int i => atI ds i
  | .str z, .int i => if z.length ≤ lim then (atI z.cps.toList i).map fun c => .str ⟨#[c]⟩ else none
  | _, _ => none
theorem Reps.atI {K : PySem.W.Frag} {G : Hp} {xs : List V} {ds : List D} {i : Int} {d : D} (r : Reps K G xs ds) (h : L2.atI ds i = some d) : ∃ v, L2.atI xs i = some v ∧ Rep K G v d := by
  unfold L2.atI at h ⊢
  rw [Reps.length r]
  cases e : ixN ds.length i with
  | none => rw [e] at h; cases h
  | some j =>
    rw [e] at h
    obtain ⟨v, h1, h2⟩ := r.get (i := j) (d := d) h
    exact ⟨v, h1, h2⟩
theorem o2_ix : Op2 X (rIx X.K) ixF := fun G H x y dx dy d Q s rx ry e k => by
  cases ry <;> cases rx <;> first | (simp only [ixF, reduceCtorEq] at e; done) | skip
  · rename_i i z
    simp only [ixF] at e
    by_cases hz : z.length ≤ lim
    · rw [if_pos hz] at e
      cases q : atI z.cps.toList i with
      | none => rw [q] at e; cases e
      | some c =>
        rw [q] at e
        cases e
        exact .inr (.inr ⟨z, i, c, rfl, rfl, lim_ok hz, q, k _ G H (StepN.refl s) (.str _)⟩)
    · rw [if_neg hz] at e; cases e
  · rename_i i a xs ds h1 h2
    obtain ⟨v, e1, e2⟩ := h2.atI (show atI ds i = some d from e)
    exact .inl ⟨a, xs, i, v, rfl, rfl, s.sqL h1, e1, k v G H (StepN.refl s) e2⟩
  · rename_i i a xs ds h1 h2
    obtain ⟨v, e1, e2⟩ := h2.atI (show atI ds i = some d from e)
    exact .inr (.inl ⟨a, xs, i, v, rfl, rfl, s.sqT h1, e1, k v G H (StepN.refl s) e2⟩)
  · rename_i i a xs ds h1 h2
    obtain ⟨v, e1, e2⟩ := h2.atI (show atI ds i = some d from e)
    exact .inl ⟨a, xs, i, v, rfl, rfl, s.sqL' h1, e1, k v G H (StepN.refl s) e2⟩
def cutD {α : Type} (xs : List α) (lo hi : Option Int) : List α := (xs.drop (HT.sIx xs.length 0 lo)).take (HT.sIx xs.length xs.length hi - HT.sIx xs.length 0 lo)
/-- slices: by data -/
def slF : D → Option Int → Option Int → Option D
  | .str z, lo, hi => if z.length ≤ lim then some (.str (cutS z lo hi)) else none
  | .lst ds, lo, hi => some (.lst (cutD ds lo hi))
  | .tup ds, lo, hi => some (.tup (cutD ds lo hi))
  | _, _, _ => none
def rSl3 (K : PySem.W.Frag) : V → Option Int → Option Int → Hp → VK → Prop := fun x lo hi H Q => rSlS x lo hi H Q ∨ rSlL K x lo hi H Q ∨ rSlA K x lo hi H Q
theorem sl_3 : SlR X (rSl3 X.K) := sl_str.or (sl_list.or sl_tupA)
theorem Reps.cut {K : PySem.W.Frag} {G : Hp} {xs : List V} {ds : List D} {lo hi : Option Int} (r : Reps K G xs ds) : Reps K G (cutV xs lo hi) (cutD ds lo hi) := by
  unfold cutV cutD
  rw [Reps.length r]
  exact (r.drop _).take _
theorem sl_ok {G H : Hp} {x : V} {dx d : D} {lo hi : Option Int} {Q : VK} (s : Sub G H) (rx : Rep X.K G x dx) (e : slF dx lo hi = some d) (k : ∀ v G' H', StepN G H G' H' → Rep X.K G' v d → Q v H') : rSl3 X.K x lo hi H Q := by
  cases rx <;> first | (simp only [slF, reduceCtorEq] at e; done) | skip
  · rename_i z
    simp only [slF] at e
    by_cases hz : z.length ≤ lim
    · rw [if_pos hz] at e
      cases e
      exact .inl ⟨z, rfl, lim_ok hz, k _ G H (StepN.refl s) (.str _)⟩
    · rw [if_neg hz] at e; cases e
  · rename_i a xs ds h1 h2
    cases e
    exact .inr (.inl ⟨a, xs, rfl, s.sqL h1, fun p hp => k _ _ _ (StepN.new s hp) (.lst upd_same (Reps.sub (StepN.new s hp).g h2.cut))⟩)
  · rename_i a xs ds h1 h2
    cases e
    refine .inr (.inr ⟨a, xs, rfl, s.sqT h1, fun hw => ?_, fun _ p hp => k _ _ _ (StepN.new s hp) (.tup (.inl (.inl upd_same)) (Reps.sub (StepN.new s hp).g h2.cut))⟩)
    have hc : cutD ds lo hi = ds := by
      unfold cutD
      rw [← Reps.length h2, hw.1, hw.2, List.drop_zero, Nat.sub_zero, Reps.length h2, List.take_length]
    rw [hc] at k
    exact k _ G H (StepN.refl s) (.tup h1 h2)
end
end PL
end L2
set_option Elab.async false
set_option linter.all false
set_option maxRecDepth 100000
namespace L2
namespace PL
open PySem PySem.Spec PyProof.Rows
section
variable {X : Cx} {c : Cz} {W : WX} {a b e : Expr} {ga gb gc : GE D} {pos : Pos}
/-! ### slices -/
def GdO (X : Cx) (c : Cz) (W : WX) (o : Option Expr) (g : GE (Option Int)) : Prop := ∃ t, PO X o t ∧ ∀ ρ σ G H Q, ER X.K c ρ σ G H → Gd X c W ρ σ G H (g ρ) (fun _ (x y : Option Int) => x = y) Q → t σ H Q
def noO : GE (Option Int) := fun ρ => .ok none ρ
def someO (g : GE D) : GE (Option Int) := fun ρ => (g ρ).bind fun d ρ1 => match d with
  | .int i => .ok (some i) ρ1
  | _ => .bad
theorem OX.none : GdO X c W none noO := ⟨_, po_none, fun ρ σ G H Q E hq => hq.here E rfl⟩
theorem OX.some (h : EX X c W e ga) : GdO X c W (some e) (someO ga) := by
  obtain ⟨t, p, q⟩ := h
  refine ⟨_, po_some p, fun ρ σ G H Q E hq => q ρ σ G H _ E (Gd.bind hq fun d ρ1 v G1 H1 E1 t1 r1 h1 => ?_)⟩
  cases r1 with
  | int i => exact ⟨i, rfl, Gd.here (Rel := fun _ (x y : Option Int) => x = y) h1 E1 rfl⟩
  | non => exact False.elim h1
  | bl _ => exact False.elim h1
  | str _ => exact False.elim h1
  | lst _ _ => exact False.elim h1
  | tup _ _ => exact False.elim h1
  | dct _ _ => exact False.elim h1
  | fz _ _ => exact False.elim h1
def slE (g : GE D) (gl gh : GE (Option Int)) : GE D := fun ρ => (g ρ).bind fun x ρ1 => (gl ρ1).bind fun lo ρ2 => (gh ρ2).bind fun hi ρ3 => ofOpt (slF x lo hi) ρ3
theorem EX.slice {lo hi : Option Expr} {gl gh : GE (Option Int)} {p2 : Pos} (he : EX X c W e ga) (hl : GdO X c W lo gl) (hh : GdO X c W hi gh) : EX X c W (.Subscript e (.Slice lo hi none p2) pos) (slE ga gl gh) := by
  obtain ⟨te, pe, qe⟩ := he
  obtain ⟨tl, pl, ql⟩ := hl
  obtain ⟨th, ph, qh⟩ := hh
  refine ⟨_, pe_slice sl_3 pe pl ph, fun ρ σ G H Q E hq => qe ρ σ G H _ E (Gd.bind hq fun x ρ1 v G1 H1 E1 t1 r1 h1 => ql ρ1 σ G1 H1 _ E1 (Gd.bind h1 fun lo ρ2 lo' G2 H2 E2 t2 r2 h2 =>
    qh ρ2 σ G2 H2 _ E2 (Gd.bind h2 fun hi ρ3 hi' G3 H3 E3 t3 r3 h3 => ?_)))⟩
  subst r2
  subst r3
  obtain ⟨d, e, k⟩ := Gd.opt h3 E3
  exact sl_ok E3.sub (Rep.sub (t2.g.trans t3.g) r1) e k

/-! ### tests -/
def boolE (g : GE D) : GE Bool := fun ρ => (g ρ).bind fun d ρ1 => match d with
  | .bl b => .ok b ρ1
  | _ => .bad
theorem Gd.bool {ρ : PEnv} {σ : St} {G H : Hp} {d : D} {v : V} {Q : Bool → Hp → Prop} (h : Gd X c W ρ σ G H (match d with | .bl b => R.ok b ρ | _ => .bad) RB Q) (E : ER X.K c ρ σ G H) (r : Rep X.K G v d) : ∃ k, v = .bl k ∧ Q k H := by
  cases r with
  | bl b => exact ⟨b, rfl, Gd.here (Rel := RB) h E rfl⟩
  | non => exact False.elim h
  | int _ => exact False.elim h
  | str _ => exact False.elim h
  | lst _ _ => exact False.elim h
  | tup _ _ => exact False.elim h
  | dct _ _ => exact False.elim h
  | fz _ _ => exact False.elim h
/-- a test that is a bool by any expression (no comparison, no and, or, not) -/
theorem TX.val (h : EX X c W e ga) (he : ∀ whole, isTrue e X.env whole = (do let v ← whole; standAt e.pos; holding [v] (truthy v)) := by intro _; rfl) : TX X c W e (boolE ga) := by
  obtain ⟨t, p, q⟩ := h
  exact ⟨_, pt_val p he, fun ρ σ G H Q E hq => q ρ σ G H _ E (Gd.bind hq fun d ρ1 v G1 H1 E1 t1 r1 h1 => Gd.bool h1 E1 r1)⟩
theorem TX.cmp {op : CmpOp} {r : R2} {f : D → D → Option D} (ho : Op2 X r f) (hr : OpR X (compareOp op) r) (ha : EX X c W a ga) (hb : EX X c W b gb) (hm : behindInMarks op b = false := by first | exact nobehind _ (by decide) (by decide) | rfl) :
    TX X c W (.Compare a [op] [b] pos) (boolE (binE f ga gb)) := by
  obtain ⟨ta, pa, qa⟩ := ha
  obtain ⟨tb, pb, qb⟩ := hb
  exact ⟨_, pt_cmpR hr pa pb hm, fun ρ σ G H Q E hq => bin_ok ho qa qb ρ σ G H _ E (Gd.bind hq fun d ρ1 v G1 H1 E1 t1 r1 h1 => Gd.bool h1 E1 r1)⟩
def chainE (f f' : D → D → Option D) (ga gb gc : GE D) : GE D := fun ρ => (ga ρ).bind fun x ρ1 => (gb ρ1).bind fun y ρ2 => (ofOpt (f x y) ρ2).bind fun z ρ3 => match z with
  | .bl true => (gc ρ3).bind fun w ρ4 => ofOpt (f' y w) ρ4
  | .bl false => .ok (.bl false) ρ3
  | _ => .bad
theorem chain_ok {r r' : R2} {f f' : D → D → Option D} {ta tb tc : TE} (ho : Op2 X r f) (ho' : Op2 X r' f') (ha : ∀ ρ σ G H Q, ER X.K c ρ σ G H → Gd X c W ρ σ G H (ga ρ) (RV X) Q → ta σ H Q) (hb : ∀ ρ σ G H Q, ER X.K c ρ σ G H → Gd X c W ρ σ G H (gb ρ) (RV X) Q → tb σ H Q)
    (hc : ∀ ρ σ G H Q, ER X.K c ρ σ G H → Gd X c W ρ σ G H (gc ρ) (RV X) Q → tc σ H Q) : ∀ ρ σ G H Q, ER X.K c ρ σ G H → Gd X c W ρ σ G H (chainE f f' ga gb gc ρ) (RV X) Q → tChain r r' ta tb tc σ H Q := fun ρ σ G H Q E hq =>
  ha ρ σ G H _ E (Gd.bind hq fun x ρ1 v G1 H1 E1 t1 r1 h1 => hb ρ1 σ G1 H1 _ E1 (Gd.bind h1 fun y ρ2 u G2 H2 E2 t2 r2 h2 => by
    cases e : f x y with
    | none => rw [e] at h2; exact False.elim h2
    | some z =>
      rw [e] at h2
      refine ho G2 H2 v u x y z _ E2.sub (Rep.sub t2.g r1) r2 e fun w G3 H3 t3 r3 => ?_
      have h3 := Gd.shift h2 (t3.step _) (OwnS.refl _ _ _)
      have E3 := E2.stepN t3
      cases r3 with
      | bl k =>
        cases k with
        | true =>
          refine ⟨true, rfl, ?_⟩
          rw [if_pos rfl]
          exact hc ρ2 σ G3 H3 _ E3 (Gd.bind (k := fun w ρ4 => ofOpt (f' y w) ρ4) h3 fun w2 ρ4 u2 G4 H4 E4 t4 r4 h4 => by
            obtain ⟨d, e2, k2⟩ := Gd.opt h4 E4
            exact ho' G4 H4 u u2 y w2 d Q E4.sub (Rep.sub (t3.g.trans t4.g) r2) r4 e2 k2)
        | false =>
          refine ⟨false, rfl, ?_⟩
          rw [if_neg (by decide)]
          exact Gd.here (Rel := RV X) (show Gd X c W ρ2 σ G3 H3 (.ok (.bl false) ρ2) (RV X) Q from h3) E3 (.bl false)
      | non => exact False.elim h3
      | int _ => exact False.elim h3
      | str _ => exact False.elim h3
      | lst _ _ => exact False.elim h3
      | tup _ _ => exact False.elim h3
      | dct _ _ => exact False.elim h3
      | fz _ _ => exact False.elim h3))
theorem EX.chain {op op' : CmpOp} {r r' : R2} {f f' : D → D → Option D} {d : Expr} (ho : Op2 X r f) (hr : OpR X (compareOp op) r) (ho' : Op2 X r' f') (hr' : OpR X (compareOp op') r') (ha : EX X c W a ga) (hb : EX X c W b gb) (hc : EX X c W d gc)
    (hm : lastMarks [op, op'] [b, d] = false := by with_unfolding_all rfl) : EX X c W (.Compare a [op, op'] [b, d] pos) (chainE f f' ga gb gc) := by
  obtain ⟨ta, pa, qa⟩ := ha
  obtain ⟨tb, pb, qb⟩ := hb
  obtain ⟨tc, pc, qc⟩ := hc
  exact ⟨_, pe_chain hr hr' pa pb pc hm, chain_ok ho ho' qa qb qc⟩
theorem TX.chain {op op' : CmpOp} {r r' : R2} {f f' : D → D → Option D} {d : Expr} (ho : Op2 X r f) (hr : OpR X (compareOp op) r) (ho' : Op2 X r' f') (hr' : OpR X (compareOp op') r') (ha : EX X c W a ga) (hb : EX X c W b gb) (hc : EX X c W d gc)
    (hm : lastMarks [op, op'] [b, d] = false := by with_unfolding_all rfl) : TX X c W (.Compare a [op, op'] [b, d] pos) (boolE (chainE f f' ga gb gc)) := by
  obtain ⟨ta, pa, qa⟩ := ha
  obtain ⟨tb, pb, qb⟩ := hb
  obtain ⟨tc, pc, qc⟩ := hc
  exact ⟨_, pt_chain hr hr' pa pb pc hm, fun ρ σ G H Q E hq => chain_ok ho ho' qa qb qc ρ σ G H _ E (Gd.bind hq fun d ρ1 v G1 H1 E1 t1 r1 h1 => Gd.bool h1 E1 r1)⟩
/-! and, or, not -/
def notT (g : GE Bool) : GE Bool := fun ρ => (g ρ).bind fun b ρ1 => .ok (!b) ρ1
def andT (g h : GE Bool) : GE Bool := fun ρ => (g ρ).bind fun b ρ1 => if b then h ρ1 else .ok false ρ1
def orT (g h : GE Bool) : GE Bool := fun ρ => (g ρ).bind fun b ρ1 => if b then .ok true ρ1 else h ρ1
variable {ta tb : GE Bool} {rest : List Expr}
theorem TX.not (h : TX X c W a ta) : TX X c W (.UnaryOp .Not a pos) (notT ta) := by
  obtain ⟨t, p, q⟩ := h
  refine ⟨_, pt_not p, fun ρ σ G H Q E hq => q ρ σ G H _ E (Gd.bind hq fun b ρ1 b' G1 H1 E1 t1 r1 h1 => ?_)⟩
  subst r1
  exact Gd.here (Rel := RB) h1 E1 rfl
theorem WX.and1 (h : TX X c W a ta) : WXT X c W (.BoolOp .And [a] pos) ta := by
  obtain ⟨t, p, q⟩ := h
  exact ⟨_, pw_and1 p, q⟩
theorem WX.or1 (h : TX X c W a ta) : WXT X c W (.BoolOp .Or [a] pos) ta := by
  obtain ⟨t, p, q⟩ := h
  exact ⟨_, pw_or1 p, q⟩
theorem WX.and (h : TX X c W a ta) (h2 : WXT X c W (.BoolOp .And (b :: rest) pos) tb) : WXT X c W (.BoolOp .And (a :: b :: rest) pos) (andT ta tb) := by
  obtain ⟨t, p, q⟩ := h
  obtain ⟨t2, p2, q2⟩ := h2
  refine ⟨_, pw_and p p2, fun ρ σ G H Q E hq => q ρ σ G H _ E (Gd.bind hq fun k ρ1 k' G1 H1 E1 t1 r1 h1 => ?_)⟩
  subst r1
  cases k with
  | true => rw [if_pos rfl] at h1 ⊢; exact q2 ρ1 σ G1 H1 Q E1 h1
  | false => rw [if_neg (by decide)] at h1 ⊢; exact Gd.here (Rel := RB) h1 E1 rfl
theorem WX.or (h : TX X c W a ta) (h2 : WXT X c W (.BoolOp .Or (b :: rest) pos) tb) : WXT X c W (.BoolOp .Or (a :: b :: rest) pos) (orT ta tb) := by
  obtain ⟨t, p, q⟩ := h
  obtain ⟨t2, p2, q2⟩ := h2
  refine ⟨_, pw_or p p2, fun ρ σ G H Q E hq => q ρ σ G H _ E (Gd.bind hq fun k ρ1 k' G1 H1 E1 t1 r1 h1 => ?_)⟩
  subst r1
  cases k with
  | true => rw [if_pos rfl] at h1 ⊢; exact Gd.here (Rel := RB) h1 E1 rfl
  | false => rw [if_neg (by decide)] at h1 ⊢; exact q2 ρ1 σ G1 H1 Q E1 h1
theorem TX.w (h : WXT X c W e ta) : TX X c W e ta := by
  obtain ⟨t, p, q⟩ := h
  exact ⟨t, p.pt, q⟩
/-! .. as values -/
def notE (g : GE D) : GE D := fun ρ => (g ρ).bind fun d ρ1 => match d with
  | .bl b => .ok (.bl (!b)) ρ1
  | _ => .bad
def andE (g h : GE D) : GE D := fun ρ => (g ρ).bind fun d ρ1 => match d with
  | .bl true => h ρ1
  | .bl false => .ok (.bl false) ρ1
  | _ => .bad
def orE (g h : GE D) : GE D := fun ρ => (g ρ).bind fun d ρ1 => match d with
  | .bl true => .ok (.bl true) ρ1
  | .bl false => h ρ1
  | _ => .bad
theorem EX.not (h : EX X c W a ga) : EX X c W (.UnaryOp .Not a pos) (notE ga) := by
  obtain ⟨t, p, q⟩ := h
  refine ⟨_, pe_not p, fun ρ σ G H Q E hq => q ρ σ G H _ E (Gd.bind hq fun d ρ1 v G1 H1 E1 t1 r1 h1 => ?_)⟩
  cases r1 with
  | bl k => exact ⟨k, rfl, Gd.here (Rel := RV X) h1 E1 (.bl _)⟩
  | non => exact False.elim h1
  | int _ => exact False.elim h1
  | str _ => exact False.elim h1
  | lst _ _ => exact False.elim h1
  | tup _ _ => exact False.elim h1
  | dct _ _ => exact False.elim h1
  | fz _ _ => exact False.elim h1
theorem EX.one {op : BoolOp} (h : EX X c W a ga) : EX X c W (.BoolOp op [a] pos) ga := by
  obtain ⟨t, p, q⟩ := h
  exact ⟨_, pe_one p, q⟩
theorem EX.and (h : EX X c W a ga) (h2 : EX X c W (.BoolOp .And (b :: rest) pos) gb) : EX X c W (.BoolOp .And (a :: b :: rest) pos) (andE ga gb) := by
  obtain ⟨t, p, q⟩ := h
  obtain ⟨t2, p2, q2⟩ := h2
  refine ⟨_, pe_and p p2, fun ρ σ G H Q E hq => q ρ σ G H _ E (Gd.bind hq fun d ρ1 v G1 H1 E1 t1 r1 h1 => ?_)⟩
  cases r1 with
  | bl k =>
    refine ⟨k, rfl, ?_⟩
    cases k with
    | true => rw [if_pos rfl]; exact q2 ρ1 σ G1 H1 Q E1 h1
    | false => rw [if_neg (by decide)]; exact Gd.here (Rel := RV X) h1 E1 (.bl _)
  | non => exact False.elim h1
  | int _ => exact False.elim h1
  | str _ => exact False.elim h1
  | lst _ _ => exact False.elim h1
  | tup _ _ => exact False.elim h1
  | dct _ _ => exact False.elim h1
  | fz _ _ => exact False.elim h1
theorem EX.or (h : EX X c W a ga) (h2 : EX X c W (.BoolOp .Or (b :: rest) pos) gb) : EX X c W (.BoolOp .Or (a :: b :: rest) pos) (orE ga gb) := by
  obtain ⟨t, p, q⟩ := h
  obtain ⟨t2, p2, q2⟩ := h2
  refine ⟨_, pe_or p p2, fun ρ σ G H Q E hq => q ρ σ G H _ E (Gd.bind hq fun d ρ1 v G1 H1 E1 t1 r1 h1 => ?_)⟩
  cases r1 with
  | bl k =>
    refine ⟨k, rfl, ?_⟩
    cases k with
    | true => rw [if_pos rfl]; exact Gd.here (Rel := RV X) h1 E1 (.bl _)
    | false => rw [if_neg (by decide)]; exact q2 ρ1 σ G1 H1 Q E1 h1
  | non => exact False.elim h1
  | int _ => exact False.elim h1
  | str _ => exact False.elim h1
  | lst _ _ => exact False.elim h1
  | tup _ _ => exact False.elim h1
  | dct _ _ => exact False.elim h1
  | fz _ _ => exact False.elim h1
def ifE (t : GE Bool) (g h : GE D) : GE D := fun ρ => (t ρ).bind fun b ρ1 => if b then g ρ1 else h ρ1
theorem EX.ifE {t : Expr} (ht : TX X c W t ta) (ha : EX X c W a ga) (hb : EX X c W b gb) : EX X c W (.IfExp t a b pos) (ifE ta ga gb) := by
  obtain ⟨t, p, q⟩ := ht
  obtain ⟨t2, p2, q2⟩ := ha
  obtain ⟨t3, p3, q3⟩ := hb
  refine ⟨_, pe_ifExp p p2 p3, fun ρ σ G H Q E hq => q ρ σ G H _ E (Gd.bind hq fun k ρ1 k' G1 H1 E1 t1 r1 h1 => ?_)⟩
  subst r1
  cases k with
  | true => rw [if_pos rfl] at h1 ⊢; exact q2 ρ1 σ G1 H1 Q E1 h1
  | false => rw [if_neg (by decide)] at h1 ⊢; exact q3 ρ1 σ G1 H1 Q E1 h1

/-! ### builtins by name, methods of data -/
variable {x : Str} {id : String} {p : Pos} {es : List Expr} {gs : GE (List D)}
theorem EX.callB {r : List V → Hp → VK → Prop} {f : List D → Option D} (ho : OpL X r f) (hc : CallR X (.builtin id) r) (hm : X.mg x = none) (hv : bootBuiltins x = some (.builtin id)) (ha : AX X c W (e :: es) gs) (hg : Gl X x := by rfl)
    (hn : x ≠ "__name__" := by decide) (hd : (x == ("__debug__" : Str)) = false := by decide) (he : starEach (e :: es) X.env = (false, eval e X.env) :: starEach es X.env := by rfl) (hpl : (backTo pos (starEach es X.env)).any (·.1) = false := by rfl) :
    EX X c W (.Call (.Name x p) (e :: es) [] pos) (appE f gs) := by
  obtain ⟨t, pa, q⟩ := ha
  refine ⟨_, pe_callB hc hg hm hv pa hn hd he hpl, fun ρ σ G H Q E hq => q ρ σ G H _ E (Gd.bind hq fun ds ρ1 vs G1 H1 E1 t1 r1 h1 => ?_)⟩
  obtain ⟨d, e, k⟩ := Gd.opt h1 E1
  exact ho G1 H1 vs ds d Q E1.sub r1 e k
theorem EX.callTy {r : List V → Hp → VK → Prop} {f : List D → Option D} (ho : OpL X r f) (hc : CallR X (.type id) r) (hm : X.mg x = none) (hv : bootBuiltins x = some (.type id)) (ha : AX X c W (e :: es) gs) (hg : Gl X x := by rfl)
    (hn : x ≠ "__name__" := by decide) (hd : (x == ("__debug__" : Str)) = false := by decide) (he : starEach (e :: es) X.env = (false, eval e X.env) :: starEach es X.env := by rfl) (hpl : (backTo pos (starEach es X.env)).any (·.1) = false := by rfl) :
    EX X c W (.Call (.Name x p) (e :: es) [] pos) (appE f gs) := by
  obtain ⟨t, pa, q⟩ := ha
  refine ⟨_, pe_callTy hc hg hm hv pa hn hd he hpl, fun ρ σ G H Q E hq => q ρ σ G H _ E (Gd.bind hq fun ds ρ1 vs G1 H1 E1 t1 r1 h1 => ?_)⟩
  obtain ⟨d, e, k⟩ := Gd.opt h1 E1
  exact ho G1 H1 vs ds d Q E1.sub r1 e k
end
end PL
end L2
set_option Elab.async false
set_option linter.all false
set_option maxRecDepth 100000
namespace L2
namespace PL
open PySem PySem.Spec PyProof.Rows
section
variable {X : Cx} {c : Cz} {W : WX} {a b e : Expr} {ga gb gc : GE D} {pos : Pos}
/-! ### builtins on data -/
abbrev RCL := List V → Hp → VK → Prop
theorem OpL.or {r r' : RCL} {f g : List D → Option D} (h : OpL X r f) (h' : OpL X r' g) : OpL X (fun xs H Q => r xs H Q ∨ r' xs H Q) (fun ds => match f ds with | some d => some d | none => g ds) := fun G H xs ds d Q s r e k => by
  cases q : f ds with
  | some d' =>
    simp only [q] at e
    cases e
    exact .inl (h G H xs ds d Q s r q k)
  | none =>
    simp only [q] at e
    exact .inr (h' G H xs ds d Q s r e k)
theorem reps1 {K : PySem.W.Frag} {G : Hp} {xs : List V} {d : D} (h : Reps K G xs [d]) : ∃ v, xs = [v] ∧ Rep K G v d := by
  cases h with
  | cons h1 h2 => cases h2; exact ⟨_, rfl, h1⟩
theorem reps2 {K : PySem.W.Frag} {G : Hp} {xs : List V} {d e : D} (h : Reps K G xs [d, e]) : ∃ v w, xs = [v, w] ∧ Rep K G v d ∧ Rep K G w e := by
  cases h with
  | cons h1 h2 =>
    cases h2 with
    | cons h3 h4 => cases h4; exact ⟨_, _, rfl, h1, h3⟩
/-- one int in, one out -/
def lenSF : List D → Option D
  | [.lst ds] => some (.int ds.length)
  | [.tup ds] => some (.int ds.length)
  | [.fz ds] => some (.int ds.length)
  | _ => none
def lenTF : List D → Option D
  | [.str z] => if z.length ≤ lim then some (.int z.length) else none
  | _ => none
def lenF (ds : List D) : Option D := match lenSF ds with | some d => some d | none => lenTF ds
abbrev rLenS (K : PySem.W.Frag) : RCL := fun xs H Q => ∃ p ys, xs = [.ref p] ∧ (SqL K H p ys ∨ SqT K H p ys) ∧ Q (.int ys.length) H
abbrev rLenT : RCL := fun xs H Q => ∃ z, xs = [.str z] ∧ z.length ≤ sizeLine ∧ Q (.int z.length) H
theorem ol_lenS : OpL X (rLenS X.K) lenSF := fun G H xs ds d Q s r e k => by
  unfold lenSF at e
  split at e
  · cases e
    obtain ⟨v, rfl, r1⟩ := reps1 r
    cases r1 with
    | lst h1 h2 => exact ⟨_, _, rfl, .inl (s.sqL h1), by rw [Reps.length h2]; exact k _ G H (StepN.refl s) (.int _)⟩
  · cases e
    obtain ⟨v, rfl, r1⟩ := reps1 r
    cases r1 with
    | tup h1 h2 => exact ⟨_, _, rfl, .inr (s.sqT h1), by rw [Reps.length h2]; exact k _ G H (StepN.refl s) (.int _)⟩
  · cases e
    obtain ⟨v, rfl, r1⟩ := reps1 r
    cases r1 with
    | fz h1 h2 => exact ⟨_, _, rfl, .inl (s.sqL' h1), by rw [Reps.length h2]; exact k _ G H (StepN.refl s) (.int _)⟩
  · cases e
theorem ol_lenT : OpL X rLenT lenTF := fun G H xs ds d Q s r e k => by
  unfold lenTF at e
  split at e
  · rename_i z
    by_cases hz : z.length ≤ lim
    · rw [if_pos hz] at e
      cases e
      obtain ⟨v, rfl, r1⟩ := reps1 r
      cases r1
      exact ⟨z, rfl, lim_ok hz, k _ G H (StepN.refl s) (.int _)⟩
    · rw [if_neg hz] at e; cases e
  · cases e
theorem ol_len : OpL X (fun xs H Q => rLenS X.K xs H Q ∨ rLenT xs H Q) lenF := OpL.or ol_lenS ol_lenT
theorem cr_lenP : CallR X (.builtin "len") (fun xs H Q => rLenS X.K xs H Q ∨ rLenT xs H Q) := call_len_seq.or call_len_str
def absF : List D → Option D
  | [.int i] => some (.int (if i < 0 then -i else i))
  | _ => none
theorem ol_abs : OpL X (fun xs H Q => ∃ i, xs = [.int i] ∧ Q (.int (if i < 0 then -i else i)) H) absF := fun G H xs ds d Q s r e k => by
  unfold absF at e
  split at e
  · cases e
    obtain ⟨v, rfl, r1⟩ := reps1 r
    cases r1
    exact ⟨_, rfl, k _ G H (StepN.refl s) (.int _)⟩
  · cases e
def max2F : List D → Option D
  | [.int i, .int j] => some (.int (if j > i then j else i))
  | _ => none
def min2F : List D → Option D
  | [.int i, .int j] => some (.int (if j < i then j else i))
  | _ => none
theorem ol_max2 : OpL X (fun xs H Q => ∃ i j, xs = [.int i, .int j] ∧ Q (.int (if j > i then j else i)) H) max2F := fun G H xs ds d Q s r e k => by
  unfold max2F at e
  split at e
  · cases e
    obtain ⟨v, w, rfl, r1, r2⟩ := reps2 r
    cases r1
    cases r2
    exact ⟨_, _, rfl, k _ G H (StepN.refl s) (.int _)⟩
  · cases e
theorem ol_min2 : OpL X (fun xs H Q => ∃ i j, xs = [.int i, .int j] ∧ Q (.int (if j < i then j else i)) H) min2F := fun G H xs ds d Q s r e k => by
  unfold min2F at e
  split at e
  · cases e
    obtain ⟨v, w, rfl, r1, r2⟩ := reps2 r
    cases r1
    cases r2
    exact ⟨_, _, rfl, k _ G H (StepN.refl s) (.int _)⟩
  · cases e
def intIF : List D → Option D
  | [.int i] => some (.int i)
  | [.bl k] => some (.int (if k then 1 else 0))
  | _ => none
def intSF : List D → Option D
  | [.str a] => if a.length ≤ 640 then (PySem.intText? a).map .int else none
  | _ => none
def intF (ds : List D) : Option D := match intIF ds with | some d => some d | none => intSF ds
theorem ol_int : OpL X (fun xs H Q => ((∃ i, xs = [.int i] ∧ Q (.int i) H) ∨ ∃ k, xs = [.bl k] ∧ Q (.int (if k then 1 else 0)) H) ∨ ∃ a n, xs = [.str a] ∧ PySem.intText? a = some n ∧ a.length ≤ 640 ∧ Q (.int n) H) intF :=
  OpL.or (fun G H xs ds d Q s r e k => by
    unfold intIF at e
    split at e
    · cases e
      obtain ⟨v, rfl, r1⟩ := reps1 r
      cases r1
      exact .inl ⟨_, rfl, k _ G H (StepN.refl s) (.int _)⟩
    · cases e
      obtain ⟨v, rfl, r1⟩ := reps1 r
      cases r1
      exact .inr ⟨_, rfl, k _ G H (StepN.refl s) (.int _)⟩
    · cases e) (fun G H xs ds d Q s r e k => by
    unfold intSF at e
    split at e
    · rename_i a
      by_cases hz : a.length ≤ 640
      · rw [if_pos hz] at e
        cases q : PySem.intText? a with
        | none => rw [q] at e; cases e
        | some n =>
          rw [q] at e
          cases e
          obtain ⟨v, rfl, r1⟩ := reps1 r
          cases r1
          exact ⟨a, n, rfl, q, hz, k _ G H (StepN.refl s) (.int _)⟩
      · rw [if_neg hz] at e; cases e
    · cases e)
theorem cr_intP : CallR X (.type "int") (fun xs H Q => ((∃ i, xs = [.int i] ∧ Q (.int i) H) ∨ ∃ k, xs = [.bl k] ∧ Q (.int (if k then 1 else 0)) H) ∨ ∃ a n, xs = [.str a] ∧ PySem.intText? a = some n ∧ a.length ≤ 640 ∧ Q (.int n) H) := call_int1.or call_int_str
def strIF : List D → Option D
  | [.int i] => if i.natAbs.log2 < 1920 then some (.str (toString i : String)) else none
  | _ => none
theorem ol_str : OpL X (fun xs H Q => ∃ i, xs = [.int i] ∧ i.natAbs.log2 < 1920 ∧ Q (.str (toString i)) H) strIF := fun G H xs ds d Q s r e k => by
  unfold strIF at e
  split at e
  · rename_i i
    by_cases hz : i.natAbs.log2 < 1920
    · rw [if_pos hz] at e
      cases e
      obtain ⟨v, rfl, r1⟩ := reps1 r
      cases r1
      exact ⟨i, rfl, hz, k _ G H (StepN.refl s) (.str _)⟩
    · rw [if_neg hz] at e; cases e
  · cases e
def ordChF : List D → Option D
  | [.str x] => if x.length = 1 then some (.int (x.cps.getD 0 0 : Nat)) else none
  | _ => none
theorem ol_ord : OpL X (fun xs H Q => ∃ x, xs = [.str x] ∧ x.length = 1 ∧ Q (.int (x.cps.getD 0 0 : Nat)) H) ordChF := fun G H xs ds d Q s r e k => by
  unfold ordChF at e
  split at e
  · rename_i x
    by_cases hz : x.length = 1
    · rw [if_pos hz] at e
      cases e
      obtain ⟨v, rfl, r1⟩ := reps1 r
      cases r1
      exact ⟨x, rfl, hz, k _ G H (StepN.refl s) (.int _)⟩
    · rw [if_neg hz] at e; cases e
  · cases e
def divmodF : List D → Option D
  | [.int i, .int j] => if 0 < j ∧ j < 1073741824 then some (.tup [.int (i / j), .int (i % j)]) else none
  | _ => none
theorem ol_divmod : OpL X (fun xs H Q => ∃ i j, xs = [.int i, .int j] ∧ CDiv i j ∧ ∀ p, H p = none → Q (.ref p) (upd H p (.tup [.int (i / j), .int (i % j)]))) divmodF := fun G H xs ds d Q s r e k => by
  unfold divmodF at e
  split at e
  · rename_i i j
    by_cases hz : 0 < j ∧ j < 1073741824
    · rw [if_pos hz] at e
      cases e
      obtain ⟨v, w, rfl, r1, r2⟩ := reps2 r
      cases r1
      cases r2
      exact ⟨i, j, rfl, hz, fun p hp => k _ _ _ (StepN.new s hp) (.tup (.inl (.inl upd_same)) (.cons (.int _) (.cons (.int _) .nil)))⟩
    · rw [if_neg hz] at e; cases e
  · cases e
def intsOf : List D → Option (List Int)
  | [] => some []
  | .int i :: r => (intsOf r).map (i :: ·)
  | _ => none
def blsOf : List D → Option (List Bool)
  | [] => some []
  | .bl i :: r => (blsOf r).map (i :: ·)
  | _ => none
def strsOf : List D → Option (List Str)
  | [] => some []
  | .str i :: r => (strsOf r).map (i :: ·)
  | _ => none
theorem intsOf_eq : ∀ {ds : List D} {ns : List Int}, intsOf ds = some ns → ds = ns.map D.int
  | [], _, e => by cases e; rfl
  | d :: r, ns, e => by
    cases d <;> first | (simp only [intsOf, reduceCtorEq] at e; done) | skip
    simp only [intsOf] at e
    cases q : intsOf r with
    | none => rw [q] at e; cases e
    | some ms => rw [q] at e; cases e; rw [intsOf_eq q]; rfl
theorem blsOf_eq : ∀ {ds : List D} {ns : List Bool}, blsOf ds = some ns → ds = ns.map D.bl
  | [], _, e => by cases e; rfl
  | d :: r, ns, e => by
    cases d <;> first | (simp only [blsOf, reduceCtorEq] at e; done) | skip
    simp only [blsOf] at e
    cases q : blsOf r with
    | none => rw [q] at e; cases e
    | some ms => rw [q] at e; cases e; rw [blsOf_eq q]; rfl
theorem strsOf_eq : ∀ {ds : List D} {ns : List Str}, strsOf ds = some ns → ds = ns.map D.str
  | [], _, e => by cases e; rfl
  | d :: r, ns, e => by
    cases d <;> first | (simp only [strsOf, reduceCtorEq] at e; done) | skip
    simp only [strsOf] at e
    cases q : strsOf r with
    | none => rw [q] at e; cases e
    | some ms => rw [q] at e; cases e; rw [strsOf_eq q]; rfl
theorem intsOf_map : ∀ ns : List Int, intsOf (ns.map D.int) = some ns
  | [] => rfl
  | n :: ns => by simp [intsOf, intsOf_map ns]
theorem blsOf_map : ∀ ns : List Bool, blsOf (ns.map D.bl) = some ns
  | [] => rfl
  | n :: ns => by simp [blsOf, blsOf_map ns]
theorem strsOf_map : ∀ ns : List Str, strsOf (ns.map D.str) = some ns
  | [] => rfl
  | n :: ns => by simp [strsOf, strsOf_map ns]
def sumF : List D → Option D
  | [.lst ds] => (intsOf ds).map fun ns => .int ns.sum
  | _ => none
theorem ol_sum : OpL X (rSum X.K) sumF := fun G H xs ds d Q s r e k => by
  unfold sumF at e
  split at e
  · rename_i ds
    cases q : intsOf ds with
    | none => rw [q] at e; cases e
    | some ns =>
      rw [q] at e
      cases e
      obtain ⟨v, rfl, r1⟩ := reps1 r
      cases r1 with
      | lst h1 h2 =>
        rw [intsOf_eq q] at h2
        have hv := Reps.ints h2
        subst hv
        exact ⟨_, ns, rfl, s.sqL h1, k _ G H (StepN.refl s) (.int _)⟩
  · cases e
def allF : List D → Option D
  | [.lst ds] => (blsOf ds).map fun ns => .bl (ns.all id)
  | _ => none
def anyF : List D → Option D
  | [.lst ds] => (blsOf ds).map fun ns => .bl (ns.any id)
  | _ => none
theorem ol_all : OpL X (rAll X.K) allF := fun G H xs ds d Q s r e k => by
  unfold allF at e
  split at e
  · rename_i ds
    cases q : blsOf ds with
    | none => rw [q] at e; cases e
    | some ns =>
      rw [q] at e
      cases e
      obtain ⟨v, rfl, r1⟩ := reps1 r
      cases r1 with
      | lst h1 h2 =>
        rw [blsOf_eq q] at h2
        have hv := Reps.bls h2
        subst hv
        exact ⟨_, ns, rfl, s.sqL h1, k _ G H (StepN.refl s) (.bl _)⟩
  · cases e
theorem ol_any : OpL X (rAny X.K) anyF := fun G H xs ds d Q s r e k => by
  unfold anyF at e
  split at e
  · rename_i ds
    cases q : blsOf ds with
    | none => rw [q] at e; cases e
    | some ns =>
      rw [q] at e
      cases e
      obtain ⟨v, rfl, r1⟩ := reps1 r
      cases r1 with
      | lst h1 h2 =>
        rw [blsOf_eq q] at h2
        have hv := Reps.bls h2
        subst hv
        exact ⟨_, ns, rfl, s.sqL h1, k _ G H (StepN.refl s) (.bl _)⟩
  · cases e
/-! repr -/
def reprF : List D → Option D
  | [d] => match d.toP with
    | some p => if p.showable && decide (p.depth ≤ 60) && decide (p.shown.length ≤ lim) && !p.hasDict then some (.str p.shown) else none
    | none => none
  | _ => none
def rRepr (K : PySem.W.Frag) : RCL := fun xs H Q => ∃ x p, xs = [x] ∧ Dp K H x p ∧ p.showable = true ∧ p.depth ≤ 60 ∧ p.shown.length ≤ lim ∧ p.hasDict = false ∧ Q (.str p.shown) H
theorem cr_repr (hg : X.A.guards = some []) (hu : X.A.units + 100 < cLine) : CallR X (.builtin "repr") (rRepr X.K) := by
  intro pins s σ H xs us Q I r h
  obtain ⟨x, p, rfl, hd, hs, hdep, hl, hh, q⟩ := h
  obtain ⟨u, rfl, ru⟩ := Vals.one r
  obtain ⟨as, rd⟩ := Dp.reads I p x u hd ru
  have fin : ∀ h' t tk, (∀ b o, s.heap.get? b = some o → h'.get? b = some o) → EP X pins σ Q (.str p.shown t) { s with heap := h', toks := tk } := fun h' t tk hk => ⟨.str p.shown, H, I.kept (t' := tk) hk, ⟨_, rfl⟩, q⟩
  have hlim : p.shown.length ≤ sizeLine := lim_ok hl
  have ref : ∀ b : Addr, u = Value.ref b → wpAny (model X.prog X.w) X.A (call (.builtin "repr") [u]) (EP X pins σ Q) X.xe s := fun b eb => by
    subst eb
    exact repr_of_reads' rd hs (fun z => by rw [hh] at z; cases z) hg (by omega) (fun _ _ e => e) (fun h' t tk hk => fin h' t tk hk) hlim
  cases hd with
  | non =>
    cases ru
    exact PySem.P.repr_of_none (fin s.heap _ _ fun _ _ e => e)
  | bl b =>
    cases ru
    exact PySem.P.repr_of_bool (fin s.heap _ _ fun _ _ e => e)
  | int i =>
    obtain ⟨t, rfl⟩ := ru
    exact PySem.P.repr_of_int (by simpa [PyData.showable] using hs) (fin s.heap _ _ fun _ _ e => e)
  | str x =>
    obtain ⟨t, rfl⟩ := ru
    exact PySem.P.repr_of_str (fin s.heap _ _ fun _ _ e => e) hlim
  | lst h1 h2 => exact ref _ ru
  | tup h1 h2 => exact ref _ ru
theorem ol_repr : OpL X (rRepr X.K) reprF := fun G H xs ds d Q s r e k => by
  unfold reprF at e
  split at e
  · rename_i d0
    obtain ⟨v, rfl, r1⟩ := reps1 r
    cases q : d0.toP with
    | none => rw [q] at e; cases e
    | some p =>
      rw [q] at e
      simp only at e
      by_cases h : (p.showable && decide (p.depth ≤ 60) && decide (p.shown.length ≤ lim) && !p.hasDict) = true
      · rw [if_pos h] at e
        cases e
        simp only [Bool.and_eq_true, decide_eq_true_eq, Bool.not_eq_true'] at h
        obtain ⟨⟨⟨h1, h2⟩, h3⟩, h4⟩ := h
        exact ⟨v, p, rfl, r1.dp s q, h1, h2, h3, h4, k _ G H (StepN.refl s) (.str _)⟩
      · rw [if_neg h] at e; cases e
  · cases e
end
end PL
end L2
set_option Elab.async false
set_option linter.all false
set_option maxRecDepth 100000
namespace L2
namespace PL
open PySem PySem.Spec PyProof.Rows
section
variable {X : Cx} {c : Cz} {W : WX} {a b e : Expr} {ga gb gc : GE D} {pos : Pos}
/-! ### list(x), a new list -/
def OpLL (X : Cx) (r : RCL) (f : List D → Option (List D)) : Prop := ∀ (G H : Hp) (xs : List V) (ds es : List D) (Q : VK), Sub G H → Reps X.K G xs ds → f ds = some es →
  (∀ p vs, H p = none → Reps X.K G vs es → Q (.ref p) (upd H p (.lst vs))) → r xs H Q
def appL (f : List D → Option (List D)) (ga : GE (List D)) : GE (List D) := fun ρ => (ga ρ).bind fun x ρ1 => ofOpt (f x) ρ1
def signs (z : Str) : List D := z.cps.toList.map fun k => D.str ⟨#[k]⟩
def listF : List D → Option (List D)
  | [.lst ds] => some ds
  | [.tup ds] => some ds
  | [.str z] => if z.length ≤ lim then some (signs z) else none
  | _ => none
def rListS : RCL := fun xs H Q => ∃ z, xs = [.str z] ∧ z.length ≤ lim ∧ ∀ p, H p = none → Q (.ref p) (upd H p (.lst (z.cps.toList.map fun k => V.str ⟨#[k]⟩)))
theorem cr_listS (hc : X.calm = true) : CallR X (.type "list") rListS := by
  intro pins s σ H xs us Q I r h
  obtain ⟨z, rfl, hz, q⟩ := h
  obtain ⟨u, rfl, ru⟩ := Vals.one r
  obtain ⟨t, rfl⟩ := ru
  refine PySem.call_list_str (I.ok.hd hc) z t (fun h' tk acc' c' hk hn hit => ?_) (lim_ok hz)
  have hf : H s.heap.objs.size = none := I.hok.fresh (Nat.le_refl _)
  have hv : Vals (z.cps.toList.map fun k => V.str ⟨#[k]⟩) acc'.toList := by
    obtain ⟨h1, h2⟩ := hit
    have key : ∀ (l : List Nat) (m : List Value), m.length = l.length → (∀ (j : Nat) (v : Value), m[j]? = some v → ∃ k u, l[j]? = some k ∧ v = Value.str ⟨#[k]⟩ u) → Vals (l.map fun k => V.str ⟨#[k]⟩) m := by
      intro l
      induction l with
      | nil =>
        intro m hm _
        cases m with
        | nil => exact .nil
        | cons _ _ => cases hm
      | cons k l ih =>
        intro m hm hp
        cases m with
        | nil => cases hm
        | cons v m =>
          obtain ⟨k', u, e1, e2⟩ := hp 0 v rfl
          have e1' : k = k' := by simpa using e1
          subst e1'
          exact .cons ⟨u, e2⟩ (ih m (by simpa using hm) fun j v' hj => by
            obtain ⟨k2, u2, q1, q2⟩ := hp (j + 1) v' (by simpa using hj)
            exact ⟨k2, u2, by simpa using q1, q2⟩)
    refine key _ _ (by rw [Array.length_toList, Array.length_toList]; exact h1) fun j v hj => ?_
    obtain ⟨k, u, q1, q2⟩ := h2 j v (by rw [← Array.getElem?_toList]; exact hj)
    exact ⟨k, u, by rw [Array.getElem?_toList]; exact q1, q2⟩
  have hl : (z.cps.toList.map fun k => V.str ⟨#[k]⟩).length ≤ sizeLine := by
    rw [List.length_map, Array.length_toList]
    exact lim_ok hz
  have I2 : Inv X pins σ (upd H s.heap.objs.size (.lst (z.cps.toList.map fun k => V.str ⟨#[k]⟩))) { s with heap := h', toks := tk } :=
    I.laid (t' := tk) hk (Nat.le_refl _) ⟨hl, acc'.toList, c', hv, by rw [Array.toArray_toList]; exact hn⟩
  exact ⟨.ref s.heap.objs.size, _, I2, rfl, q _ hf⟩
theorem ol_list (hc : X.calm = true) : OpLL X (fun xs H Q => (∃ p ys, xs = [.ref p] ∧ (SqL X.K H p ys ∨ SqT X.K H p ys) ∧ ∀ l, H l = none → Q (.ref l) (upd H l (.lst ys))) ∨ rListS xs H Q) listF := fun G H xs ds es Q s r e k => by
  unfold listF at e
  split at e
  · cases e
    obtain ⟨v, rfl, r1⟩ := reps1 r
    cases r1 with
    | lst h1 h2 => exact .inl ⟨_, _, rfl, .inl (s.sqL h1), fun p hp => k p _ hp h2⟩
  · cases e
    obtain ⟨v, rfl, r1⟩ := reps1 r
    cases r1 with
    | tup h1 h2 => exact .inl ⟨_, _, rfl, .inr (s.sqT h1), fun p hp => k p _ hp h2⟩
  · rename_i z
    by_cases hz : z.length ≤ lim
    · rw [if_pos hz] at e
      cases e
      obtain ⟨v, rfl, r1⟩ := reps1 r
      cases r1
      refine .inr ⟨z, rfl, hz, fun p hp => k p _ hp ?_⟩
      unfold signs
      have : ∀ l : List Nat, Reps X.K G (l.map fun k => V.str ⟨#[k]⟩) (l.map fun k => D.str ⟨#[k]⟩) := by
        intro l
        induction l with
        | nil => exact .nil
        | cons k l ih => exact .cons (.str _) ih
      exact this _
    · rw [if_neg hz] at e; cases e
  · cases e
theorem cr_listP (hc : X.calm = true) : CallR X (.type "list") (fun xs H Q => (∃ p ys, xs = [.ref p] ∧ (SqL X.K H p ys ∨ SqT X.K H p ys) ∧ ∀ l, H l = none → Q (.ref l) (upd H l (.lst ys))) ∨ rListS xs H Q) := call_list_of.or (cr_listS hc)
variable {x : Str} {id : String} {p : Pos} {es : List Expr} {gs : GE (List D)}
theorem LX.callTy {r : RCL} {f : List D → Option (List D)} (ho : OpLL X r f) (hc : CallR X (.type id) r) (hm : X.mg x = none) (hv : bootBuiltins x = some (.type id)) (ha : AX X c W (e :: es) gs) (hg : Gl X x := by rfl)
    (hn : x ≠ "__name__" := by decide) (hd : (x == ("__debug__" : Str)) = false := by decide) (he : starEach (e :: es) X.env = (false, eval e X.env) :: starEach es X.env := by rfl) (hpl : (backTo pos (starEach es X.env)).any (·.1) = false := by rfl) :
    LX X c W (.Call (.Name x p) (e :: es) [] pos) (appL f gs) := by
  obtain ⟨t, pa, q⟩ := ha
  refine LX.mk (pe_callTy hc hg hm hv pa hn hd he hpl) fun ρ σ G H Q E hq => q ρ σ G H _ E (GdL.bind hq fun ds ρ1 vs G1 H1 E1 t1 r1 h1 => ?_)
  cases e : f ds with
  | none => rw [e] at h1; exact False.elim h1
  | some es => rw [e] at h1; exact ho G1 H1 vs ds es Q E1.sub r1 e fun p ws hp hr => GdL.new h1 E1 hp hr

/-! ### methods of data -/
def OpM (X : Cx) (r : V → List V → Hp → VK → Prop) (f : D → List D → Option D) : Prop := ∀ (G H : Hp) (x : V) (dx : D) (xs : List V) (ds : List D) (d : D) (Q : VK), Sub G H → Rep X.K G x dx → Reps X.K G xs ds → f dx ds = some d →
  (∀ v G' H', StepN G H G' H' → Rep X.K G' v d → Q v H') → r x xs H Q
def isStrD : D → Bool
  | .str _ => true | _ => false
def methE (f : D → List D → Option D) (g : GE D) (gs : GE (List D)) : GE D := fun ρ => (g ρ).bind fun x ρ1 => if isStrD x then (gs ρ1).bind fun ds ρ2 => ofOpt (f x ds) ρ2 else .bad
variable {name : Str} {o : Expr} {apos cpos : Pos}
/-- s.name(..), s a text -/
theorem EX.methS {r : V → List V → Hp → VK → Prop} {f : D → List D → Option D} (ho : OpM X r f) (pa : PlainAttrs "str") (slot : Slot "str" name id) (hty : typeOf (.builtin id) = pure (.type "method_descriptor")) (hm : MtR X id r) (hx : EX X c W o ga) (ha : AX X c W (e :: es) gs)
    (hbase : attributeBase o name X.env (eval o X.env) = eval o X.env := by rfl)
    (hfew : ((backTo cpos (starEach (e :: es) X.env)).all (fun x => !x.1) && (backToKw cpos (keywordEach [] X.env)).all (fun x => x.1.isSome)
      && decide ((e :: es).length + ([] : List Keyword).length + (if ([] : List Keyword).isEmpty then 0 else 1) < 30)) = true := by rfl)
    (hline : (apos.endLine == cpos.line) = true := by rfl) (hs : starEach (e :: es) X.env = (false, eval e X.env) :: starEach es X.env := by rfl) (hplain : (backTo cpos (starEach es X.env)).any (·.1) = false := by rfl) :
    EX X c W (.Call (.Attribute o name apos) (e :: es) [] cpos) (methE f ga gs) := by
  obtain ⟨t, px, q⟩ := hx
  obtain ⟨ts, pas, qs⟩ := ha
  refine ⟨_, pe_bm pa slot hty hm px pas hbase hfew hline hs hplain, fun ρ σ G H Q E hq => q ρ σ G H _ E (Gd.bind hq fun dx ρ1 v G1 H1 E1 t1 r1 h1 => ?_)⟩
  cases dx <;> first | exact False.elim h1 | skip
  cases r1
  refine ⟨rfl, qs ρ1 σ G1 H1 _ E1 (Gd.bind (k := fun ds ρ2 => ofOpt (f _ ds) ρ2) h1 fun ds ρ2 vs G2 H2 E2 t2 r2 h2 => ?_)⟩
  obtain ⟨d, e, k⟩ := Gd.opt h2 E2
  exact ho G2 H2 _ _ vs ds d Q E2.sub (.str _) r2 e k
def splitF : D → List D → Option D := fun x ds => match x, ds with
  | .str a, [.str b] => if (b.length == 0) = false ∧ a.length ≤ lim then some (.lst ((Txt.split a b).map D.str)) else none
  | _, _ => none
theorem om_split : OpM X (fun x xs H Q => ∃ a b, x = .str a ∧ xs = [.str b] ∧ (b.length == 0) = false ∧ a.length + 2 ≤ sizeLine ∧ rNewStrs (Txt.split a b) H Q) splitF := fun G H x dx xs ds d Q s rx r e k => by
  unfold splitF at e
  split at e
  · rename_i a b
    by_cases hz : (b.length == 0) = false ∧ a.length ≤ lim
    · rw [if_pos hz] at e
      cases e
      obtain ⟨v, rfl, r1⟩ := reps1 r
      cases r1
      cases rx
      exact ⟨a, b, rfl, rfl, hz.1, Nat.le_trans (Nat.add_le_add_right hz.2 2) (by decide), fun p hp => k _ _ _ (StepN.new s hp) (.lst upd_same (Reps.of_strs _))⟩
    · rw [if_neg hz] at e; cases e
  · cases e
def joinF : D → List D → Option D := fun x ds => match x, ds with
  | .str a, [.lst ys] => (strsOf ys).bind fun ts => if (ts.map (·.length)).sum + ts.length * a.length ≤ lim then some (.str (Txt.join a ts)) else none
  | _, _ => none
theorem om_join : OpM X (fun x xs H Q => ∃ a p, ∃ ys : List Str, x = .str a ∧ xs = [.ref p] ∧ (SqL X.K H p (ys.map V.str) ∨ SqT X.K H p (ys.map V.str)) ∧
    (ys.map (·.length)).sum + ys.length * a.length ≤ 16777216 ∧ Q (.str (Txt.join a ys)) H) joinF := fun G H x dx xs ds d Q s rx r e k => by
  unfold joinF at e
  split at e
  · rename_i a ys
    cases q : strsOf ys with
    | none => rw [q] at e; cases e
    | some ts =>
      rw [q] at e
      simp only [Option.bind_some] at e
      by_cases hz : (ts.map (·.length)).sum + ts.length * a.length ≤ lim
      · rw [if_pos hz] at e
        cases e
        obtain ⟨v, rfl, r1⟩ := reps1 r
        cases rx
        cases r1 with
        | lst h1 h2 =>
          rw [strsOf_eq q] at h2
          have hv := Reps.strs h2
          subst hv
          exact ⟨a, _, ts, rfl, rfl, .inl (s.sqL h1), Nat.le_trans hz (by decide), k _ G H (StepN.refl s) (.str _)⟩
      · rw [if_neg hz] at e; cases e
  · cases e
/-- xs.index(t), xs a written tuple of texts -/
def indexF (ss : List Str) : List D → Option D
  | [.str z] => (ss.findIdx? (· == z)).map fun (i : Nat) => .int i
  | _ => none
theorem EX.tupIndex {u : Addr} {ss : List Str} (hk : ∀ H : Hp, SqT X.K H u (ss.map V.str)) (ht : ∃ o, X.K.lookup u = some o ∧ o.cls = .type "tuple" ∧ o.dict = none) (pg : PE X o (tC (.ref u))) (ha : AX X c W (e :: es) gs)
    (hbase : attributeBase o "index" X.env (eval o X.env) = eval o X.env := by rfl)
    (hfew : ((backTo cpos (starEach (e :: es) X.env)).all (fun x => !x.1) && (backToKw cpos (keywordEach [] X.env)).all (fun x => x.1.isSome)
      && decide ((e :: es).length + ([] : List Keyword).length + (if ([] : List Keyword).isEmpty then 0 else 1) < 30)) = true := by rfl)
    (hline : (apos.endLine == cpos.line) = true := by rfl) (hs : starEach (e :: es) X.env = (false, eval e X.env) :: starEach es X.env := by rfl) (hplain : (backTo cpos (starEach es X.env)).any (·.1) = false := by rfl) :
    EX X c W (.Call (.Attribute o "index" apos) (e :: es) [] cpos) (appE (indexF ss) gs) := by
  obtain ⟨ts, pas, qs⟩ := ha
  refine ⟨_, pe_bm PySem.F.plainAttrs_tuple PySem.F.slot_tuple_index PySem.F.type_tuple_index mt_tup_index pg pas hbase hfew hline hs hplain, fun ρ σ G H Q E hq => ⟨.inr (.inl ⟨rfl, ht⟩), qs ρ σ G H _ E (Gd.bind hq fun ds ρ1 vs G1 H1 E1 t1 r1 h1 => ?_)⟩⟩
  obtain ⟨d, e, k⟩ := Gd.opt h1 E1
  unfold indexF at e
  split at e
  · rename_i z
    obtain ⟨v, rfl, r2⟩ := reps1 r1
    cases r2
    cases q : ss.findIdx? (· == z) with
    | none => rw [q] at e; cases e
    | some j =>
      rw [q] at e
      cases e
      obtain ⟨hj, h2, h3⟩ := List.findIdx?_eq_some_iff_getElem.mp q
      refine ⟨u, ss, z, j, rfl, rfl, hk H1, ?_, fun m hm he => ?_, k _ G1 H1 (StepN.refl E1.sub) (.int _)⟩
      · rw [List.getElem?_eq_getElem hj, beq_iff_eq.mp h2]
      · have hml : m < ss.length := Nat.lt_trans hm hj
        have hc := h3 m hm
        rw [List.getElem?_eq_getElem hml] at he
        have he' := Option.some.inj he
        rw [he'] at hc
        simp at hc
  · cases e
/-! ### isinstance(x, T), T a built-in class -/
def tyD : D → String
  | .non => "NoneType" | .bl _ => "bool" | .int _ => "int" | .str _ => "str" | .lst _ => "list" | .tup _ => "tuple" | .dct _ => "dict" | .fz _ => "list"
theorem tyD_ok {K : PySem.W.Frag} {G H : Hp} {v : V} {d : D} (s : Sub G H) (r : Rep K G v d) : TyX K H v (.type (tyD d)) := by
  cases r with
  | non => exact .base .non
  | bl b => exact .base (.bl b)
  | int i => exact .base (.int i)
  | str x => exact .base (.str x)
  | lst h1 h2 => exact .base (.lst (s _ _ h1))
  | tup h1 h2 =>
    rcases s.sqT h1 with (h | ⟨o, h⟩) | ⟨o, its, n, e1, e2, _⟩
    · exact .base (.tup h)
    · exact .fTuple h
    · exact .kTuple e1 e2
  | dct h1 h2 => exact .base (.dK (s _ _ h1))
  | fz h1 h2 =>
    rcases s.sqL' h1 with (h | ⟨o, h⟩) | ⟨o, its, n, e1, e2, _⟩
    · exact .base (.lst h)
    · exact .base (.frz h)
    · exact .kList e1 e2
def isiF (T : String) : D → Option D := fun d => (kitB (tyD d) T).map .bl
theorem EX.isi {T : String} {tn : Str} {tp : Pos} (hm : X.mg "isinstance" = none) (hmT : X.mg tn = none) (hvT : bootBuiltins tn = some (.type T)) (hx : EX X c W e ga) (hg : Gl X "isinstance" := by rfl) (hgT : Gl X tn := by rfl)
    (hnT : tn ≠ "__name__" := by decide) (hdT : (tn == ("__debug__" : Str)) = false := by decide)
    (he : starEach (e :: [.Name tn tp]) X.env = (false, eval e X.env) :: starEach [.Name tn tp] X.env := by rfl) (hpl : (backTo pos (starEach [.Name tn tp] X.env)).any (·.1) = false := by rfl)
    (he2 : starEach (.Name tn tp :: []) X.env = (false, eval (.Name tn tp) X.env) :: starEach [] X.env := by rfl) :
    EX X c W (.Call (.Name "isinstance" p) [e, .Name tn tp] [] pos) (unE (isiF T) ga) := by
  obtain ⟨t, px, q⟩ := hx
  refine ⟨_, pe_callB call_isi hg hm (by decide +kernel) (pa_cons px (pa_cons (pe_bltn hgT hmT hvT (show RelV (.ty T) (.type T) from rfl) hnT hdT) pa_nil he2) he) (by decide) (by decide) he hpl, fun ρ σ G H Q E hq => q ρ σ G H _ E (Gd.bind hq fun dx ρ1 v G1 H1 E1 t1 r1 h1 => ?_)⟩
  obtain ⟨d, e, k⟩ := Gd.opt h1 E1
  unfold isiF at e
  cases q2 : kitB (tyD dx) T with
  | none => rw [q2] at e; cases e
  | some b =>
    rw [q2] at e
    cases e
    exact ⟨v, .ty T, _, _, b, rfl, .ty T, tyD_ok E1.sub r1, kit_ty q2, k _ G1 H1 (StepN.refl E1.sub) (.bl _)⟩
end
end PL
end L2
set_option Elab.async false
set_option linter.all false
set_option maxRecDepth 100000
namespace L2
namespace PL
open PySem PySem.Spec PyProof.Rows
section
variable {X : Cx} {c : Cz} {W : WX} {a b e : Expr} {ga gb gc : GE D} {pos : Pos} {K : PySem.W.Frag} {ρ ρ' : PEnv} {σ σ' : St} {G H G' H' : Hp}
/-! ### slots stored -/
theorem own_set {i : Nat} {x : D} {v : Option V} {a : Addr} (hl : ρ.length = σ.length) (h : Own (ρ.set i (.d x)) (σ.set i v) a) : Own ρ σ a := by
  obtain ⟨j, ys, e1, e2⟩ := h
  by_cases hj : j = i
  · subst hj
    by_cases hlt : j < ρ.length
    · rw [List.getElem?_set_self hlt] at e1; cases e1
    · rw [List.set_eq_of_length_le (by omega)] at e1 e2
      exact ⟨j, ys, e1, e2⟩
  · rw [List.getElem?_set_ne (Ne.symm hj)] at e1 e2
    exact ⟨j, ys, e1, e2⟩
theorem ER.setd {i : Nat} {x : D} {v : V} (E : ER K c ρ σ G H) (r : Rep K G v x) (hio : ∀ p ∈ c.io, p.1 ≠ i) : ER K c (ρ.set i (.d x)) (σ.set i (some v)) G H where
  len := by rw [List.length_set, List.length_set]; exact E.len
  slot := fun j s e => by
    by_cases hj : j = i
    · subst hj
      have hlt : j < ρ.length := by
        have := (List.getElem?_eq_some_iff.mp e).1
        rw [List.length_set] at this; exact this
      rw [List.getElem?_set_self hlt] at e
      cases e
      rw [List.getElem?_set_self (by rw [← E.len]; exact hlt)]
      exact r
    · rw [List.getElem?_set_ne (Ne.symm hj)] at e
      rw [List.getElem?_set_ne (Ne.symm hj)]
      exact E.slot j s e
  sub := E.sub
  nt := E.nt
  sep := fun j k ys zs b e1 e2 e3 e4 => by
    have f : ∀ (j : Nat) (ys : List D), (ρ.set i (.d x))[j]? = some (.own ys) → (σ.set i (some v))[j]? = some (some (.ref b)) → ρ[j]? = some (.own ys) ∧ σ[j]? = some (some (.ref b)) := fun j ys e e' => by
      by_cases hj : j = i
      · subst hj
        by_cases hlt : j < ρ.length
        · rw [List.getElem?_set_self hlt] at e; cases e
        · rw [List.set_eq_of_length_le (by omega)] at e
          rw [List.set_eq_of_length_le (by rw [← E.len]; omega)] at e'
          exact ⟨e, e'⟩
      · rw [List.getElem?_set_ne (Ne.symm hj)] at e e'
        exact ⟨e, e'⟩
    obtain ⟨q1, q2⟩ := f j ys e1 e3
    obtain ⟨q3, q4⟩ := f k zs e2 e4
    exact E.sep j k ys zs b q1 q3 q2 q4
  tabs := E.tabs
  io := fun p hp => by
    obtain ⟨q1, ys, q2⟩ := E.io p hp
    exact ⟨by rw [List.getElem?_set_ne (Ne.symm (hio p hp))]; exact q1, ys, by rw [List.getElem?_set_ne (Ne.symm (hio p hp))]; exact q2⟩
/-- a new list at p becomes slot i's own -/
theorem ER.setown {i : Nat} {xs : List D} {p : Addr} {vs : List V} (E : ER K c ρ σ G H) (hp : H p = some (.lst vs)) (hg : G p = none) (no : ¬ Own ρ σ p) (r : Reps K G vs xs) (hio : ∀ q ∈ c.io, q.1 ≠ i) : ER K c (ρ.set i (.own xs)) (σ.set i (some (.ref p))) G H where
  len := by rw [List.length_set, List.length_set]; exact E.len
  slot := fun j s e => by
    by_cases hj : j = i
    · subst hj
      have hlt : j < ρ.length := by
        have := (List.getElem?_eq_some_iff.mp e).1
        rw [List.length_set] at this; exact this
      rw [List.getElem?_set_self hlt] at e
      cases e
      rw [List.getElem?_set_self (by rw [← E.len]; exact hlt)]
      exact ⟨p, vs, rfl, hp, r, hg⟩
    · rw [List.getElem?_set_ne (Ne.symm hj)] at e
      rw [List.getElem?_set_ne (Ne.symm hj)]
      exact E.slot j s e
  sub := E.sub
  nt := E.nt
  sep := fun j k ys zs b e1 e2 e3 e4 => by
    have f : ∀ (j : Nat) (ys : List D), (ρ.set i (.own xs))[j]? = some (.own ys) → (σ.set i (some (.ref p)))[j]? = some (some (.ref b)) → (j = i ∧ b = p) ∨ (ρ[j]? = some (.own ys) ∧ σ[j]? = some (some (.ref b)) ∧ (j ≠ i ∨ ρ.length ≤ i)) := fun j ys e e' => by
      by_cases hj : j = i
      · subst hj
        by_cases hlt : j < ρ.length
        · rw [List.getElem?_set_self (by rw [← E.len]; exact hlt)] at e'
          cases e'
          exact .inl ⟨rfl, rfl⟩
        · rw [List.set_eq_of_length_le (by omega)] at e
          rw [List.set_eq_of_length_le (by rw [← E.len]; omega)] at e'
          exact .inr ⟨e, e', .inr (by omega)⟩
      · rw [List.getElem?_set_ne (Ne.symm hj)] at e e'
        exact .inr ⟨e, e', .inl hj⟩
    rcases f j ys e1 e3 with ⟨q1, q2⟩ | ⟨q1, q2, q3⟩
    · rcases f k zs e2 e4 with ⟨w1, w2⟩ | ⟨w1, w2, w3⟩
      · rw [q1, w1]
      · subst q2
        exact absurd ⟨k, zs, w1, w2⟩ no
    · rcases f k zs e2 e4 with ⟨w1, w2⟩ | ⟨w1, w2, w3⟩
      · subst w2
        exact absurd ⟨j, ys, q1, q2⟩ no
      · exact E.sep j k ys zs b q1 w1 q2 w2
  tabs := E.tabs
  io := fun q hq => by
    obtain ⟨q1, ys, q2⟩ := E.io q hq
    exact ⟨by rw [List.getElem?_set_ne (Ne.symm (hio q hq))]; exact q1, ys, by rw [List.getElem?_set_ne (Ne.symm (hio q hq))]; exact q2⟩
theorem own_setown {i : Nat} {xs : List D} {p a : Addr} (hl : ρ.length = σ.length) (h : Own (ρ.set i (.own xs)) (σ.set i (some (.ref p))) a) : Own ρ σ a ∨ a = p := by
  obtain ⟨j, ys, e1, e2⟩ := h
  by_cases hj : j = i
  · subst hj
    by_cases hlt : j < σ.length
    · rw [List.getElem?_set_self hlt] at e2; cases e2; exact .inr rfl
    · rw [List.set_eq_of_length_le (by omega)] at e1 e2
      exact .inl ⟨j, ys, e1, e2⟩
  · rw [List.getElem?_set_ne (Ne.symm hj)] at e1 e2
    exact .inl ⟨j, ys, e1, e2⟩
/-- an own list changes -/
theorem ER.write {i : Nat} {xs ys : List D} {p : Addr} {vs ws : List V} (E : ER K c ρ σ G H) (hρ : ρ[i]? = some (.own xs)) (hσ : σ[i]? = some (some (.ref p))) (hp : H p = some (.lst vs)) (hg : G p = none) (r : Reps K G ws ys) :
    ER K c (ρ.set i (.own ys)) σ G (upd H p (.lst ws)) where
  len := by rw [List.length_set]; exact E.len
  slot := fun j s e => by
    by_cases hj : j = i
    · subst hj
      have hlt : j < ρ.length := (List.getElem?_eq_some_iff.mp hρ).1
      rw [List.getElem?_set_self hlt] at e
      cases e
      rw [hσ]
      exact ⟨p, ws, rfl, upd_same, r, hg⟩
    · rw [List.getElem?_set_ne (Ne.symm hj)] at e
      have q := E.slot j s e
      cases s with
      | un => trivial
      | d x =>
        cases hs : (σ[j]?.getD none) with
        | none => rw [hs] at q; exact q.elim
        | some v => rw [hs] at q; exact q
      | lams js =>
        cases hσL : (σ[j]?.getD none) with
        | none => rw [hσL] at q; exact q.elim
        | some v => rw [hσL] at q; exact LamsAt.mono q (fun b o z => z) fun b w z => by rw [upd_ne (codeO_lst z hp)]; exact z
      | own zs =>
        obtain ⟨b, us, q1, q2, q3, q4⟩ := slot_own E e
        have nb : b ≠ p := fun z => hj (E.sep j i zs xs b e hρ q1 (by rw [z]; exact hσ))
        rw [q1]
        exact ⟨b, us, rfl, by rw [upd_ne nb]; exact q2, q3, q4⟩
  sub := fun b o e => by
    have nb : b ≠ p := fun z => by rw [z, hg] at e; cases e
    rw [upd_ne nb]; exact E.sub b o e
  nt := E.nt
  sep := fun j k zs us b e1 e2 e3 e4 => by
    have f : ∀ (j : Nat) (zs : List D), (ρ.set i (.own ys))[j]? = some (.own zs) → ∃ zs', ρ[j]? = some (.own zs') := fun j zs e => by
      by_cases hj : j = i
      · subst hj; exact ⟨xs, hρ⟩
      · rw [List.getElem?_set_ne (Ne.symm hj)] at e; exact ⟨zs, e⟩
    obtain ⟨z1, q1⟩ := f j zs e1
    obtain ⟨z2, q2⟩ := f k us e2
    exact E.sep j k z1 z2 b q1 q2 e3 e4
  tabs := fun q hq => by
    obtain ⟨ps, h1, h2, h3⟩ := E.tabs q hq
    have np : ∀ {b : Addr} {o : HO}, H b = some o → (∀ l, o ≠ .lst l) → b ≠ p := fun {b o} e n z => by rw [z, hp] at e; exact n vs (Option.some.inj e).symm
    refine ⟨ps, by rw [upd_ne (np h1 fun l z => by cases z)]; exact h1, h2, fun pos cv hc => ?_⟩
    obtain ⟨c0, e1, e2⟩ := h3 pos cv hc
    exact ⟨c0, e1, by rw [upd_ne (np e2 fun l z => by cases z)]; exact e2⟩
  io := fun q hq => by
    obtain ⟨q1, zs, q2⟩ := E.io q hq
    refine ⟨q1, ?_⟩
    by_cases hj : q.1 = i
    · have hlt : i < ρ.length := (List.getElem?_eq_some_iff.mp hρ).1
      exact ⟨ys, by rw [hj, List.getElem?_set_self hlt]⟩
    · exact ⟨zs, by rw [List.getElem?_set_ne (Ne.symm hj)]; exact q2⟩
theorem write_step {i : Nat} {xs : List D} {p : Addr} {ws : List V} (hρ : ρ[i]? = some (.own xs)) (hσ : σ[i]? = some (some (.ref p))) : Step (Own ρ σ) G H G (upd H p (.lst ws)) where
  g := Sub.refl G
  n := fun _ _ h => .inl h
  k := fun b o h no _ => by
    have nb : b ≠ p := fun z => no (by rw [z]; exact ⟨i, xs, hρ, hσ⟩)
    rw [upd_ne nb]; exact h
  d := fun b h => by
    by_cases hb : b = p
    · rw [hb, upd_same] at h; cases h
    · rw [upd_ne hb] at h; exact h
  t := id
theorem own_write {i : Nat} {xs ys : List D} {a : Addr} (hρ : ρ[i]? = some (.own xs)) (h : Own (ρ.set i (.own ys)) σ a) : Own ρ σ a := by
  obtain ⟨j, zs, e1, e2⟩ := h
  by_cases hj : j = i
  · subst hj; exact ⟨j, xs, hρ, e2⟩
  · rw [List.getElem?_set_ne (Ne.symm hj)] at e1; exact ⟨j, zs, e1, e2⟩

/-! ### targets -/
/-- the slots off ws are as they were -/
def Off (ws : List Nat) (σ σ' : St) : Prop := σ'.length = σ.length ∧ ∀ j, j ∉ ws → σ'[j]? = σ[j]?
theorem Off.refl (ws : List Nat) (σ : St) : Off ws σ σ := ⟨rfl, fun _ _ => rfl⟩
theorem Off.trans {ws us : List Nat} {σ1 σ2 σ3 : St} (a : Off ws σ1 σ2) (b : Off us σ2 σ3) : Off (ws ++ us) σ1 σ3 :=
  ⟨b.1.trans a.1, fun j hj => (b.2 j fun h => hj (List.mem_append_right _ h)).trans (a.2 j fun h => hj (List.mem_append_left _ h))⟩
def TGX (X : Cx) (c : Cz) (tg : Expr) (gt : D → PEnv → Option PEnv) (ws : List Nat) : Prop := ∃ t, PG X tg t ∧ ∀ ρ σ G H v d ρ' Q, ER X.K c ρ σ G H → Rep X.K G v d → gt d ρ = some ρ' →
  (∀ σ' G' H', ER X.K c ρ' σ' G' H' → Step (Own ρ σ) G H G' H' → OwnS ρ σ H ρ' σ' → Off ws σ σ' → Q σ' H') → t v σ H Q
def TGXs (X : Cx) (c : Cz) (tg : List Expr) (gt : List D → PEnv → Option PEnv) (ws : List Nat) : Prop := ∃ t, PGs X tg t ∧ ∀ ρ σ G H vs ds ρ' Q, ER X.K c ρ σ G H → Reps X.K G vs ds → gt ds ρ = some ρ' →
  (∀ σ' G' H', ER X.K c ρ' σ' G' H' → Step (Own ρ σ) G H G' H' → OwnS ρ σ H ρ' σ' → Off ws σ σ' → Q σ' H') → t vs σ H Q
/-- the readings as one -/
def tT (X : Cx) (c : Cz) (gt : D → PEnv → Option PEnv) (ws : List Nat) : TG := fun v σ H Q => ∃ ρ G d ρ', ER X.K c ρ σ G H ∧ Rep X.K G v d ∧ gt d ρ = some ρ' ∧ ∀ σ' G' H', ER X.K c ρ' σ' G' H' → Step (Own ρ σ) G H G' H' → OwnS ρ σ H ρ' σ' → Off ws σ σ' → Q σ' H'
theorem TGX.pg {tg : Expr} {gt : D → PEnv → Option PEnv} {ws : List Nat} (h : TGX X c tg gt ws) : PG X tg (tT X c gt ws) := by
  obtain ⟨t, p, q⟩ := h
  exact ⟨fun pins s σ H v u Q I r ⟨ρ, G, d, ρ', E, rd, e, k⟩ => p.run pins s σ H v u Q I r (q ρ σ G H v d ρ' Q E rd e k)⟩
def nameT (i : Nat) : D → PEnv → Option PEnv := fun d ρ => some (ρ.set i (.d d))
theorem off_set {i : Nat} {σ : St} {v : Option V} : Off [i] σ (σ.set i v) := ⟨List.length_set, fun j hj => List.getElem?_set_ne (fun e => hj (by rw [e]; exact List.mem_singleton.mpr rfl))⟩
theorem TGX.name {i : Nat} {x : Str} (hio : ∀ p ∈ c.io, p.1 ≠ i) (hp : PG X (.Name x pos) (gName i)) : TGX X c (.Name x pos) (nameT i) [i] :=
  ⟨_, hp, fun ρ σ G H v d ρ' Q E r e k => by
    cases e
    exact k _ G H (E.setd r hio) (Step.refl _ _ _) (fun a h => .inl (own_set E.len h)) off_set⟩
def nilT : List D → PEnv → Option PEnv := fun ds ρ => match ds with
  | [] => some ρ
  | _ => none
def consT (g : D → PEnv → Option PEnv) (h : List D → PEnv → Option PEnv) : List D → PEnv → Option PEnv := fun ds ρ => match ds with
  | d :: ds => (g d ρ).bind fun ρ1 => h ds ρ1
  | [] => none
theorem TGXs.nil : TGXs X c [] nilT [] := ⟨_, pgs_nil, fun ρ σ G H vs ds ρ' Q E r e k => by
  cases ds with
  | nil => cases r; cases e; exact ⟨rfl, k σ G H E (Step.refl _ _ _) (OwnS.refl _ _ _) (Off.refl _ _)⟩
  | cons _ _ => cases e⟩
theorem TGXs.cons {es : List Expr} {g : D → PEnv → Option PEnv} {h : List D → PEnv → Option PEnv} {ws us : List Nat} (h1 : TGX X c e g ws) (h2 : TGXs X c es h us) (hs : (assignEach (e :: es) X.env).map (·.2) = assign e X.env :: (assignEach es X.env).map (·.2) := by rfl) : TGXs X c (e :: es) (consT g h) (ws ++ us) := by
  obtain ⟨t1, p1, q1⟩ := h1
  obtain ⟨t2, p2, q2⟩ := h2
  refine ⟨_, pgs_cons p1 p2 hs, fun ρ σ G H vs ds ρ' Q E r e k => ?_⟩
  cases ds with
  | nil => cases e
  | cons d ds =>
    cases r with
    | cons r1 r2 =>
      cases q : g d ρ with
      | none => simp only [consT, q, Option.bind_none, reduceCtorEq] at e
      | some ρ1 =>
        simp only [consT, q, Option.bind_some] at e
        exact ⟨_, _, rfl, q1 ρ σ G H _ d ρ1 _ E r1 q fun σ1 G1 H1 E1 s1 o1 f1 => q2 ρ1 σ1 G1 H1 _ ds ρ' Q E1 (Reps.sub s1.g r2) e fun σ2 G2 H2 E2 s2 o2 f2 => k σ2 G2 H2 E2 (s1.trans s2 o1) (o1.trans s1 o2) (f1.trans f2)⟩
def tupT (h : List D → PEnv → Option PEnv) : D → PEnv → Option PEnv := fun d ρ => match d with
  | .tup ds => h ds ρ
  | .lst ds => h ds ρ
  | _ => none
theorem pg_either {tg : Expr} {t u : TG} (h1 : PG X tg t) (h2 : PG X tg u) : PG X tg (fun v σ H Q => t v σ H Q ∨ u v σ H Q) :=
  ⟨fun pins s σ H v w Q I r h => h.elim (h1.run pins s σ H v w Q I r) (h2.run pins s σ H v w Q I r)⟩
theorem TGX.tup {es : List Expr} {k n : Nat} {h : List D → PEnv → Option PEnv} {ws : List Nat} (hc : X.calm = true) (ht : TGXs X c es h ws) (hlen : ∀ ds ρ ρ', h ds ρ = some ρ' → ds.length = n) (hn : (assignEach es X.env).length = n := by rfl) (hst : (assignEach es X.env).findIdx? (·.1) = none := by rfl) :
    TGX X c (.Tuple es k pos) (tupT h) ws := by
  obtain ⟨t, p, q⟩ := ht
  refine ⟨_, pg_either (pg_tup hc p hn hst) (pg_unl hc p hn hst), fun ρ σ G H v d ρ' Q E r e k => ?_⟩
  cases r <;> first | (simp only [tupT, reduceCtorEq] at e; done) | skip
  · rename_i a xs ds h1 h2
    exact .inr ⟨a, xs, rfl, E.sub.sqL h1, by rw [Reps.length h2]; exact hlen ds ρ ρ' e, q ρ σ G H xs ds ρ' Q E h2 e k⟩
  · rename_i a xs ds h1 h2
    exact .inl ⟨a, xs, rfl, E.sub.sqT h1, by rw [Reps.length h2]; exact hlen ds ρ ρ' e, q ρ σ G H xs ds ρ' Q E h2 e k⟩
theorem nilT_len : ∀ ds ρ ρ', nilT ds ρ = some ρ' → ds.length = 0 := fun ds ρ ρ' h => by
  cases ds with
  | nil => rfl
  | cons _ _ => cases h
theorem consT_len {g : D → PEnv → Option PEnv} {h : List D → PEnv → Option PEnv} {n : Nat} (hh : ∀ ds ρ ρ', h ds ρ = some ρ' → ds.length = n) : ∀ ds ρ ρ', consT g h ds ρ = some ρ' → ds.length = n + 1 := fun ds ρ ρ' e => by
  cases ds with
  | nil => cases e
  | cons d ds =>
    cases q : g d ρ with
    | none => simp only [consT, q, Option.bind_none, reduceCtorEq] at e
    | some ρ1 =>
      simp only [consT, q, Option.bind_some] at e
      rw [List.length_cons, hh ds ρ1 ρ' e]
/-- xs[k] = .., xs an own list, k written -/
def ownIxT (i : Nat) (k : Int) : D → PEnv → Option PEnv := fun d ρ => match ρ[i]? with
  | some (.own xs) => (ixN xs.length k).map fun j => ρ.set i (.own (xs.set j d))
  | _ => none
theorem TGX.ownIx {i : Nat} {k : Int} {x : Str} {ix : Expr} {p1 : Pos} (hp : PE X (.Name x p1) (tVar i)) (hi : PE X ix (tC (.int k)))
    (ha : ∀ v, assign (.Subscript (.Name x p1) ix pos) X.env v = (do
      let ov ← holding [v] (eval (.Name x p1) X.env)
      let iv ← holding [v, ov] (eval ix X.env)
      standAt pos
      holding [v, ov, iv] (setItem ov iv v)
      release [v, ov, iv] []) := by intro _; rfl) : TGX X c (.Subscript (.Name x p1) ix pos) (ownIxT i k) [] := by
  refine ⟨_, pg_sub hp hi set_list ha, fun ρ σ G H v d ρ' Q E r e kk => ?_⟩
  unfold ownIxT at e
  cases h : ρ[i]? with
  | none => rw [h] at e; cases e
  | some s =>
    rw [h] at e
    cases s with
    | un => cases e
    | d _ => cases e
    | lams _ => cases e
    | own xs =>
      obtain ⟨p, vs, e1, e2, e3, e4⟩ := slot_own E h
      cases hj : ixN xs.length k with
      | none => simp only [hj, Option.map_none, reduceCtorEq] at e
      | some j =>
        simp only [hj, Option.map_some, Option.some.injEq] at e
        subst e
        exact ⟨.ref p, e1, p, vs, k, j, rfl, rfl, e2, by rw [Reps.length e3]; exact hj, kk σ G _ (E.write h e1 e2 e4 (e3.set j r)) (write_step h e1) (fun a q => .inl (own_write h q)) (Off.refl _ _)⟩
end
end PL
end L2
set_option Elab.async false
set_option linter.all false
set_option maxRecDepth 100000
namespace L2
namespace PL
open PySem PySem.Spec PyProof.Rows
inductive FR where
  | nx (ρ : PEnv) | rt (d : D) (ρ : PEnv) | bk (ρ : PEnv) | ct (ρ : PEnv) | er (x : Exn) (ρ : PEnv) | bad
abbrev GS := PEnv → FR
def R.bindS {α : Type} : R α → (α → PEnv → FR) → FR
  | .ok a ρ, k => k a ρ
  | .er x ρ, _ => .er x ρ
  | .bad, _ => .bad
def GdS (X : Cx) (c : Cz) (W : WX) (D' : Ends) (ρ : PEnv) (σ : St) (G H : Hp) (r : FR) : Prop :=
  match r with
  | .nx ρ' => ∀ σ' G' H', ER X.K c ρ' σ' G' H' → Step (Own ρ σ) G H G' H' → OwnS ρ σ H ρ' σ' → D'.nx σ' H'
  | .bk ρ' => ∀ σ' G' H', ER X.K c ρ' σ' G' H' → Step (Own ρ σ) G H G' H' → OwnS ρ σ H ρ' σ' → D'.bk σ' H'
  | .ct ρ' => ∀ σ' G' H', ER X.K c ρ' σ' G' H' → Step (Own ρ σ) G H G' H' → OwnS ρ σ H ρ' σ' → D'.ct σ' H'
  | .rt d ρ' => ∀ v σ' G' H', ER X.K c ρ' σ' G' H' → Step (Own ρ σ) G H G' H' → OwnS ρ σ H ρ' σ' → Rep X.K G' v d → D'.rt v H'
  | .er x ρ' => ∀ C dd σ' G' H', ER X.K c ρ' σ' G' H' → Step (Own ρ σ) G H G' H' → OwnS ρ σ H ρ' σ' → XR X.K X.mg x C dd G' H' → W (.ref C) (some dd) σ' H'
  | .bad => False
section
variable {α β : Type} {X : Cx} {c : Cz} {W : WX} {D' : Ends} {ρ ρ1 : PEnv} {σ σ1 : St} {G H G1 H1 : Hp}
theorem GdS.shift {r : FR} (h : GdS X c W D' ρ σ G H r) (t : Step (Own ρ σ) G H G1 H1) (o : OwnS ρ σ H ρ1 σ1) : GdS X c W D' ρ1 σ1 G1 H1 r := by
  cases r with
  | nx ρ' => exact fun σ' G' H' e t' o' => h σ' G' H' e (t.trans t' o) (o.trans t o')
  | bk ρ' => exact fun σ' G' H' e t' o' => h σ' G' H' e (t.trans t' o) (o.trans t o')
  | ct ρ' => exact fun σ' G' H' e t' o' => h σ' G' H' e (t.trans t' o) (o.trans t o')
  | rt d ρ' => exact fun v σ' G' H' e t' o' => h v σ' G' H' e (t.trans t' o) (o.trans t o')
  | er x ρ' => exact fun C dd σ' G' H' e t' o' => h C dd σ' G' H' e (t.trans t' o) (o.trans t o')
  | bad => exact h
theorem GdS.bind {r : R α} {k : α → PEnv → FR} {Rel1 : Hp → α → β → Prop} {M : β → Hp → Prop} (h : GdS X c W D' ρ σ G H (r.bindS k))
    (hm : ∀ a ρ1 b G1 H1, ER X.K c ρ1 σ G1 H1 → Step (Own ρ σ) G H G1 H1 → OwnS ρ σ H ρ1 σ → Rel1 G1 a b → GdS X c W D' ρ1 σ G1 H1 (k a ρ1) → M b H1) : Gd X c W ρ σ G H r Rel1 M := by
  cases r with
  | ok a ρ' => exact fun b G' H' e t o rel => hm a ρ' b G' H' e t o rel (GdS.shift (show GdS X c W D' ρ σ G H (k a ρ') from h) t o)
  | er x ρ' => exact fun C dd G' H' e t o q => h C dd σ G' H' e t o q
  | bad => exact h
theorem GdS.bindL {r : R (List D)} {k : List D → PEnv → FR} {Q : VK} (h : GdS X c W D' ρ σ G H (r.bindS k))
    (hm : ∀ xs ρ1 p vs G1 H1, ER X.K c ρ1 σ G1 H1 → Step (Own ρ σ) G H G1 H1 → OwnS ρ σ H ρ1 σ → H p = none → H1 p = some (.lst vs) → G1 p = none → ¬ Own ρ1 σ p → Reps X.K G1 vs xs → GdS X c W D' ρ σ G H (k xs ρ1) → Q (.ref p) H1) : GdL X c W ρ σ G H r Q := by
  cases r with
  | ok xs ρ' => exact fun p vs G' H' e t o h0 hp hg no hr => hm xs ρ' p vs G' H' e t o h0 hp hg no hr h
  | er x ρ' => exact fun C dd G' H' e t o q => h C dd σ G' H' e t o q
  | bad => exact h
end
section
variable (X : Cx) (c : Cz) (W : WX)
def SX (st : Stmt) (g : GS) : Prop := ∃ t, PS X st t ∧ ∀ ρ σ G H D', ER X.K c ρ σ G H → GdS X c W D' ρ σ G H (g ρ) → t D' σ H
def SXs (st : List Stmt) (g : GS) : Prop := ∃ t, PSs X st t ∧ ∀ ρ σ G H D', ER X.K c ρ σ G H → GdS X c W D' ρ σ G H (g ρ) → t D' σ H
end
section
variable {X : Cx} {c : Cz} {W : WX} {e : Expr} {ge : GE D} {pos : Pos} {st : Stmt} {rest : List Stmt} {g g2 : GS}
def nopS : GS := fun ρ => .nx ρ
def seqS (g g2 : GS) : GS := fun ρ => match g ρ with
  | .nx ρ1 => g2 ρ1
  | r => r
theorem SXs.nil : SXs X c W [] nopS := ⟨_, pss_nil, fun ρ σ G H D' E h => h σ G H E (Step.refl _ _ _) (OwnS.refl _ _ _)⟩
theorem GdS.seq {D' : Ends} {ρ : PEnv} {σ : St} {G H : Hp} {u : TS} (h : GdS X c W D' ρ σ G H (seqS g g2 ρ)) (hu : ∀ ρ σ G H D', ER X.K c ρ σ G H → GdS X c W D' ρ σ G H (g2 ρ) → u D' σ H) : GdS X c W { D' with nx := u D' } ρ σ G H (g ρ) := by
  unfold seqS at h
  cases q : g ρ with
  | nx ρ1 => rw [q] at h; exact fun σ' G' H' e t o => hu ρ1 σ' G' H' D' e (GdS.shift h t o)
  | bk ρ1 => rw [q] at h; exact h
  | ct ρ1 => rw [q] at h; exact h
  | rt d ρ1 => rw [q] at h; exact h
  | er x ρ1 => rw [q] at h; exact h
  | bad => rw [q] at h; exact h
theorem SXs.cons (h1 : SX X c W st g) (h2 : SXs X c W rest g2) : SXs X c W (st :: rest) (seqS g g2) := by
  obtain ⟨t, p, q⟩ := h1
  obtain ⟨u, p2, q2⟩ := h2
  exact ⟨_, pss_cons p p2, fun ρ σ G H D' E h => q ρ σ G H _ E (h.seq q2)⟩
theorem SXs.one (h1 : SX X c W st g) : SXs X c W [st] g := by
  obtain ⟨t, p, q⟩ := h1
  exact ⟨_, pss_one p, q⟩
theorem SX.pass : SX X c W (.Pass pos) nopS := ⟨_, ps_pass, fun ρ σ G H D' E h => h σ G H E (Step.refl _ _ _) (OwnS.refl _ _ _)⟩
theorem SX.brk : SX X c W (.Break pos) FR.bk := ⟨_, ps_break, fun ρ σ G H D' E h => h σ G H E (Step.refl _ _ _) (OwnS.refl _ _ _)⟩
theorem SX.cnt : SX X c W (.Continue pos) FR.ct := ⟨_, ps_continue, fun ρ σ G H D' E h => h σ G H E (Step.refl _ _ _) (OwnS.refl _ _ _)⟩
def retS (g : GE D) : GS := fun ρ => (g ρ).bindS .rt
theorem SX.ret (h : EX X c W e ge) : SX X c W (.Return (some e) pos) (retS ge) := by
  obtain ⟨t, p, q⟩ := h
  exact ⟨_, ps_ret p, fun ρ σ G H D' E h => q ρ σ G H _ E (GdS.bind (Rel1 := RV X) h fun d ρ1 v G1 H1 E1 t1 o1 r1 h1 => h1 v σ G1 H1 E1 (Step.refl _ _ _) (OwnS.refl _ _ _) r1)⟩
def retNS : GS := fun ρ => .rt .non ρ
theorem SX.retN : SX X c W (.Return none pos) retNS := ⟨_, ps_retN, fun ρ σ G H D' E h => h .non σ G H E (Step.refl _ _ _) (OwnS.refl _ _ _) .non⟩
def dropS (g : GE D) : GS := fun ρ => (g ρ).bindS fun _ ρ1 => .nx ρ1
theorem SX.expr (h : EX X c W e ge) (hs : swapsWith e none pos.line X.env = pure false := by rfl) : SX X c W (.Expr e pos) (dropS ge) := by
  obtain ⟨t, p, q⟩ := h
  exact ⟨_, ps_expr p hs, fun ρ σ G H D' E h => q ρ σ G H _ E (GdS.bind (Rel1 := RV X) h fun d ρ1 v G1 H1 E1 t1 o1 r1 h1 => h1 σ G1 H1 E1 (Step.refl _ _ _) (OwnS.refl _ _ _))⟩
def ifS (t : GE Bool) (g g2 : GS) : GS := fun ρ => (t ρ).bindS fun b ρ1 => if b then g ρ1 else g2 ρ1
theorem SX.ifS {t : Expr} {ta : GE Bool} {a b : List Stmt} (ht : TX X c W t ta) (ha : SXs X c W a g) (hb : SXs X c W b g2) : SX X c W (.If t a b pos) (ifS ta g g2) := by
  obtain ⟨t, p, q⟩ := ht
  obtain ⟨t2, p2, q2⟩ := ha
  obtain ⟨t3, p3, q3⟩ := hb
  refine ⟨_, ps_if p p2 p3, fun ρ σ G H D' E h => q ρ σ G H _ E (GdS.bind (Rel1 := RB) h fun k ρ1 k' G1 H1 E1 t1 o1 r1 h1 => ?_)⟩
  subst r1
  cases k with
  | true => rw [if_pos rfl] at h1 ⊢; exact q2 ρ1 σ G1 H1 D' E1 h1
  | false => rw [if_neg (by decide)] at h1 ⊢; exact q3 ρ1 σ G1 H1 D' E1 h1
def asgS (g : GE D) (gt : D → PEnv → Option PEnv) : GS := fun ρ => (g ρ).bindS fun d ρ1 => match gt d ρ1 with
  | some ρ2 => .nx ρ2
  | none => .bad
theorem GdS.tgt {D' : Ends} {ρ : PEnv} {σ : St} {G H : Hp} {d : D} {v : V} {gt : D → PEnv → Option PEnv} {t : TG} (h : GdS X c W D' ρ σ G H (match gt d ρ with | some ρ2 => .nx ρ2 | none => .bad)) (E : ER X.K c ρ σ G H) (r : Rep X.K G v d)
    {ws : List Nat} (ht : ∀ ρ σ G H v d ρ' Q, ER X.K c ρ σ G H → Rep X.K G v d → gt d ρ = some ρ' → (∀ σ' G' H', ER X.K c ρ' σ' G' H' → Step (Own ρ σ) G H G' H' → OwnS ρ σ H ρ' σ' → Off ws σ σ' → Q σ' H') → t v σ H Q) : t v σ H D'.nx := by
  cases q : gt d ρ with
  | none => rw [q] at h; exact h.elim
  | some ρ2 => rw [q] at h; exact ht ρ σ G H v d ρ2 _ E r q fun σ' G' H' a b o _ => h σ' G' H' a b o
theorem SX.asg {tg : Expr} {gt : D → PEnv → Option PEnv} {ws : List Nat} (he : EX X c W e ge) (hg : TGX X c tg gt ws) (hs : swapsWithSole [tg] e pos.line X.env = pure false := by rfl) (hw : swappedStores [tg] e X.env = pure none := by rfl)
    (h1 : (assignEach [tg] X.env).map (·.2) = [assign tg X.env] := by rfl) : SX X c W (.Assign [tg] e pos) (asgS ge gt) := by
  obtain ⟨t, p, q⟩ := he
  obtain ⟨t2, p2, q2⟩ := hg
  exact ⟨_, ps_asg p p2 hs hw h1, fun ρ σ G H D' E h => q ρ σ G H _ E (GdS.bind (Rel1 := RV X) h fun d ρ1 v G1 H1 E1 t1 o1 r1 h1 => GdS.tgt h1 E1 r1 q2)⟩
/-- name = e, by ps_set -/
theorem SX.set {i : Nat} {x : Str} {pos' : Pos} (he : EX X c W e ge) (hio : ∀ p ∈ c.io, p.1 ≠ i) (hp : ∀ te, PE X e te → PS X (.Assign [.Name x pos'] e pos) (tAsg te (gName i))) : SX X c W (.Assign [.Name x pos'] e pos) (asgS ge (nameT i)) := by
  obtain ⟨t, p, q⟩ := he
  exact ⟨_, hp t p, fun ρ σ G H D' E h => q ρ σ G H _ E (GdS.bind (Rel1 := RV X) h fun d ρ1 v G1 H1 E1 t1 o1 r1 h1 => h1 _ G1 H1 (E1.setd r1 hio) (Step.refl _ _ _) fun a hh => .inl (own_set E1.len hh))⟩
def asgOwnS (g : GE (List D)) (i : Nat) : GS := fun ρ => (g ρ).bindS fun xs ρ1 => .nx (ρ1.set i (.own xs))
theorem SX.setOwn {i : Nat} {x : Str} {pos' : Pos} {gl : GE (List D)} (he : LX X c W e gl) (hio : ∀ p ∈ c.io, p.1 ≠ i) (hp : ∀ te, PE X e te → PS X (.Assign [.Name x pos'] e pos) (tAsg te (gName i))) : SX X c W (.Assign [.Name x pos'] e pos) (asgOwnS gl i) := by
  obtain ⟨t, p, q⟩ := he
  refine ⟨_, hp t p, fun ρ σ G H D' E h => q ρ σ G H _ E (GdS.bindL (Q := fun x H1 => gName i x σ H1 D'.nx) h fun xs ρ1 p vs G1 H1 E1 t1 o1 h0 hp hg no hr h1 => ?_)⟩
  refine h1 _ G1 H1 (E1.setown hp hg no hr hio) t1 fun a ha => ?_
  rcases own_setown E1.len ha with q | q
  · exact o1 a q
  · subst q; exact .inr h0
/-- x.append(e), x an own list -/
def isOwn : Option SV → Bool
  | some (.own _) => true | _ => false
def appendS (i : Nat) (g : GE D) : GS := fun ρ => if isOwn ρ[i]? then (g ρ).bindS fun d ρ1 => match ρ1[i]? with
  | some (.own xs) => if xs.length < lim then .nx (ρ1.set i (.own (xs ++ [d]))) else .bad
  | _ => .bad
  else .bad
theorem isOwn_of {o : Option SV} (h : isOwn o = true) : ∃ xs, o = some (.own xs) := by
  cases o with
  | none => cases h
  | some s => cases s <;> first | exact ⟨_, rfl⟩ | cases h
theorem SX.append {i : Nat} {x : Str} {p1 apos cpos : Pos} (he : EX X c W e ge)
    (hpe : ∀ te, PE X e te → PE X (.Call (.Attribute (.Name x p1) "append" apos) [e] [] cpos) (tBM X.K "list" rAppend (tVar i) (tCons te tNil))) (hs : swapsWith (.Call (.Attribute (.Name x p1) "append" apos) [e] [] cpos) none pos.line X.env = pure false := by rfl) :
    SX X c W (.Expr (.Call (.Attribute (.Name x p1) "append" apos) [e] [] cpos) pos) (appendS i ge) := by
  obtain ⟨t, p, q⟩ := he
  refine ⟨_, ps_expr (hpe t p) hs, fun ρ σ G H D' E h => ?_⟩
  unfold appendS at h
  cases ho : isOwn ρ[i]? with
  | false => rw [ho, if_neg (by decide)] at h; exact False.elim h
  | true =>
    rw [ho, if_pos rfl] at h
    obtain ⟨xs0, hx0⟩ := isOwn_of ho
    obtain ⟨a, vs0, e1, e2, e3, e4⟩ := slot_own E hx0
    refine ⟨.ref a, e1, .inl ⟨rfl, vs0, .inl (.inl e2)⟩, q ρ σ G H _ E (GdS.bind (Rel1 := RV X) h fun d ρ1 v G1 H1 E1 t1 o1 r1 h1 => ?_)⟩
    cases q1 : ρ1[i]? with
    | none => simp only [q1] at h1; exact False.elim h1
    | some s =>
      cases s with
      | un => simp only [q1] at h1; exact False.elim h1
      | d _ => simp only [q1] at h1; exact False.elim h1
      | lams _ => simp only [q1] at h1; exact False.elim h1
      | own xs =>
        simp only [q1] at h1
        by_cases hl : xs.length < lim
        · rw [if_pos hl] at h1
          obtain ⟨b, vs, f1, f2, f3, f4⟩ := slot_own E1 q1
          have hab : a = b := by
            rw [e1] at f1
            cases f1
            rfl
          subst hab
          exact ⟨a, vs, v, rfl, rfl, f2, Nat.lt_of_lt_of_le (by rw [Reps.length f3]; exact hl) (by decide : lim ≤ sizeLine), h1 σ G1 _ (E1.write q1 f1 f2 f4 (f3.snoc r1)) (write_step q1 f1) fun x hx => .inl (own_write q1 hx)⟩
        · rw [if_neg hl] at h1; exact False.elim h1
/-! ### own lists in expressions -/
/-- len(x) -/
def lenOwnE (i : Nat) : GE D := fun ρ => match ρ[i]? with
  | some (.own xs) => .ok (.int xs.length) ρ
  | _ => .bad
theorem EX.lenOwn {i : Nat} {x fx : Str} {p1 p2 : Pos} (hpe : ∀ te, PE X (.Name x p1) te → PE X (.Call (.Name fx p2) [.Name x p1] [] pos) (tCB (rLenS X.K) (tCons te tNil))) (hp : PE X (.Name x p1) (tVar i)) : EX X c W (.Call (.Name fx p2) [.Name x p1] [] pos) (lenOwnE i) := by
  refine ⟨_, hpe _ hp, fun ρ σ G H Q E h => ?_⟩
  unfold lenOwnE at h
  cases q : ρ[i]? with
  | none => rw [q] at h; exact h.elim
  | some s =>
    rw [q] at h
    cases s with
    | un => exact h.elim
    | d _ => exact h.elim
    | lams _ => exact h.elim
    | own xs =>
      obtain ⟨a, vs, e1, e2, e3, e4⟩ := slot_own E q
      exact ⟨.ref a, e1, a, vs, rfl, .inl (.inl (.inl e2)), by rw [Reps.length e3]; exact Gd.here (Rel := RV X) h E (.int _)⟩
/-- x[..] -/
def ixOwnE (i : Nat) (g : GE D) : GE D := fun ρ => if isOwn ρ[i]? then (g ρ).bind fun d ρ1 => match ρ1[i]?, d with
  | some (.own xs), .int k => ofOpt (atI xs k) ρ1
  | _, _ => .bad
  else .bad
theorem EX.ixOwn {i : Nat} {x : Str} {p1 : Pos} {b : Expr} {gb : GE D} (hp : PE X (.Name x p1) (tVar i)) (hb : EX X c W b gb) (hs : PlainIx b := by exact (fun _ _ => rfl)) : EX X c W (.Subscript (.Name x p1) b pos) (ixOwnE i gb) := by
  obtain ⟨tb, pb, qb⟩ := hb
  refine ⟨_, pe_ix ix_list hp pb hs, fun ρ σ G H Q E h => ?_⟩
  unfold ixOwnE at h
  cases ho : isOwn ρ[i]? with
  | false => rw [ho, if_neg (by decide)] at h; exact False.elim h
  | true =>
    rw [ho, if_pos rfl] at h
    obtain ⟨xs0, hx0⟩ := isOwn_of ho
    obtain ⟨a, vs0, e1, e2, e3, e4⟩ := slot_own E hx0
    refine ⟨.ref a, e1, qb ρ σ G H _ E (Gd.bind h fun d ρ1 v G1 H1 E1 t1 r1 h1 => ?_)⟩
    cases q1 : ρ1[i]? with
    | none => simp only [q1] at h1; exact False.elim h1
    | some s =>
      cases s with
      | un => simp only [q1] at h1; exact False.elim h1
      | d _ => simp only [q1] at h1; exact False.elim h1
      | lams _ => simp only [q1] at h1; exact False.elim h1
      | own xs =>
        cases r1 <;> first | (simp only [q1] at h1; exact False.elim h1) | skip
        rename_i k
        simp only [q1] at h1
        obtain ⟨b, vs, f1, f2, f3, f4⟩ := slot_own E1 q1
        have hab : a = b := by
          rw [e1] at f1
          cases f1
          rfl
        subst hab
        obtain ⟨d, e, kk⟩ := Gd.opt h1 E1
        obtain ⟨w, z1, z2⟩ := f3.atI e
        exact ⟨a, vs, k, w, rfl, rfl, .inl (.inl f2), z1, kk w G1 H1 (StepN.refl E1.sub) z2⟩
/-- x.pop(k) -/
def popOwnE (i : Nat) (g : GE D) : GE D := fun ρ => if isOwn ρ[i]? then (g ρ).bind fun d ρ1 => match ρ1[i]?, d with
  | some (.own xs), .int k => if -(2 ^ 63) ≤ k ∧ k < 2 ^ 63 then match seqIndex? k xs.length with
    | some j => match xs[j]? with
      | some y => .ok y (ρ1.set i (.own (xs.eraseIdx j)))
      | none => .bad
    | none => .bad
    else .bad
  | _, _ => .bad
  else .bad
theorem EX.popOwn {i : Nat} {x : Str} {p1 apos cpos : Pos} {b : Expr} {gb : GE D} (hb : EX X c W b gb)
    (hpe : ∀ te, PE X b te → PE X (.Call (.Attribute (.Name x p1) "pop" apos) [b] [] cpos) (tBM X.K "list" rPopAt (tVar i) (tCons te tNil))) : EX X c W (.Call (.Attribute (.Name x p1) "pop" apos) [b] [] cpos) (popOwnE i gb) := by
  obtain ⟨tb, pb, qb⟩ := hb
  refine ⟨_, hpe _ pb, fun ρ σ G H Q E h => ?_⟩
  unfold popOwnE at h
  cases ho : isOwn ρ[i]? with
  | false => rw [ho, if_neg (by decide)] at h; exact False.elim h
  | true =>
    rw [ho, if_pos rfl] at h
    obtain ⟨xs0, hx0⟩ := isOwn_of ho
    obtain ⟨a, vs0, e1, e2, e3, e4⟩ := slot_own E hx0
    refine ⟨.ref a, e1, .inl ⟨rfl, vs0, .inl (.inl e2)⟩, qb ρ σ G H _ E (Gd.bind h fun d ρ1 v G1 H1 E1 t1 r1 h1 => ?_)⟩
    cases q1 : ρ1[i]? with
    | none => simp only [q1] at h1; exact False.elim h1
    | some s =>
      cases s with
      | un => simp only [q1] at h1; exact False.elim h1
      | d _ => simp only [q1] at h1; exact False.elim h1
      | lams _ => simp only [q1] at h1; exact False.elim h1
      | own xs =>
        cases r1 <;> first | (simp only [q1] at h1; exact False.elim h1) | skip
        rename_i k
        simp only [q1] at h1
        obtain ⟨b, vs, f1, f2, f3, f4⟩ := slot_own E1 q1
        have hab : a = b := by
          rw [e1] at f1
          cases f1
          rfl
        subst hab
        by_cases hk : -(2 ^ 63) ≤ k ∧ k < 2 ^ 63
        · rw [if_pos hk] at h1
          cases hj : seqIndex? k xs.length with
          | none => simp only [hj] at h1; exact False.elim h1
          | some j =>
            simp only [hj] at h1
            cases hy : xs[j]? with
            | none => simp only [hy] at h1; exact False.elim h1
            | some y =>
              simp only [hy] at h1
              obtain ⟨w, z1, z2⟩ := f3.get hy
              exact ⟨a, vs, k, j, w, rfl, rfl, f2, hk.1, hk.2, by rw [Reps.length f3]; exact hj, z1,
                h1 w G1 _ (E1.write q1 f1 f2 f4 (f3.eraseIdx j)) (write_step q1 f1) (fun x hx => .inl (own_write q1 hx)) z2⟩
        · rw [if_neg hk] at h1; exact False.elim h1
end
end PL
end L2
set_option Elab.async false
set_option linter.all false
set_option maxRecDepth 100000
namespace L2
namespace PL
open PySem PySem.Spec PyProof.Rows
section
variable {X : Cx} {c : Cz} {W : WX} {a b e tg iter : Expr} {ga gb gc : GE D} {pos : Pos} {K : PySem.W.Frag} {ρ ρ' : PEnv} {σ σ' : St} {G H G' H' : Hp}
/-! ### canonical readings -/
def tP (X : Cx) (c : Cz) (W : WX) (g : GE D) : TE := fun σ H Q => ∃ ρ G, ER X.K c ρ σ G H ∧ Gd X c W ρ σ G H (g ρ) (RV X) Q
theorem EX.pe (h : EX X c W e ga) : PE X e (tP X c W ga) := by
  obtain ⟨t, p, q⟩ := h
  exact ⟨fun pins s σ H Q I ⟨ρ, G, E, hq⟩ => p.run pins s σ H Q I (q ρ σ G H Q E hq)⟩
def tPT (X : Cx) (c : Cz) (W : WX) (g : GE Bool) : TT := fun σ H Q => ∃ ρ G, ER X.K c ρ σ G H ∧ Gd X c W ρ σ G H (g ρ) RB Q
theorem TX.pt {ta : GE Bool} (h : TX X c W e ta) : PT X e (tPT X c W ta) := by
  obtain ⟨t, p, q⟩ := h
  exact ⟨fun pins s σ H Q I ⟨ρ, G, E, hq⟩ => p.run pins s σ H Q I (q ρ σ G H Q E hq)⟩
def tPS (X : Cx) (c : Cz) (W : WX) (g : GS) : TS := fun D' σ H => ∃ ρ G, ER X.K c ρ σ G H ∧ GdS X c W D' ρ σ G H (g ρ)
theorem SXs.pss {st : List Stmt} {g : GS} (h : SXs X c W st g) : PSs X st (tPS X c W g) := by
  obtain ⟨t, p, q⟩ := h
  exact ⟨fun pins s σ H D' I ⟨ρ, G, E, hq⟩ => p.run pins s σ H D' I (q ρ σ G H D' E hq)⟩
/-! ### what is walked -/
def EnumOk (K : PySem.W.Frag) (J : It) (items : List D) (G : Hp) : Prop := ∀ (G' H' : Hp) (i : Nat), Sub G G' → Sub G' H' →
  (i < items.length → J.go i H' ∧ ∀ x H'', J.yld i H' x H'' → ∃ G'' d, StepN G' H' G'' H'' ∧ items[i]? = some d ∧ Rep K G'' x d) ∧ (items.length ≤ i → J.stop i H')
theorem EnumOk.sub {J : It} {items : List D} (h : EnumOk K J items G) (s : Sub G G') : EnumOk K J items G' := fun G2 H2 i a b => h G2 H2 i (s.trans a) b
def IX (X : Cx) (c : Cz) (W : WX) (tg iter : Expr) (gi : GE (List D)) : Prop := ∃ wi, PI X tg iter wi ∧ ∀ ρ σ G H R, ER X.K c ρ σ G H → Gd X c W ρ σ G H (gi ρ) (fun G' items J => EnumOk X.K J items G') R → wi σ H R
theorem enum_list {a : Addr} {xs : List V} {ds : List D} (h : G a = some (.lst xs)) (r : Reps K G xs ds) : EnumOk K (Itl K a) ds G := fun G' H' i s1 s2 => by
  have hl : SqL K H' a xs := (s1.trans s2).sqL h
  refine ⟨fun hi => ?_, fun hi => ⟨xs, hl, by rw [Reps.length r]; exact hi⟩⟩
  obtain ⟨v, e1, e2⟩ := r.get (List.getElem?_eq_getElem hi)
  exact ⟨⟨xs, v, hl, e1⟩, fun x H'' ⟨e, q⟩ => by
    subst e
    have := q xs hl
    rw [e1] at this
    cases this
    exact ⟨G', _, StepN.refl s2, List.getElem?_eq_getElem hi, Rep.sub s1 e2⟩⟩
theorem enum_tup {a : Addr} {xs : List V} {ds : List D} (h : SqT K G a xs) (r : Reps K G xs ds) : EnumOk K (Itt K a) ds G := fun G' H' i s1 s2 => by
  have hl : SqT K H' a xs := (s1.trans s2).sqT h
  refine ⟨fun hi => ?_, fun hi => ⟨xs, hl, by rw [Reps.length r]; exact hi⟩⟩
  obtain ⟨v, e1, e2⟩ := r.get (List.getElem?_eq_getElem hi)
  exact ⟨⟨xs, v, hl, e1⟩, fun x H'' ⟨e, q⟩ => by
    subst e
    have := q xs hl
    rw [e1] at this
    cases this
    exact ⟨G', _, StepN.refl s2, List.getElem?_eq_getElem hi, Rep.sub s1 e2⟩⟩
theorem enum_str {z : Str} : EnumOk K (Its z) (signs z) G := fun G' H' i s1 s2 => by
  have hlen : (signs z).length = z.cps.size := by unfold signs; rw [List.length_map, Array.length_toList]
  refine ⟨fun hi => ⟨by rw [hlen] at hi; exact hi, fun x H'' ⟨e, k, q1, q2⟩ => ?_⟩, fun hi => by rw [hlen] at hi; exact hi⟩
  subst e
  subst q2
  refine ⟨G', .str ⟨#[k]⟩, StepN.refl s2, ?_, .str _⟩
  unfold signs
  rw [List.getElem?_map, Array.getElem?_toList, q1]
  rfl
def rangeL (lo : Int) (n : Nat) : List D := (List.range n).map fun (i : Nat) => D.int (lo + (i : Int))
theorem enum_range {lo : Int} {n : Nat} : EnumOk K (Itr lo n) (rangeL lo n) G := fun G' H' i s1 s2 => by
  have hlen : (rangeL lo n).length = n := by unfold rangeL; rw [List.length_map, List.length_range]
  rw [hlen]
  refine ⟨fun hi => ⟨hi, fun x H'' ⟨e, q⟩ => ?_⟩, fun hi => hi⟩
  subst e
  subst q
  refine ⟨G', .int (lo + i), StepN.refl s2, ?_, .int _⟩
  unfold rangeL
  rw [List.getElem?_map, List.getElem?_range hi]
  rfl
def seqI (g : GE D) : GE (List D) := fun ρ => (g ρ).bind fun d ρ1 => match d with
  | .lst ds => .ok ds ρ1
  | .tup ds => .ok ds ρ1
  | .str z => .ok (signs z) ρ1
  | _ => .bad
theorem pi_or {w1 w2 : TI} (h1 : PI X tg iter w1) (h2 : PI X tg iter w2) : PI X tg iter (fun σ H R => w1 σ H R ∨ w2 σ H R) :=
  ⟨fun pins s σ H R I h => h.elim (h1.run pins s σ H R I) (h2.run pins s σ H R I)⟩
theorem IX.seq (h : EX X c W iter ga) : IX X c W tg iter (seqI ga) := by
  obtain ⟨t, p, q⟩ := h
  refine ⟨_, pi_or (pi_list p) (pi_or (pi_tup p) (pi_str p)), fun ρ σ G H R E hq => ?_⟩
  unfold seqI at hq
  cases hg : ga ρ with
  | bad => rw [hg] at hq; exact hq.elim
  | er x ρ1 =>
    rw [hg] at hq
    exact .inl (q ρ σ G H _ E (by rw [hg]; exact hq))
  | ok d ρ1 =>
    rw [hg] at hq
    cases d with
    | lst ds =>
      refine .inl (q ρ σ G H _ E ?_)
      rw [hg]
      intro v G1 H1 E1 t1 o1 r1
      cases r1 with
      | lst h2 h3 => exact ⟨_, rfl, ⟨_, E1.sub.sqL h2⟩, hq _ G1 H1 E1 t1 o1 (enum_list h2 h3)⟩
    | tup ds =>
      refine .inr (.inl (q ρ σ G H _ E ?_))
      rw [hg]
      intro v G1 H1 E1 t1 o1 r1
      cases r1 with
      | tup h2 h3 => exact ⟨_, rfl, ⟨_, E1.sub.sqT h2⟩, hq _ G1 H1 E1 t1 o1 (enum_tup h2 h3)⟩
    | str z =>
      refine .inr (.inr (q ρ σ G H _ E ?_))
      rw [hg]
      intro v G1 H1 E1 t1 o1 r1
      cases r1
      exact ⟨z, rfl, hq _ G1 H1 E1 t1 o1 enum_str⟩
    | non => exact hq.elim
    | bl _ => exact hq.elim
    | int _ => exact hq.elim
    | dct _ => exact hq.elim
    | fz _ => exact hq.elim
def range1I (gs : GE (List D)) : GE (List D) := fun ρ => (gs ρ).bind fun ds ρ1 => match ds with
  | [.int j] => if -(2 ^ 62) ≤ j ∧ j < 2 ^ 62 then .ok (rangeL 0 j.toNat) ρ1 else .bad
  | _ => .bad
theorem IX.range1 {gs : GE (List D)} {p : Pos} (ha : AX X c W [a] gs) (hm : X.mg "range" = none) (hg : Gl X "range" := by rfl) (hs : starEach [a] X.env = [(false, eval a X.env)] := by rfl) : IX X c W tg (.Call (.Name "range" p) [a] [] pos) (range1I gs) := by
  obtain ⟨t, pa, q⟩ := ha
  refine ⟨_, pi_range1 hg hm pa hs, fun ρ σ G H R E hq => q ρ σ G H _ E (Gd.bind hq fun ds ρ1 vs G1 H1 E1 t1 r1 h1 => ?_)⟩
  split at h1
  · rename_i j
    obtain ⟨v, rfl, r2⟩ := reps1 r1
    cases r2
    by_cases hj : -(2 ^ 62) ≤ j ∧ j < 2 ^ 62
    · rw [if_pos hj] at h1
      exact ⟨j, rfl, hj.1, hj.2, Gd.here (Rel := fun G' items J => EnumOk X.K J items G') h1 E1 enum_range⟩
    · rw [if_neg hj] at h1; exact h1.elim
  · exact h1.elim
def range2I (gs : GE (List D)) : GE (List D) := fun ρ => (gs ρ).bind fun ds ρ1 => match ds with
  | [.int i, .int j] => if -(2 ^ 62) ≤ i ∧ i < 2 ^ 62 ∧ -(2 ^ 62) ≤ j ∧ j < 2 ^ 62 then .ok (rangeL i (j - i).toNat) ρ1 else .bad
  | _ => .bad
theorem IX.range2 {gs : GE (List D)} {p : Pos} (ha : AX X c W [a, b] gs) (hm : X.mg "range" = none) (hg : Gl X "range" := by rfl) (hs : starEach [a, b] X.env = [(false, eval a X.env), (false, eval b X.env)] := by rfl) (hs2 : starEach [b] X.env = [(false, eval b X.env)] := by rfl) :
    IX X c W tg (.Call (.Name "range" p) [a, b] [] pos) (range2I gs) := by
  obtain ⟨t, pa, q⟩ := ha
  refine ⟨_, pi_range2 hg hm pa hs hs2, fun ρ σ G H R E hq => q ρ σ G H _ E (Gd.bind hq fun ds ρ1 vs G1 H1 E1 t1 r1 h1 => ?_)⟩
  split at h1
  · rename_i i j
    obtain ⟨v, w, rfl, r2, r3⟩ := reps2 r1
    cases r2
    cases r3
    by_cases hj : -(2 ^ 62) ≤ i ∧ i < 2 ^ 62 ∧ -(2 ^ 62) ≤ j ∧ j < 2 ^ 62
    · rw [if_pos hj] at h1
      exact ⟨i, j, rfl, hj, Gd.here (Rel := fun G' items J => EnumOk X.K J items G') h1 E1 enum_range⟩
    · rw [if_neg hj] at h1; exact h1.elim
  · exact h1.elim
def enumL : Nat → List D → List D
  | _, [] => []
  | i, d :: ds => .tup [.int i, d] :: enumL (i + 1) ds
theorem enumL_len : ∀ (k : Nat) (ds : List D), (enumL k ds).length = ds.length
  | _, [] => rfl
  | k, d :: ds => by rw [enumL, List.length_cons, enumL_len, List.length_cons]
theorem enumL_get : ∀ (k : Nat) (ds : List D) (i : Nat) (d : D), ds[i]? = some d → (enumL k ds)[i]? = some (.tup [.int ((k + i : Nat) : Int), d])
  | _, [], i, d, h => by simp at h
  | k, x :: ds, 0, d, h => by
    have e : x = d := by simpa using h
    subst e
    rfl
  | k, x :: ds, i + 1, d, h => by
    have := enumL_get (k + 1) ds i d (by simpa using h)
    rw [enumL, List.getElem?_cons_succ, this]
    congr 4
    omega
def enumI (gs : GE (List D)) : GE (List D) := fun ρ => (gs ρ).bind fun ds ρ1 => match ds with
  | [.lst ds] => .ok (enumL 0 ds) ρ1
  | _ => .bad
theorem enum_enum {a : Addr} {xs : List V} {ds : List D} (h : G a = some (.lst xs)) (r : Reps K G xs ds) : EnumOk K (Ite K a) (enumL 0 ds) G := fun G' H' i s1 s2 => by
  have hl : SqL K H' a xs := (s1.trans s2).sqL h
  rw [enumL_len]
  refine ⟨fun hi => ?_, fun hi => ⟨xs, hl, by rw [Reps.length r]; exact hi⟩⟩
  obtain ⟨v, e1, e2⟩ := r.get (List.getElem?_eq_getElem hi)
  refine ⟨⟨xs, v, hl, e1⟩, fun x H'' ⟨T, y, q1, q2, q3, q4⟩ => ?_⟩
  subst q1
  subst q3
  have := q4 xs hl
  rw [e1] at this
  cases this
  exact ⟨upd G' T (.tup [.int (i : Nat), v]), _, StepN.new s2 q2, enumL_get 0 ds i _ (List.getElem?_eq_getElem hi), .tup (.inl (.inl upd_same)) (.cons (by rw [Nat.zero_add]; exact .int _) (.cons (Rep.sub (s1.trans (StepN.new s2 q2).g) e2) .nil))⟩
theorem IX.enum {gs : GE (List D)} {p tpos : Pos} {elts : List Expr} {kk : Nat} (ha : AX X c W [a] gs) (hm : X.mg "enumerate" = none) (hg : Gl X "enumerate" := by rfl) (hs : starEach [a] X.env = [(false, eval a X.env)] := by rfl) : IX X c W (.Tuple elts kk tpos) (.Call (.Name "enumerate" p) [a] [] pos) (enumI gs) := by
  obtain ⟨t, pa, q⟩ := ha
  refine ⟨_, pi_enum hg hm pa hs, fun ρ σ G H R E hq => q ρ σ G H _ E (Gd.bind hq fun ds ρ1 vs G1 H1 E1 t1 r1 h1 => ?_)⟩
  split at h1
  · obtain ⟨v, rfl, r2⟩ := reps1 r1
    cases r2 with
    | lst h2 h3 => exact ⟨_, _, rfl, E1.sub.sqL h2, Gd.here (Rel := fun G' items J => EnumOk X.K J items G') h1 E1 (enum_enum h2 h3)⟩
  · exact h1.elim
/-! ### for -/
def forGo (gt : D → PEnv → Option PEnv) (gb : GS) : List D → GS
  | [], ρ => .nx ρ
  | d :: ds, ρ => match gt d ρ with
    | none => .bad
    | some ρ1 => match gb ρ1 with
      | .nx ρ2 => forGo gt gb ds ρ2
      | .ct ρ2 => forGo gt gb ds ρ2
      | .bk ρ2 => .nx ρ2
      | r => r
def forS (gi : GE (List D)) (gt : D → PEnv → Option PEnv) (gb : GS) : GS := fun ρ => (gi ρ).bindS fun ds ρ1 => forGo gt gb ds ρ1
theorem SX.for {gi : GE (List D)} {gt : D → PEnv → Option PEnv} {ws : List Nat} {gb : GS} {body : List Stmt} (hp : PassesOwn (model X.prog X.w) X.A X.env X.xe) (hc : X.calm = true) (hi : IX X c W tg iter gi) (hg : TGX X c tg gt ws) (hb : SXs X c W body gb)
    (hs : ∀ x, foldedSetIterable iter X.env x = pure x := by intro _; rfl) : SX X c W (.For tg iter body [] pos) (forS gi gt gb) := by
  obtain ⟨wi, p, q⟩ := hi
  obtain ⟨t, pg, qg⟩ := hg
  obtain ⟨u, pb, qb⟩ := hb
  refine ⟨_, ps_for hp hc p pg pb hs, fun ρ σ G H D' E h => q ρ σ G H _ E (GdS.bind h fun items ρ1 J G1 H1 E1 t1 o1 ek h1 => ?_)⟩
  refine ⟨fun i m σ' H' => m = items.length - i ∧ i ≤ items.length ∧ ∃ ρ' G', ER X.K c ρ' σ' G' H' ∧ Sub G1 G' ∧ GdS X c W D' ρ' σ' G' H' (forGo gt gb (items.drop i) ρ'),
    ⟨items.length, rfl, Nat.zero_le _, ρ1, G1, E1, Sub.refl _, h1⟩, ?_⟩
  rintro i m σ' H' ⟨rfl, hle, ρ', G', E', sg, hgd⟩
  obtain ⟨k1, k2⟩ := ek G' H' i sg E'.sub
  by_cases hlt : i < items.length
  · obtain ⟨go, yl⟩ := k1 hlt
    refine .inr ⟨go, fun σ2 H2 => ∃ ρ2 G2, ER X.K c ρ2 σ2 G2 H2 ∧ Sub G1 G2 ∧ GdS X c W D' ρ2 σ2 G2 H2 (forGo gt gb (items.drop (i + 1)) ρ2), fun σ2 H2 ⟨ρ2, G2, e2, s2, g2⟩ => ⟨items.length - (i + 1), by omega, rfl, hlt, ρ2, G2, e2, s2, g2⟩, fun x H'' hy => ?_⟩
    obtain ⟨G'', d, st, hd, rd⟩ := yl x H'' hy
    have hdrop : items.drop i = d :: items.drop (i + 1) := by
      obtain ⟨h1', e1'⟩ := List.getElem?_eq_some_iff.mp hd
      rw [List.drop_eq_getElem_cons h1', e1']
    rw [hdrop] at hgd
    have E2 := E'.stepN st
    have hgd2 := GdS.shift hgd (st.step (Own ρ' σ')) (OwnS.refl ρ' σ' H')
    unfold forGo at hgd2
    cases qd : gt d ρ' with
    | none => rw [qd] at hgd2; exact hgd2.elim
    | some ρ2 =>
      rw [qd] at hgd2
      refine qg ρ' σ' G'' H'' x d ρ2 _ E2 rd qd fun σ3 G3 H3 E3 s3 o3 _ => ?_
      have hgd3 := GdS.shift hgd2 s3 o3
      refine qb ρ2 σ3 G3 H3 _ E3 ?_
      have sg3 : Sub G1 G3 := (sg.trans st.g).trans s3.g
      cases qr : gb ρ2 with
      | nx ρ4 =>
        simp only [qr] at hgd3
        exact fun σ4 G4 H4 e4 s4 o4 => ⟨ρ4, G4, e4, sg3.trans s4.g, GdS.shift hgd3 s4 o4⟩
      | ct ρ4 =>
        simp only [qr] at hgd3
        exact fun σ4 G4 H4 e4 s4 o4 => ⟨ρ4, G4, e4, sg3.trans s4.g, GdS.shift hgd3 s4 o4⟩
      | bk ρ4 =>
        simp only [qr] at hgd3
        exact hgd3
      | rt d4 ρ4 =>
        simp only [qr] at hgd3
        exact hgd3
      | er y ρ4 =>
        simp only [qr] at hgd3
        exact hgd3
      | bad =>
        simp only [qr] at hgd3
        exact hgd3
  · have hi : i = items.length := by omega
    subst hi
    rw [List.drop_length] at hgd
    exact .inl ⟨k2 (Nat.le_refl _), hgd σ' G' H' E' (Step.refl _ _ _) (OwnS.refl _ _ _)⟩
end
end PL
end L2
set_option Elab.async false
set_option linter.all false
set_option maxRecDepth 100000
namespace L2
namespace PL
open PySem PySem.Spec PyProof.Rows
section
variable {X : Cx} {c : Cz} {W : WX} {K : PySem.W.Frag} {ρ ρ' ρ0 : PEnv} {σ σ' : St} {G H G' H' : Hp}
def wipeP (ρ : PEnv) : List Nat → PEnv
  | [] => ρ
  | v :: vs => (wipeP ρ vs).set v .un
def restore (ρ0 ρ : PEnv) : List Nat → PEnv
  | [] => ρ
  | v :: vs => (restore ρ0 ρ vs).set v (ρ0.getD v .un)
theorem ER.un {i : Nat} (E : ER K c ρ σ G H) (hio : ∀ p ∈ c.io, p.1 ≠ i) : ER K c (ρ.set i .un) (σ.set i none) G H where
  len := by rw [List.length_set, List.length_set]; exact E.len
  slot := fun j s e => by
    by_cases hj : j = i
    · subst hj
      have hlt : j < ρ.length := by
        have := (List.getElem?_eq_some_iff.mp e).1
        rw [List.length_set] at this; exact this
      rw [List.getElem?_set_self hlt] at e
      cases e
      trivial
    · rw [List.getElem?_set_ne (Ne.symm hj)] at e
      rw [List.getElem?_set_ne (Ne.symm hj)]
      exact E.slot j s e
  sub := E.sub
  nt := E.nt
  sep := fun j k ys zs b e1 e2 e3 e4 => by
    have f : ∀ (j : Nat) (ys : List D), (ρ.set i .un)[j]? = some (.own ys) → (σ.set i none)[j]? = some (some (.ref b)) → ρ[j]? = some (.own ys) ∧ σ[j]? = some (some (.ref b)) := fun j ys e e' => by
      by_cases hj : j = i
      · subst hj
        by_cases hlt : j < ρ.length
        · rw [List.getElem?_set_self hlt] at e; cases e
        · rw [List.set_eq_of_length_le (by omega)] at e
          rw [List.set_eq_of_length_le (by rw [← E.len]; omega)] at e'
          exact ⟨e, e'⟩
      · rw [List.getElem?_set_ne (Ne.symm hj)] at e e'
        exact ⟨e, e'⟩
    obtain ⟨q1, q2⟩ := f j ys e1 e3
    obtain ⟨q3, q4⟩ := f k zs e2 e4
    exact E.sep j k ys zs b q1 q3 q2 q4
  tabs := E.tabs
  io := fun p hp => by
    obtain ⟨q1, ys, q2⟩ := E.io p hp
    exact ⟨by rw [List.getElem?_set_ne (Ne.symm (hio p hp))]; exact q1, ys, by rw [List.getElem?_set_ne (Ne.symm (hio p hp))]; exact q2⟩
theorem own_un {i : Nat} {a : Addr} (hl : ρ.length = σ.length) (h : Own (ρ.set i .un) (σ.set i none) a) : Own ρ σ a := by
  obtain ⟨j, ys, e1, e2⟩ := h
  by_cases hj : j = i
  · subst hj
    by_cases hlt : j < ρ.length
    · rw [List.getElem?_set_self hlt] at e1; cases e1
    · rw [List.set_eq_of_length_le (by omega)] at e1 e2
      exact ⟨j, ys, e1, e2⟩
  · rw [List.getElem?_set_ne (Ne.symm hj)] at e1 e2
    exact ⟨j, ys, e1, e2⟩
theorem ER.wipe (E : ER K c ρ σ G H) : ∀ {vs : List Nat}, (∀ p ∈ c.io, p.1 ∉ vs) → ER K c (wipeP ρ vs) (wipe σ vs) G H ∧ ∀ a, Own (wipeP ρ vs) (wipe σ vs) a → Own ρ σ a
  | [], _ => ⟨E, fun _ h => h⟩
  | v :: vs, h => by
    obtain ⟨e, o⟩ := ER.wipe E (vs := vs) fun p hp hm => h p hp (List.mem_cons_of_mem _ hm)
    exact ⟨e.un fun p hp z => h p hp (by rw [z]; exact List.mem_cons_self), fun a ha => o a (own_un e.len ha)⟩
theorem restore_len (ρ0 ρ : PEnv) : ∀ vs : List Nat, (restore ρ0 ρ vs).length = ρ.length
  | [] => rfl
  | v :: vs => by unfold restore; rw [List.length_set, restore_len ρ0 ρ vs]
theorem restore_out {i : Nat} : ∀ {vs : List Nat}, i ∉ vs → (restore ρ0 ρ vs)[i]? = ρ[i]?
  | [], _ => rfl
  | v :: vs, h => by
    unfold restore
    rw [List.getElem?_set_ne (fun z => h (by rw [z]; exact List.mem_cons_self)), restore_out fun z => h (List.mem_cons_of_mem _ z)]
theorem restore_in {i : Nat} {s : SV} : ∀ {vs : List Nat}, i ∈ vs → (restore ρ0 ρ vs)[i]? = some s → s = ρ0.getD i .un
  | v :: vs, h, e => by
    unfold restore at e
    by_cases hv : v = i
    · subst hv
      by_cases hlt : v < (restore ρ0 ρ vs).length
      · rw [List.getElem?_set_self hlt] at e
        cases e
        rfl
      · rw [List.getElem?_eq_none (by rw [List.length_set]; omega)] at e
        cases e
    · rw [List.getElem?_set_ne hv] at e
      rcases List.mem_cons.mp h with z | z
      · exact absurd z.symm hv
      · exact restore_in z e
/-- own lists, lists of lambdas -/
def isFix : Option SV → Bool
  | some (.own _) => true
  | some (.lams _) => true
  | _ => false
def noOwn (ρ : PEnv) (vs : List Nat) : Bool := vs.all fun v => !isFix ρ[v]?
theorem ER.restore {G0 H0 : Hp} {vs : List Nat} (E0 : ER K c ρ0 σ G0 H0) (E : ER K c ρ (L2.wipe σ vs) G H) (s : Sub G0 G) (hno : noOwn ρ0 vs = true) (hio : ∀ p ∈ c.io, p.1 ∉ vs) : ER K c (PL.restore ρ0 ρ vs) σ G H ∧ ∀ a, Own (PL.restore ρ0 ρ vs) σ a → Own ρ (L2.wipe σ vs) a := by
  have nown : ∀ i xs, i ∈ vs → ρ0.getD i .un ≠ .own xs := fun i xs hi e => by
    have := List.all_eq_true.mp hno i hi
    rw [List.getD_eq_getElem?_getD] at e
    cases q : ρ0[i]? with
    | none => rw [q] at e; cases e
    | some s0 =>
      rw [q] at e this
      have e' : s0 = .own xs := e
      rw [e'] at this
      cases this
  have own_out : ∀ i xs, (PL.restore ρ0 ρ vs)[i]? = some (.own xs) → i ∉ vs ∧ ρ[i]? = some (.own xs) := fun i xs e => by
    by_cases hi : i ∈ vs
    · exact absurd (restore_in hi e).symm (nown i xs hi)
    · exact ⟨hi, by rw [restore_out hi] at e; exact e⟩
  refine ⟨⟨by rw [restore_len, E.len, wipe_length], fun i s' e => ?_, E.sub, E.nt, fun i j xs ys a e1 e2 e3 e4 => ?_, E.tabs, fun p hp => ?_⟩, fun a ⟨i, xs, e1, e2⟩ => ?_⟩
  · by_cases hi : i ∈ vs
    · have e' := restore_in hi e
      subst e'
      rw [List.getD_eq_getElem?_getD]
      cases q : ρ0[i]? with
      | none => trivial
      | some s0 =>
        have h0 := E0.slot i s0 q
        show SlotOk K c G H s0 _
        cases s0 with
        | un => trivial
        | d x =>
          cases hs : (σ[i]?.getD none) with
          | none => rw [hs] at h0; exact h0.elim
          | some v => rw [hs] at h0; exact Rep.sub s h0
        | own xs =>
          refine absurd ?_ (nown i xs hi)
          rw [List.getD_eq_getElem?_getD, q]
          rfl
        | lams js =>
          have z := List.all_eq_true.mp hno i hi
          rw [q] at z
          cases z
    · rw [restore_out hi] at e
      have := E.slot i s' e
      rw [wipe_out hi] at this
      exact this
  · obtain ⟨q1, q2⟩ := own_out i xs e1
    obtain ⟨q3, q4⟩ := own_out j ys e2
    exact E.sep i j xs ys a q2 q4 (by rw [wipe_out q1]; exact e3) (by rw [wipe_out q3]; exact e4)
  · obtain ⟨q1, xs, q2⟩ := E.io p hp
    exact ⟨by rw [wipe_out (hio p hp)] at q1; exact q1, xs, by rw [restore_out (hio p hp)]; exact q2⟩
  · obtain ⟨q1, q2⟩ := own_out i xs e1
    exact ⟨i, xs, q2, by rw [wipe_out q1]; exact e2⟩
/-- a list that no slot holds and that isn't on the ground changes -/
theorem ER.free {p : Addr} {vs ws : List V} (E : ER K c ρ σ G H) (hp : H p = some (.lst vs)) (hg : G p = none) (no : ¬ Own ρ σ p) : ER K c ρ σ G (upd H p (.lst ws)) where
  len := E.len
  slot := fun j s e => by
    have q := E.slot j s e
    cases s with
    | un => trivial
    | d x =>
      cases hs : (σ[j]?.getD none) with
      | none => rw [hs] at q; exact q.elim
      | some v => rw [hs] at q; exact q
    | lams js =>
      cases hσL : (σ[j]?.getD none) with
      | none => rw [hσL] at q; exact q.elim
      | some v => rw [hσL] at q; exact LamsAt.mono q (fun b o z => z) fun b w z => by rw [upd_ne (codeO_lst z hp)]; exact z
    | own zs =>
      obtain ⟨b, us, q1, q2, q3, q4⟩ := slot_own E e
      have nb : b ≠ p := fun z => no (by rw [← z]; exact ⟨j, zs, e, q1⟩)
      rw [q1]
      exact ⟨b, us, rfl, by rw [upd_ne nb]; exact q2, q3, q4⟩
  sub := fun b o e => by
    have nb : b ≠ p := fun z => by rw [z, hg] at e; cases e
    rw [upd_ne nb]; exact E.sub b o e
  nt := E.nt
  sep := E.sep
  tabs := fun q hq => by
    obtain ⟨ps, h1, h2, h3⟩ := E.tabs q hq
    have np : ∀ {b : Addr} {o : HO}, H b = some o → (∀ l, o ≠ .lst l) → b ≠ p := fun {b o} e n z => by rw [z, hp] at e; exact n vs (Option.some.inj e).symm
    refine ⟨ps, by rw [upd_ne (np h1 fun l z => by cases z)]; exact h1, h2, fun pos cv hc => ?_⟩
    obtain ⟨c0, e1, e2⟩ := h3 pos cv hc
    exact ⟨c0, e1, by rw [upd_ne (np e2 fun l z => by cases z)]; exact e2⟩
  io := E.io
def W0 : WX := fun _ _ _ _ => False
def lcGo (vs : List Nat) (gt : D → PEnv → Option PEnv) (gtst : GE Bool) (ge : GE D) : List D → PEnv → List D → R (List D)
  | [], ρ, acc => .ok acc ρ
  | d :: ds, ρ, acc => match gt d ρ with
    | none => .bad
    | some ρ1 => match gtst ρ1 with
      | .ok true ρ2 => match ge ρ2 with
        | .ok y ρ3 => if acc.length < lim then lcGo vs gt gtst ge ds (wipeP ρ3 vs) (acc ++ [y]) else .bad
        | _ => .bad
      | .ok false ρ2 => lcGo vs gt gtst ge ds (wipeP ρ2 vs) acc
      | _ => .bad
def lcE (vs : List Nat) (gi : GE (List D)) (gt : D → PEnv → Option PEnv) (gtst : GE Bool) (ge : GE D) : GE (List D) := fun ρ => (gi ρ).bind fun items ρ1 => if noOwn ρ1 vs then (lcGo vs gt gtst ge items (wipeP ρ1 vs) []).bind fun acc ρ2 => .ok acc (restore ρ1 ρ2 vs) else .bad
def TXS (X : Cx) (c : Cz) (W : WX) (ifs : List Expr) (g : GE Bool) : Prop := ∃ t, PTs X ifs t ∧ ∀ ρ σ G H Q, ER X.K c ρ σ G H → Gd X c W ρ σ G H (g ρ) RB Q → t σ H Q
def yesT : GE Bool := fun ρ => .ok true ρ
theorem TXS.nil : TXS X c W [] yesT := ⟨_, pts_nil, fun ρ σ G H Q E h => Gd.here (Rel := RB) h E rfl⟩
theorem TXS.one {e : Expr} {g : GE Bool} (h : TX X c W e g) : TXS X c W [e] g := by
  obtain ⟨t, p, q⟩ := h
  exact ⟨_, pts_one p, q⟩
theorem TXS.pts {ifs : List Expr} {g : GE Bool} (h : TXS X c W ifs g) : PTs X ifs (tPT X c W g) := by
  obtain ⟨t, p, q⟩ := h
  exact ⟨fun pins s σ H Q I ⟨ρ, G, E, hq⟩ => p.run pins s σ H Q I (q ρ σ G H Q E hq)⟩
theorem wipe_off {ws vs : List Nat} {σ σ2 : St} (h : Off ws (wipe σ vs) σ2) (hw : ∀ j ∈ ws, j ∈ vs) : wipe σ2 vs = wipe σ vs := by
  have hl : σ2.length = σ.length := by rw [h.1, wipe_length]
  refine List.ext_getElem? fun j => ?_
  by_cases hj : j ∈ vs
  · -- both forgotten
    have key : ∀ (τ : St) (us : List Nat), j ∈ us → (wipe τ us)[j]? = if j < τ.length then some none else none := by
      intro τ us
      induction us with
      | nil => intro h; cases h
      | cons v us ih =>
        intro hm
        unfold wipe
        by_cases hv : v = j
        · subst hv
          by_cases hlt : v < τ.length
          · rw [List.getElem?_set_self (by rw [wipe_length]; exact hlt), if_pos hlt]
          · rw [List.getElem?_eq_none (by rw [List.length_set, wipe_length]; omega), if_neg hlt]
        · rw [List.getElem?_set_ne hv]
          rcases List.mem_cons.mp hm with z | z
          · exact absurd z.symm hv
          · exact ih z
    rw [key σ2 vs hj, key σ vs hj, hl]
  · rw [wipe_out hj, h.2 j fun z => hj (hw j z)]
/-- what a comprehension's reading asks -/
theorem lc_ok {wi : TI} {gi : GE (List D)} {gt : D → PEnv → Option PEnv} {ws vs : List Nat} {gtst : GE Bool} {ge : GE D} (q : ∀ ρ σ G H R, ER X.K c ρ σ G H → Gd X c W ρ σ G H (gi ρ) (fun G' items J => EnumOk X.K J items G') R → wi σ H R)
    (hio : ∀ p ∈ c.io, p.1 ∉ vs) (hw : ∀ j ∈ ws, j ∈ vs) : ∀ ρ σ G H Q, ER X.K c ρ σ G H → GdL X c W ρ σ G H (lcE vs gi gt gtst ge ρ) Q → tLc wi (tT X c gt ws) (tPT X c W0 gtst) (tP X c W0 ge) vs σ H Q := fun ρ σ G H Q E h => by
  refine q ρ σ G H _ E (GdL.bind h fun items ρ1 J G1 H1 E1 t1 ek h1 => ?_)
  intro Dl hDl
  cases hno : noOwn ρ1 vs with
  | false => rw [hno, if_neg (by decide)] at h1; exact h1.elim
  | true =>
  rw [hno, if_pos rfl] at h1
  generalize hr0 : lcGo vs gt gtst ge items (wipeP ρ1 vs) [] = r0 at h1
  obtain ⟨Ew, ow⟩ := E1.wipe hio
  have nG1 : G1 Dl = none := by
    cases z : G1 Dl with
    | none => rfl
    | some o => rw [E1.sub Dl o z] at hDl; cases hDl
  refine ⟨fun i m H' => m = items.length - i ∧ i ≤ items.length ∧ ∃ ρ' G' acc vacc, ER X.K c ρ' (wipe σ vs) G' H' ∧ Step (Own ρ1 σ) G1 H1 G' H' ∧ (∀ a, Own ρ' (wipe σ vs) a → Own ρ1 σ a ∨ (H1 a = none ∧ a ≠ Dl)) ∧ H' Dl = some (.lst vacc) ∧ Reps X.K G' vacc acc ∧ G' Dl = none ∧
      lcGo vs gt gtst ge (items.drop i) ρ' acc = r0,
    ⟨items.length, rfl, Nat.zero_le _, wipeP ρ1 vs, G1, [], [], ?_, ?_, fun a ha => .inl (ow a ha), upd_same, .nil, nG1, hr0⟩, ?_⟩
  · refine ⟨Ew.len, fun j s e => ?_, fun b o e => ?_, Ew.nt, Ew.sep, Ew.tabs.ext fun b o e => by rw [upd_ne (ne_of_none e hDl)]; exact e, Ew.io⟩
    · have z := Ew.slot j s e
      cases s with
      | un => trivial
      | d x =>
        cases hs : ((wipe σ vs)[j]?.getD none) with
        | none => rw [hs] at z; exact z.elim
        | some v => rw [hs] at z; exact z
      | lams js =>
        cases hσL : ((wipe σ vs)[j]?.getD none) with
        | none => rw [hσL] at z; exact z.elim
        | some v => rw [hσL] at z; exact LamsAt.mono z (fun b o z => z) fun b w e => by rw [upd_ne (ne_of_none e hDl)]; exact e
      | own xs =>
        obtain ⟨a, us, q1, q2, q3, q4⟩ := slot_own Ew e
        rw [q1]
        exact ⟨a, us, rfl, by rw [upd_ne (ne_of_none q2 hDl)]; exact q2, q3, q4⟩
    · have z := Ew.sub b o e
      rw [upd_ne (ne_of_none z hDl)]; exact z
  · exact ⟨Sub.refl _, fun _ _ z => .inl z, fun b o e _ _ => by rw [upd_ne (ne_of_none e hDl)]; exact e, fun b e => by
      by_cases hb : b = Dl
      · rw [hb, upd_same] at e; cases e
      · rw [upd_ne hb] at e; exact e, id⟩
  · rintro i m H' ⟨rfl, hle, ρ', G', acc, vacc, E', st', ow', hD', hr', gD', hgo⟩
    obtain ⟨k1, k2⟩ := ek G' H' i st'.g E'.sub
    by_cases hlt : i < items.length
    · obtain ⟨go, yl⟩ := k1 hlt
      refine .inr ⟨go, fun H2 => ∃ ρ2 G2 acc2 vacc2, ER X.K c ρ2 (wipe σ vs) G2 H2 ∧ Step (Own ρ1 σ) G1 H1 G2 H2 ∧ (∀ a, Own ρ2 (wipe σ vs) a → Own ρ1 σ a ∨ (H1 a = none ∧ a ≠ Dl)) ∧ H2 Dl = some (.lst vacc2) ∧ Reps X.K G2 vacc2 acc2 ∧ G2 Dl = none ∧
        lcGo vs gt gtst ge (items.drop (i + 1)) ρ2 acc2 = r0, fun H2 hN => ⟨items.length - (i + 1), by omega, rfl, hlt, hN⟩, fun x H'' hy => ?_⟩
      obtain ⟨G'', d, st, hd, rd⟩ := yl x H'' hy
      have hdrop : items.drop i = d :: items.drop (i + 1) := by
        obtain ⟨h1', e1'⟩ := List.getElem?_eq_some_iff.mp hd
        rw [List.drop_eq_getElem_cons h1', e1']
      rw [hdrop] at hgo
      unfold lcGo at hgo
      -- the final answer is not bad
      have nb : r0 ≠ .bad := fun z => by rw [z] at h1; exact h1.elim
      have E2 := E'.stepN st
      have nD : ¬ Own ρ' (wipe σ vs) Dl := fun z => by
        rcases ow' Dl z with y | ⟨_, y⟩
        · obtain ⟨us, y1, _⟩ := own_tracked E1 y
          rw [hDl] at y1; cases y1
        · exact y rfl
      have hD2 : H'' Dl = some (.lst vacc) := st.k _ _ hD'
      have gD2 : G'' Dl = none := by
        cases z : G'' Dl with
        | none => rfl
        | some o =>
          rcases st.n Dl o z with y | y
          · rw [gD'] at y; cases y
          · rw [hD'] at y; cases y
      cases qd : gt d ρ' with
      | none => simp only [qd] at hgo; exact absurd hgo.symm nb
      | some ρ2 =>
        simp only [qd] at hgo
        refine ⟨ρ', G'', d, ρ2, E2, rd, qd, fun σ3 G3 H3 E3 s3 o3 f3 => ⟨wipe_off f3 hw, ?_⟩⟩
        have nD3 : ¬ Own ρ2 σ3 Dl := fun z => by
          rcases o3 Dl z with y | y
          · exact nD y
          · rw [hD2] at y; cases y
        have hD3 : H3 Dl = some (.lst vacc) := s3.k _ _ hD2 nD fun ps z => by cases z
        have gD3 : G3 Dl = none := by
          cases z : G3 Dl with
          | none => rfl
          | some o =>
            rcases s3.n Dl o z with y | y | y
            · rw [gD2] at y; cases y
            · rw [hD2] at y; cases y
            · exact absurd y nD
        -- the steps so far, from (G1, H1)
        have st3 : Step (Own ρ1 σ) G1 H1 G3 H3 := by
          refine (st'.trans (st.step (Own ρ' (wipe σ vs))) fun a ha => ?_).trans s3 fun a ha => ?_
          · rcases ow' a ha with y | ⟨y, _⟩
            · exact .inl y
            · exact .inr y
          · rcases ow' a ha with y | ⟨y, _⟩
            · exact .inl y
            · exact .inr y
        have ow3 : ∀ a, Own ρ2 σ3 a → Own ρ1 σ a ∨ (H1 a = none ∧ a ≠ Dl) := fun a ha => by
          rcases o3 a ha with y | y
          · exact ow' a y
          · refine .inr ⟨st'.d a ?_, fun z => by rw [z, hD2] at y; cases y⟩
            cases z : H' a with
            | none => rfl
            | some o => rw [st.k a o z] at y; cases y
        cases qt : gtst ρ2 with
        | bad => simp only [qt] at hgo; exact absurd hgo.symm nb
        | er y ρ3 => simp only [qt] at hgo; exact absurd hgo.symm nb
        | ok b ρ3 =>
          simp only [qt] at hgo
          refine ⟨ρ2, G3, E3, ?_⟩
          rw [qt]
          intro b' G4 H4 E4 s4 o4 rb
          subst rb
          have nD4 : ¬ Own ρ3 σ3 Dl := fun z => by
            rcases o4 Dl z with y | y
            · exact nD3 y
            · rw [hD3] at y; cases y
          have hD4 : H4 Dl = some (.lst vacc) := s4.k _ _ hD3 nD3 fun ps z => by cases z
          have gD4 : G4 Dl = none := by
            cases z : G4 Dl with
            | none => rfl
            | some o =>
              rcases s4.n Dl o z with y | y | y
              · rw [gD3] at y; cases y
              · rw [hD3] at y; cases y
              · exact absurd y nD3
          have st4 : Step (Own ρ1 σ) G1 H1 G4 H4 := st3.trans s4 fun a ha => by
            rcases ow3 a ha with y | ⟨y, _⟩
            · exact .inl y
            · exact .inr y
          have ow4 : ∀ a, Own ρ3 σ3 a → Own ρ1 σ a ∨ (H1 a = none ∧ a ≠ Dl) := fun a ha => by
            rcases o4 a ha with y | y
            · exact ow3 a y
            · exact .inr ⟨st3.d a y, fun z => by rw [z, hD3] at y; cases y⟩
          cases b with
          | false =>
            simp only at hgo
            rw [if_neg (by decide)]
            obtain ⟨Ew4, oww4⟩ := E4.wipe hio
            rw [wipe_off f3 hw] at Ew4 oww4
            exact ⟨wipeP ρ3 vs, G4, acc, vacc, Ew4, st4, fun a ha => ow4 a (oww4 a ha), hD4, Reps.sub ((st.g.trans s3.g).trans s4.g) hr', gD4, hgo⟩
          | true =>
            simp only at hgo
            rw [if_pos rfl]
            cases qe : ge ρ3 with
            | bad => simp only [qe] at hgo; exact absurd hgo.symm nb
            | er y ρ5 => simp only [qe] at hgo; exact absurd hgo.symm nb
            | ok y ρ5 =>
              simp only [qe] at hgo
              by_cases hl : acc.length < lim
              · rw [if_pos hl] at hgo
                refine ⟨ρ3, G4, E4, ?_⟩
                rw [qe]
                intro v G5 H5 E5 s5 o5 r5
                have nD5 : ¬ Own ρ5 σ3 Dl := fun z => by
                  rcases o5 Dl z with y | y
                  · exact nD4 y
                  · rw [hD4] at y; cases y
                have hD5 : H5 Dl = some (.lst vacc) := s5.k _ _ hD4 nD4 fun ps z => by cases z
                have gD5 : G5 Dl = none := by
                  cases z : G5 Dl with
                  | none => rfl
                  | some o =>
                    rcases s5.n Dl o z with y | y | y
                    · rw [gD4] at y; cases y
                    · rw [hD4] at y; cases y
                    · exact absurd y nD4
                have st5 : Step (Own ρ1 σ) G1 H1 G5 H5 := st4.trans s5 fun a ha => by
                  rcases ow4 a ha with y | ⟨y, _⟩
                  · exact .inl y
                  · exact .inr y
                have ow5 : ∀ a, Own ρ5 σ3 a → Own ρ1 σ a ∨ (H1 a = none ∧ a ≠ Dl) := fun a ha => by
                  rcases o5 a ha with y | y
                  · exact ow4 a y
                  · exact .inr ⟨st4.d a y, fun z => by rw [z, hD4] at y; cases y⟩
                have hr5 : Reps X.K G5 vacc acc := Reps.sub (((st.g.trans s3.g).trans s4.g).trans s5.g) hr'
                refine ⟨vacc, hD5, Nat.lt_of_lt_of_le (by rw [Reps.length hr5]; exact hl) (by decide : lim ≤ sizeLine), ?_⟩
                obtain ⟨Ew5, oww5⟩ := (E5.free (ws := vacc ++ [v]) hD5 gD5 nD5).wipe hio
                rw [wipe_off f3 hw] at Ew5 oww5
                refine ⟨wipeP ρ5 vs, G5, acc ++ [y], vacc ++ [v], Ew5, ⟨st5.g, st5.n, fun b o e no nt => ?_, fun b e => ?_, st5.t⟩, fun a ha => ow5 a (oww5 a ha), upd_same, hr5.snoc r5, gD5, hgo⟩
                · rw [upd_ne (ne_of_none e hDl)]; exact st5.k b o e no nt
                · by_cases hb : b = Dl
                  · rw [hb, upd_same] at e; cases e
                  · rw [upd_ne hb] at e; exact st5.d b e
              · rw [if_neg hl] at hgo; exact absurd hgo.symm nb
    · have hi : i = items.length := by omega
      subst hi
      rw [List.drop_length] at hgo
      unfold lcGo at hgo
      rw [← hgo] at h1
      obtain ⟨Er, orr⟩ := ER.restore E1 E' st'.g hno hio
      have nD : ¬ Own (PL.restore ρ1 ρ' vs) σ Dl := fun z => by
        rcases ow' Dl (orr Dl z) with y | ⟨_, y⟩
        · obtain ⟨us, y1, _⟩ := own_tracked E1 y
          rw [hDl] at y1; cases y1
        · exact y rfl
      refine .inl ⟨k2 (Nat.le_refl _), h1 Dl vacc G' H' Er st' (fun a ha => ?_) hDl hD' gD' nD hr'⟩
      rcases ow' a (orr a ha) with y | ⟨y, _⟩
      · exact .inl y
      · exact .inr y
variable {elt tg iter : Expr} {ifs : List Expr} {scope : Scope} {own : List (Str × Nat)} {pos : Pos} {gi : GE (List D)} {gt : D → PEnv → Option PEnv} {ws : List Nat} {gtst : GE Bool} {ge : GE D}
theorem LX.lc (hc : X.calm = true) (hN : X.N.Nodup) (hi : IX X c W tg iter gi) (ok : BlkOk X.N X.env.scope scope own) (hio : ∀ p ∈ c.io, p.1 ∉ own.map (·.2)) (hw : ∀ j ∈ ws, j ∈ own.map (·.2))
    (hg : ∀ (s : Shared) (H : Hp) (C : Addr) (cl : List (Str × Addr)) (fp : List Addr), TGX (X.blk s H scope (compEnvC scope cl C X.env) fp) c tg gt ws)
    (ht : ∀ (s : Shared) (H : Hp) (C : Addr) (cl : List (Str × Addr)) (fp : List Addr), TXS (X.blk s H scope (compEnvC scope cl C X.env) fp) c W0 ifs gtst)
    (he : ∀ (s : Shared) (H : Hp) (C : Addr) (cl : List (Str × Addr)) (fp : List Addr), EX (X.blk s H scope (compEnvC scope cl C X.env) fp) c W0 elt ge) (hs : ∀ x, foldedSetIterable iter X.env x = pure x := by intro _; rfl) :
    LX X c W (.ListComp elt [⟨tg, iter, ifs, 0⟩] scope pos) (lcE (own.map (·.2)) gi gt gtst ge) := by
  obtain ⟨wi, p, q⟩ := hi
  exact LX.mk (pe_lc hc hN p ok (g := tT X c gt ws) (tt := tPT X c W0 gtst) (te := tP X c W0 ge) (fun s H C cl fp => (hg s H C cl fp).pg) (fun s H C cl fp => (ht s H C cl fp).pts) (fun s H C cl fp => (he s H C cl fp).pe) hs) (lc_ok q hio hw)
/-- y = [.. for ..] -/
theorem SX.setLc {i : Nat} {y : Str} {py spos : Pos} (hc : X.calm = true) (hN : X.N.Nodup) (hy : X.N[i]? = some y) (hyl : X.env.scope.names.lookup y = some .local) (hsw : swapsWith (.ListComp elt [⟨tg, iter, ifs, 0⟩] scope pos) (some (.Name y py)) spos.line X.env = pure true)
    (hi : IX X c W tg iter gi) (ok : BlkOk X.N X.env.scope scope own) (hio : ∀ p ∈ c.io, p.1 ∉ own.map (·.2)) (hioi : ∀ p ∈ c.io, p.1 ≠ i) (hw : ∀ j ∈ ws, j ∈ own.map (·.2))
    (hg : ∀ (s : Shared) (H : Hp) (C : Addr) (cl : List (Str × Addr)) (fp : List Addr), TGX (X.blk s H scope (compEnvC scope cl C X.env) fp) c tg gt ws)
    (ht : ∀ (s : Shared) (H : Hp) (C : Addr) (cl : List (Str × Addr)) (fp : List Addr), TXS (X.blk s H scope (compEnvC scope cl C X.env) fp) c W0 ifs gtst)
    (he : ∀ (s : Shared) (H : Hp) (C : Addr) (cl : List (Str × Addr)) (fp : List Addr), EX (X.blk s H scope (compEnvC scope cl C X.env) fp) c W0 elt ge) (hs : ∀ x, foldedSetIterable iter X.env x = pure x := by intro _; rfl) :
    SX X c W (.Assign [.Name y py] (.ListComp elt [⟨tg, iter, ifs, 0⟩] scope pos) spos) (asgOwnS (lcE (own.map (·.2)) gi gt gtst ge) i) := by
  obtain ⟨wi, p, q⟩ := hi
  refine ⟨_, ps_setLc hc hN hy hyl hsw p ok (g := tT X c gt ws) (tt := tPT X c W0 gtst) (te := tP X c W0 ge) (fun s H C cl fp => (hg s H C cl fp).pg) (fun s H C cl fp => (ht s H C cl fp).pts) (fun s H C cl fp => (he s H C cl fp).pe) hs, fun ρ σ G H D' E h => lc_ok q hio hw ρ σ G H _ E (GdS.bindL (Q := fun x H1 => gName i x σ H1 D'.nx) h fun xs ρ1 p vs G1 H1 E1 t1 o1 h0 hp hg no hr h1 => ?_)⟩
  refine h1 _ G1 H1 (E1.setown hp hg no hr hioi) t1 fun a ha => ?_
  rcases own_setown E1.len ha with q | q
  · exact o1 a q
  · subst q; exact .inr h0
end
end PL
end L2
set_option Elab.async false
set_option linter.all false
set_option maxRecDepth 100000
namespace L2
namespace PL
open PySem PySem.Spec PyProof.Rows
/-! ### what a def is worth -/
inductive Rs where
  | ok (d : D) | er (x : Exn) | bad
section
variable (K : PySem.W.Frag) (mg : Str → Option Value) (T : List (Addr × Str))
/-- a def that changes nothing: f tells its answer -/
def spP (n : Nat) (f : List D → Rs) : Sp := fun vs H Q E => vs.length = n ∧ ∃ G ds, Sub G H ∧ NT G ∧ LamX.Tabs T H ∧ Reps K G vs ds ∧ match f ds with
  | .ok d => ∀ v G' H', Step (fun _ => False) G H G' H' → Sub G' H' → LamX.Tabs T H' → Rep K G' v d → Q v H'
  | .er x => ∀ C dd G' H', Step (fun _ => False) G H G' H' → Sub G' H' → LamX.Tabs T H' → XR K mg x C dd G' H' → E (.ref C) (some dd) H'
  | .bad => False
/-- a def that changes the list that its first parameter is -/
def spIO (n : Nat) (f : List D → List D → Rs × List D) : Sp := fun vs H Q E => vs.length = n ∧ ∃ G a us xs vs' ds, vs = .ref a :: vs' ∧ H a = some (.lst us) ∧ G a = none ∧ Reps K G us xs ∧ Sub G H ∧ NT G ∧ LamX.Tabs T H ∧ Reps K G vs' ds ∧ match f xs ds with
  | (.ok d, ys) => ∀ v G' H' us', Step (fun b => b = a) G H G' H' → Sub G' H' → LamX.Tabs T H' → H' a = some (.lst us') → G' a = none → Reps K G' us' ys → Rep K G' v d → Q v H'
  | (.er x, ys) => ∀ C dd G' H' us', Step (fun b => b = a) G H G' H' → Sub G' H' → LamX.Tabs T H' → H' a = some (.lst us') → G' a = none → Reps K G' us' ys → XR K mg x C dd G' H' → E (.ref C) (some dd) H'
  | (.bad, _) => False
end
/-- as FnOk, where nothing is being shown (repr) around -/
structure FnG (P : Program) (w : World) (K : PySem.W.Frag) (mg : Str → Option Value) (base : Heap) (k : Nat) (f : Addr) (fd : FuncData) (ps : List Str) (sp : Sp) : Prop where
  len : ∀ vs H Q E, sp vs H Q E → vs.length = ps.length
  go : ∀ (A : Around) (outer : List Env) (s : Shared) (H : Hp) (args : Args) (us : List Value) (vs : List V) (Q : VK) (E : XK), Room k A → A.guards = some [] → Env0 P w K mg base A outer s H → BindsTo s fd args (ps.zip us) → Vals vs us → sp vs H Q E →
    codeAny (model P w) A (.call (.ref f) args) (CR (L2.CX P w) outer P w H s Q E) s
section
variable {P : Program} {w : World} {K : PySem.W.Frag} {mg : Str → Option Value} {base : Heap} {k : Nat} {f : Addr} {fd : FuncData} {ps : List Str} {sp : Sp}
theorem FnG.of (F : FnOk P w K mg base (L2.CX P w) k f fd ps sp) : FnG P w K mg base k f fd ps sp := ⟨F.len, fun A outer s H args us vs Q E hr _ => F.run A outer s H args us vs Q E hr⟩
theorem FnG.mono {j : Nat} (F : FnG P w K mg base j f fd ps sp) (h : j ≤ k) : FnG P w K mg base k f fd ps sp := ⟨F.len, fun A outer s H args us vs Q E hr => F.go A outer s H args us vs Q E (hr.mono h)⟩
/-- a def of the text, by its body -/
theorem fnG_of {x qual : Str} {st : Stmt} {N : List Str} (F : Fun K x qual st f fd) (S : FnScope N ps (defScope st)) (len : ∀ vs H Q E, sp vs H Q E → vs.length = ps.length)
    (hbody : ∀ (cdv : Value) (A : Around) (outer : List Env) (s : Shared) (H : Hp) (vs : List V) (Q : VK) (E : XK), Room k (A.deeper (envOfC qual (defScope st) s.heap.objs.size f cdv)) → A.guards = some [] → sp vs H Q E →
      ∃ t, PSs (cxOf (L2.CX P w) P w K mg base N qual (defScope st) f cdv A outer s H E) (defBody st) t ∧ t { nx := fun _ H' => Q .non H', rt := Q } (start N vs) H) : FnG P w K mg base (k + 1) f fd ps sp := by
  obtain ⟨oc, od, kV, doc, pm, an, cdv, ct, osl, e, lk, hcd⟩ := F.ex
  refine ⟨len, fun A outer s H args us vs Q E hr hgd e0 hb r hsp => ?_⟩
  have key := LamX.run_ofS (CX := L2.CX P w) (P := P) (w := w) (mg := mg) (base := base) (k := k) (N := N) (ps := ps) (A := A) (outer := outer) (s := s) (H := H) (args := args) (us := us) (vs := vs) (Q := Q) (E := E) (e ▸ lk) hcd S hr e0 (e ▸ hb) r (len vs H Q E hsp) fun hr2 => hbody cdv A outer s H vs Q E hr2 hgd hsp
  exact key
end
/-! ### the body's run as a function -/
def rsOf : FR → Rs
  | .rt d _ => .ok d
  | .nx _ => .ok .non
  | .er x _ => .er x
  | _ => .bad
def runP (g : GS) (m : Nat) (ds : List D) : Rs := rsOf (g (ds.map .d ++ List.replicate m .un))
def own0 (ρ : PEnv) : List D := match ρ[(0 : Nat)]? with
  | some (.own ys) => ys
  | _ => []
def rsIO : FR → Rs × List D
  | .rt d ρ => (.ok d, own0 ρ)
  | .nx ρ => (.ok .non, own0 ρ)
  | .er x ρ => (.er x, own0 ρ)
  | _ => (.bad, [])
def runIO (g : GS) (m : Nat) (xs ds : List D) : Rs × List D := rsIO (g (.own xs :: (ds.map .d ++ List.replicate m .un)))
def czP (T : List (Addr × Str)) : Cz := { T := T, io := [] }
def czIO (T : List (Addr × Str)) (a : Addr) : Cz := { T := T, io := [(0, a)] }
def wE (E : XK) : WX := fun cls d _ H => E cls d H
theorem start_slots {K : PySem.W.Frag} {c : Cz} {G H : Hp} : ∀ {ds : List D} {vs : List V} {m : Nat}, Reps K G vs ds → ∀ (i : Nat) (s : SV), (ds.map SV.d ++ List.replicate m SV.un)[i]? = some s → SlotOk K c G H s ((vs.map some ++ List.replicate m none)[i]?.getD none)
  | [], _, m, h, i, s, e => by
    cases h
    rw [List.map_nil, List.nil_append, List.getElem?_replicate] at e
    split at e
    · cases e; trivial
    · cases e
  | d :: ds, _, m, h, 0, s, e => by
    cases h with
    | cons h1 h2 => cases e; exact h1
  | d :: ds, _, m, h, i + 1, s, e => by
    cases h with
    | cons h1 h2 => exact start_slots h2 i s e
theorem no_own_start {ds : List D} {m i : Nat} {xs : List D} : (ds.map SV.d ++ List.replicate m SV.un)[i]? ≠ some (.own xs) := fun e => by
  by_cases h : i < ds.length
  · rw [List.getElem?_append_left (by rw [List.length_map]; exact h), List.getElem?_map, List.getElem?_eq_getElem h] at e
    cases e
  · rw [List.getElem?_append_right (by rw [List.length_map]; omega), List.getElem?_replicate] at e
    split at e <;> cases e
theorem ER.start {K : PySem.W.Frag} {c : Cz} {G H : Hp} {vs : List V} {ds : List D} {m : Nat} (hc2 : c.io = []) (s : Sub G H) (nt : NT G) (t : LamX.Tabs c.T H) (r : Reps K G vs ds) : ER K c (ds.map .d ++ List.replicate m .un) (vs.map some ++ List.replicate m none) G H where
  len := by simp [Reps.length r]
  slot := start_slots r
  sub := s
  nt := nt
  sep := fun i j xs ys a e => absurd e no_own_start
  tabs := t
  io := fun p hp => by rw [hc2] at hp; cases hp
theorem not_own_start {ds : List D} {m : Nat} {σ : St} {a : Addr} : ¬ Own (ds.map SV.d ++ List.replicate m SV.un) σ a := fun ⟨_, _, e, _⟩ => no_own_start e
theorem ER.startIO {K : PySem.W.Frag} {c : Cz} {G H : Hp} {vs us : List V} {xs ds : List D} {m : Nat} {a : Addr} (hc2 : c.io = [(0, a)]) (ha : H a = some (.lst us)) (hg : G a = none) (rx : Reps K G us xs) (s : Sub G H) (nt : NT G) (t : LamX.Tabs c.T H) (r : Reps K G vs ds) :
    ER K c (.own xs :: (ds.map .d ++ List.replicate m .un)) ((V.ref a :: vs).map some ++ List.replicate m none) G H where
  len := by simp [Reps.length r]
  slot := fun i s e => by
    cases i with
    | zero => cases e; exact ⟨a, us, rfl, ha, rx, hg⟩
    | succ i => exact start_slots r i s e
  sub := s
  nt := nt
  sep := fun i j ys zs b e1 e2 _ _ => by
    cases i with
    | zero =>
      cases j with
      | zero => rfl
      | succ j => exact absurd e2 no_own_start
    | succ i => exact absurd e1 no_own_start
  tabs := t
  io := fun p hp => by
    rw [hc2] at hp
    have e : p = (0, a) := List.mem_singleton.mp hp
    subst e
    exact ⟨rfl, xs, rfl⟩
theorem own_startIO {xs ds : List D} {m : Nat} {vs : List V} {a b : Addr} (h : Own (.own xs :: (ds.map SV.d ++ List.replicate m SV.un)) ((V.ref a :: vs).map some ++ List.replicate m none) b) : b = a := by
  obtain ⟨i, ys, e1, e2⟩ := h
  cases i with
  | zero => cases e2; rfl
  | succ i => exact absurd e1 no_own_start
section
variable {P : Program} {w : World} {K : PySem.W.Frag} {mg : Str → Option Value} {base : Heap} {k : Nat} {f : Addr} {fd : FuncData} {ps N : List Str} {x qual : Str} {st : Stmt} {T : List (Addr × Str)} {n m : Nat} {g : GS}
theorem start_eq {vs : List V} (hN : N.length = n + m) (hl : vs.length = n) : start N vs = vs.map some ++ List.replicate m none := by
  unfold start
  rw [hN, hl, Nat.add_sub_cancel_left]
theorem body_P {X : Cx} {c : Cz} {E : XK} {st : List Stmt} (h : SXs X c (wE E) st g) {vs : List V} {H : Hp} {Q : VK} (hN : N.length = n + m) (hsp : spP X.K X.mg T n (runP g m) vs H Q E) (hc1 : c.T = T := by rfl) (hc2 : c.io = [] := by rfl) :
    ∃ t, PSs X st t ∧ t { nx := fun _ H' => Q .non H', rt := Q } (start N vs) H := by
  subst hc1
  obtain ⟨hl, G, ds, sb, nt, tb, rd, q⟩ := hsp
  obtain ⟨t, p, ht⟩ := h
  refine ⟨t, p, ?_⟩
  rw [start_eq hN hl]
  refine ht _ _ G H _ (ER.start hc2 sb nt tb rd) ?_
  unfold runP at q
  have nO : ∀ {G' H' : Hp}, Step (Own (ds.map SV.d ++ List.replicate m SV.un) (vs.map some ++ List.replicate m none)) G H G' H' → Step (fun _ => False) G H G' H' := fun s => s.mono fun a ha => absurd ha not_own_start
  cases e : g (ds.map .d ++ List.replicate m .un) with
  | nx ρ' => rw [e] at q; exact fun σ' G' H' E' s o => q .non G' H' (nO s) E'.sub E'.tabs .non
  | rt d ρ' => rw [e] at q; exact fun v σ' G' H' E' s o r => q v G' H' (nO s) E'.sub E'.tabs r
  | er y ρ' => rw [e] at q; exact fun C dd σ' G' H' E' s o r => q C dd G' H' (nO s) E'.sub E'.tabs r
  | bk ρ' => rw [e] at q; exact q.elim
  | ct ρ' => rw [e] at q; exact q.elim
  | bad => rw [e] at q; exact q.elim
theorem pure_G (F : Fun K x qual st f fd) (S : FnScope N ps (defScope st)) (hn : ps.length = n) (hN : N.length = n + m)
    (hg : ∀ (cdv : Value) (A : Around) (outer : List Env) (s : Shared) (H : Hp) (E : XK), Room k (A.deeper (envOfC qual (defScope st) s.heap.objs.size f cdv)) → A.guards = some [] → SXs (cxOf (L2.CX P w) P w K mg base N qual (defScope st) f cdv A outer s H E) (czP T) (wE E) (defBody st) g) :
    FnG P w K mg base (k + 1) f fd ps (spP K mg T n (runP g m)) :=
  fnG_of F S (fun vs H Q E h => h.1.trans hn.symm) fun cdv A outer s H vs Q E hr hgd hsp => body_P (X := cxOf (L2.CX P w) P w K mg base N qual (defScope st) f cdv A outer s H E) (hg cdv A outer s H E hr hgd) hN hsp
theorem pure_Ok (F : Fun K x qual st f fd) (S : FnScope N ps (defScope st)) (hn : ps.length = n) (hN : N.length = n + m)
    (hg : ∀ (cdv : Value) (A : Around) (outer : List Env) (s : Shared) (H : Hp) (E : XK), Room k (A.deeper (envOfC qual (defScope st) s.heap.objs.size f cdv)) → SXs (cxOf (L2.CX P w) P w K mg base N qual (defScope st) f cdv A outer s H E) (czP T) (wE E) (defBody st) g) :
    FnOk P w K mg base (L2.CX P w) (k + 1) f fd ps (spP K mg T n (runP g m)) :=
  F.okX S (fun vs H Q E h => h.1.trans hn.symm) fun cdv A outer s H vs Q E hr hsp => body_P (X := cxOf (L2.CX P w) P w K mg base N qual (defScope st) f cdv A outer s H E) (hg cdv A outer s H E hr) hN hsp
theorem own0_of {ρ : PEnv} {ys : List D} (h : ρ[(0 : Nat)]? = some (.own ys)) : own0 ρ = ys := by unfold own0; rw [h]
theorem body_IO {X : Cx} {c : Addr → Cz} {E : XK} {st : List Stmt} (h : ∀ a, SXs X (c a) (wE E) st g) {vs : List V} {H : Hp} {Q : VK} (hN : N.length = n + m) (hsp : spIO X.K X.mg T n (runIO g m) vs H Q E) (hc1 : ∀ a, (c a).T = T := by exact fun _ => rfl) (hc2 : ∀ a, (c a).io = [(0, a)] := by exact fun _ => rfl) :
    ∃ t, PSs X st t ∧ t { nx := fun _ H' => Q .non H', rt := Q } (start N vs) H := by
  obtain ⟨hl, G, a, us, xs, vs', ds, e, ha, hga, rx, sb, nt, tb, rd, q⟩ := hsp
  obtain ⟨t, p, ht⟩ := h a
  refine ⟨t, p, ?_⟩
  rw [start_eq hN hl]
  subst e
  refine ht _ _ G H _ (ER.startIO (hc2 a) ha hga rx sb nt (by rw [hc1]; exact tb) rd) ?_
  unfold runIO at q
  have nO : ∀ {G' H' : Hp}, Step (Own (.own xs :: (ds.map SV.d ++ List.replicate m SV.un)) ((V.ref a :: vs').map some ++ List.replicate m none)) G H G' H' → Step (fun b => b = a) G H G' H' := fun s => s.mono fun b hb => .inl (own_startIO hb)
  have fin : ∀ {ρ' : PEnv} {σ' : St} {G' H' : Hp}, ER X.K (c a) ρ' σ' G' H' → ∃ us', H' a = some (.lst us') ∧ G' a = none ∧ Reps X.K G' us' (own0 ρ') := fun {ρ' σ' G' H'} E' => by
    obtain ⟨z1, ys, z2⟩ := E'.io (0, a) (by rw [hc2]; exact List.mem_cons_self)
    obtain ⟨b, us', y1, y2, y3, y4⟩ := slot_own E' z2
    rw [z1] at y1
    cases y1
    exact ⟨us', y2, y4, by rw [own0_of z2]; exact y3⟩
  cases e : g (.own xs :: (ds.map .d ++ List.replicate m .un)) with
  | nx ρ' =>
    rw [e] at q
    exact fun σ' G' H' E' s o => by
      obtain ⟨us', y2, y4, y3⟩ := fin E'
      exact q .non G' H' us' (nO s) E'.sub (by rw [← hc1 a]; exact E'.tabs) y2 y4 y3 .non
  | rt d ρ' =>
    rw [e] at q
    exact fun v σ' G' H' E' s o r => by
      obtain ⟨us', y2, y4, y3⟩ := fin E'
      exact q v G' H' us' (nO s) E'.sub (by rw [← hc1 a]; exact E'.tabs) y2 y4 y3 r
  | er y ρ' =>
    rw [e] at q
    exact fun C dd σ' G' H' E' s o r => by
      obtain ⟨us', y2, y4, y3⟩ := fin E'
      exact q C dd G' H' us' (nO s) E'.sub (by rw [← hc1 a]; exact E'.tabs) y2 y4 y3 r
  | bk ρ' => rw [e] at q; exact q.elim
  | ct ρ' => rw [e] at q; exact q.elim
  | bad => rw [e] at q; exact q.elim
theorem io_G (F : Fun K x qual st f fd) (S : FnScope N ps (defScope st)) (hn : ps.length = n) (hN : N.length = n + m)
    (hg : ∀ (cdv : Value) (A : Around) (outer : List Env) (s : Shared) (H : Hp) (E : XK) (a : Addr), Room k (A.deeper (envOfC qual (defScope st) s.heap.objs.size f cdv)) → A.guards = some [] → SXs (cxOf (L2.CX P w) P w K mg base N qual (defScope st) f cdv A outer s H E) (czIO T a) (wE E) (defBody st) g) :
    FnG P w K mg base (k + 1) f fd ps (spIO K mg T n (runIO g m)) :=
  fnG_of F S (fun vs H Q E h => h.1.trans hn.symm) fun cdv A outer s H vs Q E hr hgd hsp => body_IO (X := cxOf (L2.CX P w) P w K mg base N qual (defScope st) f cdv A outer s H E) (fun a => hg cdv A outer s H E a hr hgd) hN hsp
end
end PL
end L2
set_option Elab.async false
set_option linter.all false
set_option maxRecDepth 100000
namespace L2
namespace PL
open PySem PySem.Spec PyProof.Rows
section
variable {X : Cx} {c : Cz} {W : WX} {K : PySem.W.Frag} {ρ ρ' : PEnv} {σ σ' : St} {G H G' H' : Hp}
theorem pass_W0 (σ : St) : PassesAt (L2.CX X.prog X.w) X σ (WE W0 σ) := fun _ _ _ _ _ _ h => by
  obtain ⟨_, _, _, _, _, _, _, _, _, _, _, _, z⟩ := h
  exact z.elim
/-! ### calls of defs -/
variable {k : Nat} {f : Addr} {fd : FuncData} {ps : List Str} {sp : Sp} {E : St → XK} {x : Str} {p pos : Pos} {e : Expr} {es : List Expr} {t : TA}
theorem run_fnG {pins : List (Addr × Obj)} {s : Shared} {Q : VK} {us : List Value} {vs : List V} {args : Args} (F : FnG X.prog X.w X.K X.mg X.base k f fd ps sp) (hr : Room k X.A) (hgd : X.A.guards = some []) (hb : BindsTo s fd args (ps.zip us)) (hx : PassesAt (L2.CX X.prog X.w) X σ (E σ))
    (I : Inv X pins σ H s) (r : Vals vs us) (h : sp vs H Q (E σ)) : wpAny (model X.prog X.w) X.A (call (.ref f) args.pos args.kw) (EP X pins σ Q) X.xe s :=
  wpAny_call (codeAny_mono (F.go X.A X.stack s H args us vs Q (E σ) hr hgd I.env0 hb r h) fun r s' hq => by
    match r, hq with
    | .error er, hq => exact hx pins H s er s' I hq
    | .ok (.ret u), hq => exact I.after hq
    | .ok .next, hq => exact (show False from hq).elim
    | .ok .brk, hq => exact (show False from hq).elim
    | .ok .cont, hq => exact (show False from hq).elim)
theorem pe_callG (F : FnG X.prog X.w X.K X.mg X.base k f fd ps sp) (hr : Room k X.A) (hgd : X.A.guards = some []) (hg : Gl X x) (hm : X.mg x = some (.ref f)) (hk : PySem.W.keepIn X.K (.ref f) = true) (hb : Binds X.K fd ps []) (hx : ∀ σ, PassesAt (L2.CX X.prog X.w) X σ (E σ))
    (ha : PA X (e :: es) t) (hdb : (x == ("__debug__" : Str)) = false := by decide) (he : starEach (e :: es) X.env = (false, eval e X.env) :: starEach es X.env := by rfl) (hpl : (backTo pos (starEach es X.env)).any (·.1) = false := by rfl) :
    PE X (.Call (.Name x p) (e :: es) [] pos) (tCallS sp E t) := by
  constructor
  intro pins s σ H Q I h
  apply wpAny_Call_Name_kw
  apply ld_glob I hg hm _ hdb
  apply PySem.W.callWith_K (h₀ := X.base) I.ok.mod.kin hk _ he hpl
  apply thn (ha.run pos pins s σ H _ I h)
  intro us s1 ⟨vs, H1, I1, r, q⟩
  refine ⟨I1.kIn, ?_⟩
  have hl : us.length = ps.length := by rw [← r.length]; exact F.len _ _ _ _ q
  have b := hb s1 us I1.kIn (by rw [List.append_nil]; exact hl)
  rw [List.append_nil] at b
  exact run_fnG (args := ⟨us, []⟩) F hr hgd b (hx σ) I1 r q
/-- f(x = .., y = ..): all by keywords, in the parameters' order -/
def BindsKw (K : PySem.W.Frag) (fd : FuncData) (ps : List Str) : Prop := ∀ (s : Shared) (us : List Value), K.In s.heap → us.length = ps.length → BindsTo s fd ⟨[], ps.zip us⟩ (ps.zip us)
theorem pe_callKG {kws : List Keyword} (F : FnG X.prog X.w X.K X.mg X.base k f fd ps sp) (hr : Room k X.A) (hgd : X.A.guards = some []) (hg : Gl X x) (hm : X.mg x = some (.ref f)) (hk : PySem.W.keepIn X.K (.ref f) = true) (hb : BindsKw X.K fd ps) (hx : ∀ σ, PassesAt (L2.CX X.prog X.w) X σ (E σ))
    (hkw : PK X kws t) (hall : (backToKw pos (keywordEach kws X.env)).all (·.1.isSome) = true := by rfl) (hks : (backToKw pos (keywordEach kws X.env)).filterMap (·.1) = ps := by rfl)
    (hdb : (x == ("__debug__" : Str)) = false := by decide) (hpl : ((backTo pos (starEach [] X.env)).any (·.1) || (backToKw pos (keywordEach kws X.env)).any (·.1.isNone)) = false := by rfl) :
    PE X (.Call (.Name x p) [] kws pos) (tCallS sp E t) := by
  constructor
  intro pins s σ H Q I h
  apply wpAny_Call_Name_kw
  apply ld_glob I hg hm _ hdb
  apply PySem.W.callWith_KW0 (h₀ := X.base) I.ok.mod.kin hk hall _ hpl
  apply thn (hkw.run pos pins s σ H _ I h)
  intro us s1 ⟨vs, H1, I1, r, q⟩
  refine ⟨I1.kIn, ?_⟩
  rw [hks]
  have hl : us.length = ps.length := by rw [← r.length]; exact F.len _ _ _ _ q
  exact run_fnG (args := ⟨[], ps.zip us⟩) F hr hgd (hb s1 us I1.kIn hl) (hx σ) I1 r q
/-! the same on data -/
def callE (n : Nat) (f : List D → Rs) (gs : GE (List D)) : GE D := fun ρ => (gs ρ).bind fun ds ρ1 => if ds.length = n then (match f ds with
  | .ok d => .ok d ρ1
  | .er x => .er x ρ1
  | .bad => .bad) else .bad
variable {n : Nat} {fP : List D → Rs} {gs : GE (List D)}
theorem ER.stepF {O : Addr → Prop} (E : ER K c ρ σ G H) (t : Step O G H G' H') (no : ∀ a, ¬ O a) (s : Sub G' H') (tb : LamX.Tabs c.T H') : ER K c ρ σ G' H' where
  len := E.len
  slot := fun i s e => by
    have q := E.slot i s e
    cases s with
    | un => trivial
    | d x =>
      cases hσ : (σ[i]?.getD none) with
      | none => rw [hσ] at q; exact q.elim
      | some v => rw [hσ] at q; exact Rep.sub t.g q
    | lams js =>
      cases hσL : (σ[i]?.getD none) with
      | none => rw [hσL] at q; exact q.elim
      | some v => rw [hσL] at q; exact LamsAt.mono q t.g fun b w z => t.k _ _ z (no b) LamX.codeO_ne
    | own xs =>
      obtain ⟨a, vs, e1, e2, e3, e4⟩ := slot_own E e
      rw [e1]
      refine ⟨a, vs, rfl, t.k _ _ e2 (no a) (fun ps z => by cases z), Reps.sub t.g e3, ?_⟩
      cases z : G' a with
      | none => rfl
      | some o =>
        rcases t.n a o z with y | y | y
        · rw [e4] at y; cases y
        · rw [e2] at y; cases y
        · exact absurd y (no a)
  sub := s
  nt := t.t E.nt
  sep := E.sep
  tabs := tb
  io := E.io
theorem call_ok {vs : List V} {ds : List D} {Q : VK} (h : Gd X c W ρ σ G H (if ds.length = n then (match fP ds with | .ok d => R.ok d ρ | .er x => .er x ρ | .bad => .bad) else .bad) (RV X) Q) (E : ER X.K c ρ σ G H) (r : Reps X.K G vs ds) : spP X.K X.mg c.T n fP vs H Q (WE W σ) := by
  by_cases hn : ds.length = n
  · rw [if_pos hn] at h
    refine ⟨by rw [Reps.length r]; exact hn, G, ds, E.sub, E.nt, E.tabs, r, ?_⟩
    cases e : fP ds with
    | ok d =>
      rw [e] at h
      exact fun v G' H' t s tb rd => h v G' H' (E.stepF t (fun _ => id) s tb) (t.mono fun _ z => z.elim) (OwnS.refl _ _ _) rd
    | er y =>
      rw [e] at h
      exact fun C dd G' H' t s tb rd => h C dd G' H' (E.stepF t (fun _ => id) s tb) (t.mono fun _ z => z.elim) (OwnS.refl _ _ _) rd
    | bad => rw [e] at h; exact h
  · rw [if_neg hn] at h; exact h.elim
theorem EX.callOf (hpe : ∀ t, PA X (e :: es) t → PE X (.Call (.Name x p) (e :: es) [] pos) (tCallS (spP X.K X.mg c.T n fP) (WE W) t)) (ha : AX X c W (e :: es) gs) : EX X c W (.Call (.Name x p) (e :: es) [] pos) (callE n fP gs) := by
  obtain ⟨t, pa, q⟩ := ha
  exact ⟨_, hpe t pa, fun ρ σ G H Q E hq => q ρ σ G H _ E (Gd.bind hq fun ds ρ1 vs G1 H1 E1 t1 r1 h1 => call_ok h1 E1 r1)⟩
/-- f(..), f told by fP -/
theorem EX.call (F : FnG X.prog X.w X.K X.mg X.base k f fd ps (spP X.K X.mg c.T n fP)) (hr : Room k X.A) (hgd : X.A.guards = some []) (hm : X.mg x = some (.ref f)) (hk : PySem.W.keepIn X.K (.ref f) = true) (hb : Binds X.K fd ps []) (hx : ∀ σ, PassesAt (L2.CX X.prog X.w) X σ (WE W σ)) (ha : AX X c W (e :: es) gs)
    (hg : Gl X x := by rfl) (hdb : (x == ("__debug__" : Str)) = false := by decide) (he : starEach (e :: es) X.env = (false, eval e X.env) :: starEach es X.env := by rfl) (hpl : (backTo pos (starEach es X.env)).any (·.1) = false := by rfl) :
    EX X c W (.Call (.Name x p) (e :: es) [] pos) (callE n fP gs) := EX.callOf (fun t pa => pe_callG F hr hgd hg hm hk hb hx pa hdb he hpl) ha
/-- .. where nothing is known of what is being shown around -/
theorem EX.callN (F : FnOk X.prog X.w X.K X.mg X.base (L2.CX X.prog X.w) k f fd ps (spP X.K X.mg c.T n fP)) (hr : Room k X.A) (hm : X.mg x = some (.ref f)) (hk : PySem.W.keepIn X.K (.ref f) = true) (hb : Binds X.K fd ps []) (hx : ∀ σ, PassesAt (L2.CX X.prog X.w) X σ (WE W σ)) (ha : AX X c W (e :: es) gs)
    (hg : Gl X x := by rfl) (hdb : (x == ("__debug__" : Str)) = false := by decide) (he : starEach (e :: es) X.env = (false, eval e X.env) :: starEach es X.env := by rfl) (hpl : (backTo pos (starEach es X.env)).any (·.1) = false := by rfl) :
    EX X c W (.Call (.Name x p) (e :: es) [] pos) (callE n fP gs) := EX.callOf (fun t pa => pe_callS F hr hg hm hk hb hx pa hdb he hpl) ha
/-! keywords -/
def AKX (X : Cx) (c : Cz) (W : WX) (kws : List Keyword) (g : GE (List D)) : Prop := ∃ t, PK X kws t ∧ ∀ ρ σ G H Q, ER X.K c ρ σ G H → Gd X c W ρ σ G H (g ρ) (RVs X) Q → t σ H Q
theorem AKX.nil : AKX X c W [] nilA := ⟨_, pk_nil, fun ρ σ G H Q E hq => hq.here E .nil⟩
theorem AKX.cons {kws : List Keyword} {nm : Option Str} {kp : Pos} {ga : GE D} {gr : GE (List D)} (ha : EX X c W e ga) (hr : AKX X c W kws gr) : AKX X c W (⟨nm, e, kp⟩ :: kws) (consA ga gr) := by
  obtain ⟨ta, pa, qa⟩ := ha
  obtain ⟨tr, pr, qr⟩ := hr
  exact ⟨_, pk_cons pa pr, fun ρ σ G H Q E hq => qa ρ σ G H _ E (Gd.bind hq fun x ρ1 v G1 H1 E1 t1 r1 h1 => qr ρ1 σ G1 H1 _ E1 (Gd.bind h1 fun xs ρ2 vs G2 H2 E2 t2 r2 h2 => Gd.here (Rel := RVs X) h2 E2 (.cons (Rep.sub t2.g r1) r2)))⟩
theorem EX.callK {kws : List Keyword} (F : FnG X.prog X.w X.K X.mg X.base k f fd ps (spP X.K X.mg c.T n fP)) (hr : Room k X.A) (hgd : X.A.guards = some []) (hm : X.mg x = some (.ref f)) (hk : PySem.W.keepIn X.K (.ref f) = true) (hb : BindsKw X.K fd ps) (hx : ∀ σ, PassesAt (L2.CX X.prog X.w) X σ (WE W σ)) (ha : AKX X c W kws gs)
    (hg : Gl X x := by rfl) (hall : (backToKw pos (keywordEach kws X.env)).all (·.1.isSome) = true := by rfl) (hks : (backToKw pos (keywordEach kws X.env)).filterMap (·.1) = ps := by rfl)
    (hdb : (x == ("__debug__" : Str)) = false := by decide) (hpl : ((backTo pos (starEach [] X.env)).any (·.1) || (backToKw pos (keywordEach kws X.env)).any (·.1.isNone)) = false := by rfl) :
    EX X c W (.Call (.Name x p) [] kws pos) (callE n fP gs) := by
  obtain ⟨t, pa, q⟩ := ha
  exact ⟨_, pe_callKG F hr hgd hg hm hk hb hx pa hall hks hdb hpl, fun ρ σ G H Q E hq => q ρ σ G H _ E (Gd.bind hq fun ds ρ1 vs G1 H1 E1 t1 r1 h1 => call_ok h1 E1 r1)⟩
/-! a def that changes its first argument, an own list -/
def callIO (i n : Nat) (f : List D → List D → Rs × List D) (gs : GE (List D)) : GE D := fun ρ => if isOwn ρ[i]? then (gs ρ).bind fun ds ρ1 => match ρ1[i]? with
  | some (.own xs) => if ds.length + 1 = n then (match f xs ds with
    | (.ok d, ys) => .ok d (ρ1.set i (.own ys))
    | (.er x, ys) => .er x (ρ1.set i (.own ys))
    | (.bad, _) => .bad) else .bad
  | _ => .bad
  else .bad
theorem ER.io' {i : Nat} {xs ys : List D} {a : Addr} {us' : List V} (E : ER K c ρ σ G H) (hρ : ρ[i]? = some (.own xs)) (hσ : σ[i]? = some (some (.ref a))) (t : Step (fun b => b = a) G H G' H') (s : Sub G' H') (tb : LamX.Tabs c.T H') (ha : H' a = some (.lst us')) (hg : G' a = none) (r : Reps K G' us' ys) :
    ER K c (ρ.set i (.own ys)) σ G' H' where
  len := by rw [List.length_set]; exact E.len
  slot := fun j s e => by
    by_cases hj : j = i
    · subst hj
      have hlt : j < ρ.length := (List.getElem?_eq_some_iff.mp hρ).1
      rw [List.getElem?_set_self hlt] at e
      cases e
      rw [hσ]
      exact ⟨a, us', rfl, ha, r, hg⟩
    · rw [List.getElem?_set_ne (Ne.symm hj)] at e
      have q := E.slot j s e
      cases s with
      | un => trivial
      | d x =>
        cases hs : (σ[j]?.getD none) with
        | none => rw [hs] at q; exact q.elim
        | some v => rw [hs] at q; exact Rep.sub t.g q
      | lams js =>
        cases hσL : (σ[j]?.getD none) with
        | none => rw [hσL] at q; exact q.elim
        | some v => rw [hσL] at q; exact LamsAt.mono q t.g fun b w z => t.k _ _ z (fun y => by
          obtain ⟨_, us0, y1, y2, _⟩ := slot_own E hρ
          rw [hσ] at y1
          cases y1
          exact codeO_lst z y2 y) LamX.codeO_ne
      | own zs =>
        obtain ⟨b, us, q1, q2, q3, q4⟩ := slot_own E e
        have nb : b ≠ a := fun z => hj (E.sep j i zs xs b e hρ q1 (by rw [z]; exact hσ))
        rw [q1]
        refine ⟨b, us, rfl, t.k _ _ q2 nb (fun ps z => by cases z), Reps.sub t.g q3, ?_⟩
        cases z : G' b with
        | none => rfl
        | some o =>
          rcases t.n b o z with y | y | y
          · rw [q4] at y; cases y
          · rw [q2] at y; cases y
          · exact absurd y nb
  sub := s
  nt := t.t E.nt
  sep := fun j k zs us b e1 e2 e3 e4 => by
    have f : ∀ (j : Nat) (zs : List D), (ρ.set i (.own ys))[j]? = some (.own zs) → ∃ zs', ρ[j]? = some (.own zs') := fun j zs e => by
      by_cases hj : j = i
      · subst hj; exact ⟨xs, hρ⟩
      · rw [List.getElem?_set_ne (Ne.symm hj)] at e; exact ⟨zs, e⟩
    obtain ⟨z1, q1⟩ := f j zs e1
    obtain ⟨z2, q2⟩ := f k us e2
    exact E.sep j k z1 z2 b q1 q2 e3 e4
  tabs := tb
  io := fun q hq => by
    obtain ⟨q1, zs, q2⟩ := E.io q hq
    refine ⟨q1, ?_⟩
    by_cases hj : q.1 = i
    · have hlt : i < ρ.length := (List.getElem?_eq_some_iff.mp hρ).1
      exact ⟨ys, by rw [hj, List.getElem?_set_self hlt]⟩
    · exact ⟨zs, by rw [List.getElem?_set_ne (Ne.symm hj)]; exact q2⟩
theorem EX.callIO {i : Nat} {y : Str} {py : Pos} {fIO : List D → List D → Rs × List D} (F : FnG X.prog X.w X.K X.mg X.base k f fd ps (spIO X.K X.mg c.T n fIO)) (hr : Room k X.A) (hgd : X.A.guards = some []) (hm : X.mg x = some (.ref f)) (hk : PySem.W.keepIn X.K (.ref f) = true) (hb : Binds X.K fd ps []) (hx : ∀ σ, PassesAt (L2.CX X.prog X.w) X σ (WE W σ))
    (hp : PE X (.Name y py) (tVar i)) (ha : AX X c W es gs) (hg : Gl X x := by rfl) (hdb : (x == ("__debug__" : Str)) = false := by decide) (he : starEach (.Name y py :: es) X.env = (false, eval (.Name y py) X.env) :: starEach es X.env := by rfl) (hpl : (backTo pos (starEach es X.env)).any (·.1) = false := by rfl) :
    EX X c W (.Call (.Name x p) (.Name y py :: es) [] pos) (callIO i n fIO gs) := by
  obtain ⟨t, pa, q⟩ := ha
  refine ⟨_, pe_callG F hr hgd hg hm hk hb hx (pa_cons hp pa he) hdb he hpl, fun ρ σ G H Q E h => ?_⟩
  unfold PL.callIO at h
  cases ho : isOwn ρ[i]? with
  | false => rw [ho, if_neg (by decide)] at h; exact False.elim h
  | true =>
    rw [ho, if_pos rfl] at h
    obtain ⟨xs0, hx0⟩ := isOwn_of ho
    obtain ⟨a, vs0, e1, e2, e3, e4⟩ := slot_own E hx0
    refine ⟨.ref a, e1, q ρ σ G H _ E (Gd.bind h fun ds ρ1 vs G1 H1 E1 t1 r1 h1 => ?_)⟩
    cases q1 : ρ1[i]? with
    | none => simp only [q1] at h1; exact False.elim h1
    | some s =>
      cases s with
      | un => simp only [q1] at h1; exact False.elim h1
      | d _ => simp only [q1] at h1; exact False.elim h1
      | lams _ => simp only [q1] at h1; exact False.elim h1
      | own xs =>
        simp only [q1] at h1
        obtain ⟨b, us, f1, f2, f3, f4⟩ := slot_own E1 q1
        have hab : a = b := by
          rw [e1] at f1
          cases f1
          rfl
        subst hab
        by_cases hn : ds.length + 1 = n
        · rw [if_pos hn] at h1
          refine ⟨by rw [List.length_cons, Reps.length r1]; exact hn, G1, a, us, xs, vs, ds, rfl, f2, f4, f3, E1.sub, E1.nt, E1.tabs, r1, ?_⟩
          cases ef : fIO xs ds with
          | mk rr ys =>
            rw [ef] at h1
            cases rr with
            | ok d => exact fun v G' H' us' st s tb ha' hg' rys rd => h1 v G' H' (E1.io' q1 f1 st s tb ha' hg' rys) (st.mono fun z hz => .inl (by rw [hz]; exact ⟨i, xs, q1, f1⟩)) (fun z hz => .inl (own_write q1 hz)) rd
            | er y => exact fun C dd G' H' us' st s tb ha' hg' rys rd => h1 C dd G' H' (E1.io' q1 f1 st s tb ha' hg' rys) (st.mono fun z hz => .inl (by rw [hz]; exact ⟨i, xs, q1, f1⟩)) (fun z hz => .inl (own_write q1 hz)) rd
            | bad => exact h1
        · rw [if_neg hn] at h1; exact False.elim h1
end
end PL
end L2
set_option Elab.async false
set_option linter.all false
set_option maxRecDepth 100000
namespace L2
namespace PL
open PySem PySem.Spec PyProof.Rows
theorem ioP {T : List (Addr × Str)} {i : Nat} : ∀ p ∈ (czP T).io, p.1 ≠ i := fun p hp => by cases hp
theorem ioX {T : List (Addr × Str)} {a : Addr} {i : Nat} (h : 0 ≠ i) : ∀ p ∈ (czIO T a).io, p.1 ≠ i := fun p hp => by
  have e : p = (0, a) := List.mem_singleton.mp hp
  subst e
  exact h
theorem ioPs {T : List (Addr × Str)} {vs : List Nat} : ∀ p ∈ (czP T).io, p.1 ∉ vs := fun p hp => by cases hp
theorem ioXs {T : List (Addr × Str)} {a : Addr} {vs : List Nat} (h : 0 ∉ vs) : ∀ p ∈ (czIO T a).io, p.1 ∉ vs := fun p hp => by
  have e : p = (0, a) := List.mem_singleton.mp hp
  subst e
  exact h
section
variable {P : Program} {w : World} {K : PySem.W.Frag} {mg : Str → Option Value} {base : Heap} {N : List Str} {qual : Str} {scope : Scope} {f : Addr} {cd : Value} {A : Around} {outer : List Env} {s : Shared} {H : Hp} {E : XK}
theorem takes_cx : Takes (cxOf (L2.CX P w) P w K mg base N qual scope f cd A outer s H E) (wE E) := takes_of rfl rfl rfl rfl
theorem pass_cx : ∀ σ, PassesAt (L2.CX P w) (cxOf (L2.CX P w) P w K mg base N qual scope f cd A outer s H E) σ (WE (wE E) σ) := passAt takes_cx
theorem own_cx : PassesOwn (model P w) (cxOf (L2.CX P w) P w K mg base N qual scope f cd A outer s H E).A (cxOf (L2.CX P w) P w K mg base N qual scope f cd A outer s H E).env (cxOf (L2.CX P w) P w K mg base N qual scope f cd A outer s H E).xe := passes_of rfl
end
section
variable {X : Cx} {c : Cz} {W : WX} {a b e : Expr} {ga gb ge : GE D} {la lb : GE (List D)} {K : PySem.W.Frag} {ρ ρ' : PEnv} {σ σ' : St} {G H G' H' : Hp}
/-! ### a, b = x, y (two local names) -/
def parS (i j : Nat) (ga gb : GE D) : GS := fun ρ => (ga ρ).bindS fun x ρ1 => (gb ρ1).bindS fun y ρ2 => .nx ((ρ2.set i (.d x)).set j (.d y))
theorem SX.par {i j : Nat} {st : Stmt} (hioi : ∀ p ∈ c.io, p.1 ≠ i) (hioj : ∀ p ∈ c.io, p.1 ≠ j) (hp : ∀ ta, PA X [a, b] ta → PS X st (tPar i j ta)) (ha : EX X c W a ga) (hb : EX X c W b gb)
    (hs : starEach (a :: [b]) X.env = (false, eval a X.env) :: starEach [b] X.env := by rfl) (hs2 : starEach (b :: []) X.env = (false, eval b X.env) :: starEach [] X.env := by rfl) : SX X c W st (parS i j ga gb) := by
  obtain ⟨ta, pa, qa⟩ := ha
  obtain ⟨tb, pb, qb⟩ := hb
  refine ⟨_, hp _ (pa_cons pa (pa_cons pb pa_nil hs2) hs), fun ρ σ G H D' E h => qa ρ σ G H _ E (GdS.bind (Rel1 := RV X) h fun x ρ1 v G1 H1 E1 t1 o1 r1 h1 => qb ρ1 σ G1 H1 _ E1 (GdS.bind (Rel1 := RV X) h1 fun y ρ2 u G2 H2 E2 t2 o2 r2 h2 => ?_))⟩
  refine ⟨v, u, rfl, h2 _ G2 H2 ((E2.setd (Rep.sub t2.g r1) hioi).setd r2 hioj) (Step.refl _ _ _) fun z hz => .inl (own_set E2.len (own_set (by rw [List.length_set, List.length_set]; exact E2.len) hz))⟩
/-- both new lists of their own -/
def parOwnS (i j : Nat) (la lb : GE (List D)) : GS := fun ρ => (la ρ).bindS fun xs ρ1 => match lb ρ1 with
  | .ok ys ρ2 => .nx ((ρ2.set i (.own xs)).set j (.own ys))
  | _ => .bad
theorem SX.parOwn {i j : Nat} {st : Stmt} (hij : i ≠ j) (hioi : ∀ p ∈ c.io, p.1 ≠ i) (hioj : ∀ p ∈ c.io, p.1 ≠ j) (hp : ∀ ta, PA X [a, b] ta → PS X st (tPar i j ta)) (ha : LX X c W a la) (hb : LX X c W b lb)
    (hs : starEach (a :: [b]) X.env = (false, eval a X.env) :: starEach [b] X.env := by rfl) (hs2 : starEach (b :: []) X.env = (false, eval b X.env) :: starEach [] X.env := by rfl) : SX X c W st (parOwnS i j la lb) := by
  obtain ⟨ta, pa, qa⟩ := ha
  obtain ⟨tb, pb, qb⟩ := hb
  refine ⟨_, hp _ (pa_cons pa (pa_cons pb pa_nil hs2) hs), fun ρ σ G H D' E h => qa ρ σ G H _ E (GdS.bindL (Q := fun x H1 => tCons tb tNil σ H1 fun xs H2 => ∃ v w, x :: xs = [v, w] ∧ D'.nx ((σ.set i (some v)).set j (some w)) H2) h fun xs ρ1 p vs G1 H1 E1 t1 o1 h0 hp1 hg1 no1 hr1 h1 => ?_)⟩
  refine qb ρ1 σ G1 H1 _ E1 ?_
  cases q : lb ρ1 with
  | bad => simp only [q] at h1; exact h1
  | er y ρ2 => simp only [q] at h1; exact h1.elim
  | ok ys ρ2 =>
    simp only [q] at h1
    intro p2 ws G2 H2 E2 t2 o2 h02 hp2 hg2 no2 hr2
    have hp1' : H2 p = some (.lst vs) := t2.k _ _ hp1 no1 fun ps z => by cases z
    have hg1' : G2 p = none := by
      cases z : G2 p with
      | none => rfl
      | some o =>
        rcases t2.n p o z with y | y | y
        · rw [hg1] at y; cases y
        · rw [hp1] at y; cases y
        · exact absurd y no1
    have no1' : ¬ Own ρ2 σ p := fun z => by
      rcases o2 p z with y | y
      · exact no1 y
      · rw [hp1] at y; cases y
    have E3 := E2.setown hp1' hg1' no1' (Reps.sub t2.g hr1) hioi
    have npp : p2 ≠ p := fun z => by rw [z, hp1] at h02; cases h02
    have no3 : ¬ Own (ρ2.set i (.own xs)) (σ.set i (some (.ref p))) p2 := fun z => by
      rcases own_setown E2.len z with y | y
      · exact no2 y
      · exact npp y
    refine ⟨.ref p, .ref p2, rfl, h1 _ G2 H2 (E3.setown hp2 hg2 no3 hr2 hioj) (t1.trans t2 o1) fun z hz => ?_⟩
    rcases own_setown E3.len hz with y | y
    · rcases own_setown E2.len y with y2 | y2
      · rcases o2 z y2 with y3 | y3
        · exact o1 z y3
        · exact .inr (t1.d z y3)
      · subst y2; exact .inr h0
    · subst y; exact .inr (t1.d _ h02)
/-! ### raise C(e), C an own exception class whose __init__ keeps its argument as a field -/
/-- __init__(self, v): self.f = v -/
def spInit (K : PySem.W.Frag) (fl : Str) : Sp := fun vs H Q _ => ∃ (a C : Addr) (v : V), vs = [.ref a, v] ∧ OexC K C ∧ PySem.W.findIn K (.ref C) fl = some none ∧ H a = some (exo a C none) ∧ ∀ dx, H dx = none → dx ≠ a → Q .non (upd (upd H dx (exd dx [(fl, v)])) a (exo a C (some dx)))
theorem init_ok {P : Program} {w : World} {mg : Str → Option Value} {base : Heap} {x qual fl : Str} {st : Stmt} {f : Addr} {fd : FuncData} {N ps : List Str} {p1 p2 p3 p4 : Pos} {nv : Str} {dvs : List V} {kws : List (Str × V)} (F : FunD K x qual (defArgs st) (defBody st) (defScope st) dvs kws f fd) (S : FnScope N ps (defScope st)) (hps : ps.length = 2) (hN2 : N.length = 2) (hb : defBody st = [.Assign [.Attribute (.Name "self" p1) fl p2] (.Name nv p3) p4])
    (h0 : N[0]? = some ("self" : Str)) (h1 : N[1]? = some nv) (v0 : Vis (defScope st) "self") (v1 : Vis (defScope st) nv) (hd : (nv == ("__debug__" : Str)) = false) (hcd : (nv == ("__classdict__" : Str)) = false) : FnOk P w K mg base CX0 1 f fd ps (spInit K fl) := by
  refine F.ok S (fun vs H Q E h => ?_) (fun cdv A outer s H vs Q E hr h => ?_)
  · obtain ⟨a, C, v, rfl, _⟩ := h
    rw [hps]; rfl
  · obtain ⟨a, C, v, rfl, T, hno, ha, q⟩ := h
    rw [hb]
    refine ⟨_, pss_one (ps_ost (pe_var (i := 0) h0 v0) (pe_var (i := 1) h1 v1 hd hcd)), ?_⟩
    have es : start N [V.ref a, v] = [some (.ref a), some v] := by unfold start; rw [hN2]; rfl
    rw [es]
    exact ⟨v, rfl, .ref a, rfl, a, C, rfl, T, hno, .inl ⟨ha, fun dx n ne => q dx n ne⟩⟩
def raiseS (cls fl : Str) (ge : GE D) : GS := fun ρ => (ge ρ).bindS fun d ρ1 => .er ⟨cls, [(fl, d)]⟩ ρ1
theorem SX.raise {x fl : Str} {C fI : Addr} {k : Nat} {fd : FuncData} {ps : List Str} {p pos pos2 : Pos} (hc : X.calm = true) (tk : Takes X W) (T : OexC X.K C) (hno : PySem.W.findIn X.K (.ref C) fl = some none) (iC : PySem.W.findIn X.K (.ref C) "__init__" = some (some (.ref fI))) (tI : PySem.W.typeIn X.K (.ref fI) = some (.type "function"))
    (F1 : FnOk X.prog X.w X.K X.mg X.base CX0 k fI fd ps (spInit X.K fl)) (hr : Room (k + 1) X.A) (hb : Binds X.K fd ps []) (hm : X.mg x = some (.ref C)) (he : EX X c W e ge) (hg : Gl X x := by rfl)
    (hdb : (x == ("__debug__" : Str)) = false := by decide) (hst : starEach (e :: []) X.env = (false, eval e X.env) :: starEach [] X.env := by rfl) (hpl : (backTo pos (starEach [] X.env)).any (·.1) = false := by rfl) :
    SX X c W (.Raise (some (.Call (.Name x p) [e] [] pos)) none pos2) (raiseS x fl ge) := by
  obtain ⟨t, pe, q⟩ := he
  refine ⟨_, ps_raise hc tk (pmk_oex T iC tI F1 hr hb .nil pass0 hg hm (pa_cons pe pa_nil hst) hdb hst hpl), fun ρ σ G H D' E h => q ρ σ G H _ E (GdS.bind (Rel1 := RV X) h fun d ρ1 v G1 H1 E1 t1 o1 r1 h1 => ?_)⟩
  refine ⟨by show 1 ≤ 1000; decide, fun a ha => ⟨a, C, v, rfl, T, hno, upd_same, fun dx hdx hne => ⟨rfl, dx, [(fl, v)], upd_same, ?_, ?_, ?_⟩⟩⟩
  · rw [upd_ne hne, upd_same]
  · rw [upd_ne hne] at hdx
    exact hdx
  · rw [upd_ne hne] at hdx
    have agree : ∀ b o, H1 b = some o → (upd (del (upd (upd (upd H1 a (exo a C none)) dx (exd dx [(fl, v)])) a (exo a C (some dx))) a) dx (.xd [(fl, v)])) b = some o := fun b o e => by
      have n1 : b ≠ dx := ne_of_none e hdx
      have n2 : b ≠ a := ne_of_none e ha
      rw [upd_ne n1, del_ne n2, upd_ne n2, upd_ne n1, upd_ne n2]
      exact e
    have st : StepN G1 H1 G1 (upd (del (upd (upd (upd H1 a (exo a C none)) dx (exd dx [(fl, v)])) a (exo a C (some dx))) a) dx (.xd [(fl, v)])) := ⟨Sub.refl _, fun _ _ z => .inl z, agree, fun b o z => agree b o (E1.sub b o z), id⟩
    exact h1 C dx σ G1 _ (E1.stepN st) (st.step _) (OwnS.refl _ _ _) ⟨hm, [(fl, v)], upd_same, .cons ⟨rfl, r1⟩ .nil⟩
end
end PL
end L2
namespace L2
namespace PL
open PySem PySem.Spec PyProof.Rows
theorem room100 {A : Around} {k : Nat} (hr : Room k A) : A.units + 100 < cLine := by have := hr.un; omega
def negF : D → Option D
  | .int i => some (.int (-i))
  | _ => none
theorem o1_neg {X : Cx} : Op1 X (rU fun i => .int (-i)) negF := fun G H x dx d Q s r e k => by
  cases r <;> first | (simp only [negF, reduceCtorEq] at e; done) | skip
  cases e
  exact ⟨_, rfl, k _ G H (StepN.refl s) (.int _)⟩
end PL
end L2
namespace L2
namespace PL
open PySem PySem.Spec PyProof.Rows
theorem EX.gint {X : Cx} {c : Cz} {W : WX} {x : Str} {i : Int} {pos : Pos} (hm : ∃ t, X.mg x = some (.int i t)) (hg : Gl X x := by rfl) (hd : (x == ("__debug__" : Str)) = false := by decide) : EX X c W (.Name x pos) (cE (.int i)) := by
  obtain ⟨t, e⟩ := hm
  exact EX.const (pe_glob (v := .int i) hg e ⟨t, rfl⟩ hd) fun _ => .int _
theorem EX.gstr {X : Cx} {c : Cz} {W : WX} {x y : Str} {pos : Pos} (hm : ∃ t, X.mg x = some (.str y t)) (hg : Gl X x := by rfl) (hd : (x == ("__debug__" : Str)) = false := by decide) : EX X c W (.Name x pos) (cE (.str y)) := by
  obtain ⟨t, e⟩ := hm
  exact EX.const (pe_glob (v := .str y) hg e ⟨t, rfl⟩ hd) fun _ => .str _
theorem EX.gref {X : Cx} {c : Cz} {W : WX} {x : Str} {u : Addr} {d : D} {pos : Pos} (hm : X.mg x = some (.ref u)) (hr : ∀ G, Rep X.K G (.ref u) d) (hg : Gl X x := by rfl) (hd : (x == ("__debug__" : Str)) = false := by decide) : EX X c W (.Name x pos) (cE d) :=
  EX.const (pe_glob (v := .ref u) hg hm rfl hd) hr
end PL
end L2
set_option Elab.async false
set_option linter.all false
set_option maxRecDepth 100000
set_option maxHeartbeats 2000000
namespace L2
namespace PL
open PySem PySem.Spec PyProof.Rows
/-! ### {k: v, ..}[e], texts told as keys of whole numbers -/
def disK (kvs : List (Str × Int)) : List (Key × V) := kvs.map fun p => (Sum.inr p.1, V.int p.2)
def dictF (kvs : List (Str × Int)) : D → Option D
  | .str x => match valV (mergeK [] (disK kvs)) (Sum.inr x) with
    | some (.int i) => some (.int i)
    | _ => none
  | _ => none
def trsOf (kvs : List (Str × Int)) : List (TE × TE) := kvs.map fun p => (tC (.str p.1), tC (.int p.2))
theorem tPairs_of {σ : St} {H : Hp} : ∀ {kvs : List (Str × Int)} {Q : List (V × V) → Hp → Prop}, Q ((disK kvs).map fun kv => (kV kv.1, kv.2)) H → tPairs (trsOf kvs) σ H Q
  | [], Q, h => h
  | p :: r, Q, h => tPairs_of (kvs := r) (Q := fun ps H3 => Q ((V.str p.1, V.int p.2) :: ps) H3) h
theorem EX.dictIx {X : Cx} {c : Cz} {W : WX} {keys : List (Option Expr)} {values : List Expr} {e : Expr} {g : GE D} {pos pos' : Pos} {kvs : List (Str × Int)} (hu : X.A.units + 64 < cLine) (hp : PPs X pos keys values (trsOf kvs)) (hl15 : kvs.length ≤ 15) (hall : keys.all (·.isSome) = true) (hl : keys.length = values.length) (h0 : keys ≠ [])
    (h15 : keys.length ≤ 15) (he : EX X c W e g) (hs : NoSl e := by exact (fun _ _ => rfl)) : EX X c W (.Subscript (.Dict keys values pos) e pos') (unE (dictF kvs) g) := by
  obtain ⟨t, pe, q⟩ := he
  refine ⟨_, pe_dget (by omega) (pe_disp hp hall hl h0 h15) pe hs, fun ρ σ G H Q E hq => fun p hp0 => tPairs_of ⟨upd_same, disK kvs, rfl, by unfold disK; rw [List.length_map]; exact hl15, ?_⟩⟩
  have hpG : G p = none := by
    cases z : G p with
    | none => rfl
    | some o => rw [E.sub p o z] at hp0; cases hp0
  have eu : upd (upd H p (.dK [])) p (.dK (mergeK [] (disK kvs))) = upd H p (.dK (mergeK [] (disK kvs))) := by
    funext b
    by_cases hb : b = p
    · rw [hb, upd_same, upd_same]
    · rw [upd_ne hb, upd_ne hb, upd_ne hb]
  rw [eu]
  have st : StepN G H (upd G p (.dK (mergeK [] (disK kvs)))) (upd H p (.dK (mergeK [] (disK kvs)))) := StepN.new E.sub hp0
  refine q ρ σ _ _ _ (E.stepN st) (Gd.bind (Gd.shift hq (st.step _) (OwnS.refl _ _ _)) fun d ρ1 v G1 H1 E1 t1 r1 h1 => ?_)
  obtain ⟨d', e1, k⟩ := Gd.opt h1 E1
  have hd : H1 p = some (.dK (mergeK [] (disK kvs))) := E1.sub _ _ (t1.g _ _ upd_same)
  cases r1 with
  | str x =>
    unfold dictF at e1
    cases z : valV (mergeK [] (disK kvs)) (Sum.inr x) with
    | none => simp only [z] at e1; cases e1
    | some u =>
      cases u with
      | int i =>
        simp only [z] at e1
        cases e1
        refine ⟨p, .int i, rfl, ?_, k _ _ _ (StepN.refl E1.sub) (.int i)⟩
        have w := DGet.k (k := Sum.inr x) hd
        rw [z] at w
        exact w
      | _ => simp only [z] at e1; cases e1
  | _ => cases e1
end PL
end L2
set_option Elab.async false
set_option linter.all false
set_option maxRecDepth 100000
set_option maxHeartbeats 4000000
namespace L2
namespace PL
open PySem PySem.Spec PyProof.Rows
/-! ### try: body / except x as n: suite / except y as n: suite .. (one name n, slot i) -/
def wAsM (K : PySem.W.Frag) (i : Nat) (Wout : WX) (D' : Ends) : List (Value × (Addr → Value → Option Addr → TS)) → WX
  | [] => Wout
  | (k, ts) :: r => fun cls d σ H => ∃ b, PySem.W.exmOne K cls k = some b ∧
      (b = true → ∀ a, H a = none → ts a cls d ⟨fun σ' H' => D'.nx (σ'.set i none) H', D'.rt, fun σ' H' => D'.bk (σ'.set i none) H', fun σ' H' => D'.ct (σ'.set i none) H'⟩ (σ.set i (some (.ref a))) H) ∧
      (b = false → wAsM K i Wout D' r cls d σ H)
inductive HdsAs (X : Cx) (n : Str) : List ExceptHandler → List (Value × (Addr → Value → Option Addr → TS)) → Prop
  | nil : HdsAs X n [] []
  | cons {x : Str} {k : Value} {ts : Addr → Value → Option Addr → TS} {b₀ : Stmt} {suite : List Stmt} {np hp : Pos} {hds : List ExceptHandler} {l : List (Value × (Addr → Value → Option Addr → TS))} (hc : Names X x k)
      (su : ∀ (a : Addr) (oe : Obj) (cls : Value) (d : Option Addr) (pn : List (Addr × Obj)), Zc cls d oe → (∃ vs, oe.data = .fields vs) → PSs (X.suite a ((a, oe) :: pn)) (b₀ :: suite) (ts a cls d))
      (r : HdsAs X n hds l) : HdsAs X n (.ExceptHandler (some (.Name x np)) (some n) (b₀ :: suite) hp :: hds) ((k, ts) :: l)
section
variable {X : Cx} {n : Str} {i : Nat} {body : List Stmt} {hd0 : ExceptHandler} {hds : List ExceptHandler} {l : List (Value × (Addr → Value → Option Addr → TS))} {pos : Pos} {tb : WX → TS} {Wout : WX}
theorem ps_tryAs (hs : X.stack = X.env :: X.outer) (hf : X.env.frame = some X.env.locals) (hN : X.N.Nodup) (hi : X.N[i]? = some n) (hln : X.env.kindOf n = some .local) (tk : Takes X Wout)
    (hb : ∀ (W : WX) (pn : List (Addr × Obj)) (xe : Value → Shared → Prop), Takes (X.tr pn xe) W → PassesOwn (model X.prog X.w) X.A X.env xe → PSs (X.tr pn xe) body (tb W))
    (hh : HdsAs X n (hd0 :: hds) l) : PS X (.Try body (hd0 :: hds) [] [] pos) (fun D' σ H => tb (wAsM X.K i Wout D' l) D' σ H) := by
  constructor
  intro pins s σ H D' I h
  have hok := I.ok
  have hfr : X.A.frames = some (X.env :: X.outer) := hs ▸ hok.frames
  have hlc : Loc X.env.scope n := Or.inl hln
  apply wpAny_Try_except
  apply wpAny_mono ((hb (wAsM X.K i Wout D' l) (X.pn ++ pins)
    (fun e s1 => wpAny (model X.prog X.w) X.A (noteFrame e X.env) (fun _ s2 => wpAny (model X.prog X.w) X.A (setFlight e none)
      (fun _ s3 => wpAny (model X.prog X.w) X.A (handleBy e X.env (hd0 :: hds)) (SP X pins D') X.xe s3) X.xe s2) X.xe s1) ?caught PassesOwn.looking).run [] s σ H D' (I.toTry _) h) ?after (fun _ _ z => z)
  case after =>
    intro fl s1 z
    cases fl with
    | next => exact let ⟨σ2, H2, J2, q⟩ := z; wpAny_execs_nil ⟨σ2, H2, J2.ofTry hok, q⟩
    | brk => exact let ⟨σ2, H2, J2, q⟩ := z; ⟨σ2, H2, J2.ofTry hok, q⟩
    | cont => exact let ⟨σ2, H2, J2, q⟩ := z; ⟨σ2, H2, J2.ofTry hok, q⟩
    | ret u => exact let ⟨v, σ2, H2, J2, r, q⟩ := z; ⟨v, σ2, H2, J2.ofTry hok, r, q⟩
  case caught =>
    intro u s' z
    obtain ⟨a, B, sI, pins2, σ2, H2, cls, d, rfl, J0, nb, up, sky, na, os, ag, w⟩ := z
    have J : Inv X pins σ2 H2 sI := J0.ofTry hok
    have sky2 : Sky B (X.env :: X.outer) a (Zc cls d) X.env.locals s'.heap := hs ▸ sky
    show wpAny (model X.prog X.w) X.A (noteFrame (.ref a) X.env) _ _ _
    refine Sky.land Zc.steady hfr hf sky2 fun g3 fl3 up3 => ?_
    have J3 : Inv X pins σ2 H2 { s' with heap := g3 } := J.landed nb fl3.1 (up.trans up3) os ag
    obtain ⟨oe, vs, he, hz, hdat⟩ := fl3.there
    have offFr : a ∉ frs (X.env :: X.outer) := fun hm => by
      obtain ⟨_, o2, e2, hn⟩ := fl3.2.2.1.mem hm
      rw [he] at e2
      cases e2
      exact hn _ hdat
    have offL : a ≠ X.env.locals := fun z => offFr (List.mem_filterMap.mpr ⟨X.env, List.mem_cons_self, by rw [hf, z]⟩)
    have offS : a ∉ X.fs := fun hm => by
      obtain ⟨e1, k1, k2⟩ := List.mem_filterMap.mp hm
      exact offFr (List.mem_filterMap.mpr ⟨e1, List.mem_cons_of_mem _ k1, k2⟩)
    have S3 := J3.suite he hdat na offL offS
    have LT : PySem.W.Looks (model X.prog X.w) g3 (typeOf (.ref a)) cls := fun _ _ _ _ k q => wpAny_typeOf_ref (k _ _ he) (hz.1 ▸ q)
    have all : ∀ {hds2 : List ExceptHandler} {l2 : List (Value × (Addr → Value → Option Addr → TS))}, HdsAs X n hds2 l2 → wAsM X.K i Wout D' l2 cls d σ2 H2 →
        wpAny (model X.prog X.w) X.A (handleBy (.ref a) X.env hds2) (SP X pins D') X.xe { s' with heap := g3 } := by
      intro hds2 l2 hk
      induction hk with
      | nil =>
        intro w
        apply wpAny_handleBy_nil
        obtain ⟨_, _, _, oe2, vs2, Tb, _, _, he2, _, hd2, hv1, _⟩ := id fl3
        unfold PySem.passOn
        refine wpAny_bind (wpAny_field he2 hd2 hv1 ?_)
        rw [if_neg (show ¬ ((Value.ref Tb == Value.none) = true) by simp)]
        have out : wpAny (model X.prog X.w) X.A (setFlight (.ref a) X.env.frame)
            (fun _ s4 => wpAny (model X.prog X.w) X.A (throw (.ref a) : Sem Flow) (SP X pins D') X.xe s4) X.xe { s' with heap := g3 } := by
          rw [hf]
          refine HandSPX.setFlight_upZ fl3 fun g4 hh4 up4 => wpAny_throw (tk _ _ ?_)
          refine ⟨a, B, sI, pins, σ2, H2, cls, d, rfl, J, nb, (up.trans up3).trans up4, .inr (.inr ?_), na, os, ag, w⟩
          exact hs ▸ hh4
        first
          | exact wpAny_bind (wpAny_pure (wpAny_bind out))
          | exact wpAny_bind out
      | @cons x k ts b₀ suite np hp hds3 l3 hc su r ih =>
        intro w
        obtain ⟨b, m, yes, no⟩ := w
        refine wpAny_handleBy_cons (codeAny_handlers_test ?_) (fun q => by cases q)
        have LM := PySem.W.exm_one (M := model X.prog X.w) J3.kIn LT m
        have asked : ∀ {Q : Value → Shared → Prop} {E : Value → Shared → Prop}, Q k { s' with heap := g3 } →
            wpAny (model X.prog X.w) (X.A.mark (some (.ref a))) (eval (.Name x np) X.env) Q E { s' with heap := g3 } := fun {Q E} q => by
          obtain ⟨hg, hdb, hm | ⟨hm, hv, hnn⟩⟩ := hc
          · exact ld_glob (X := X.suite a ((a, oe) :: (X.pn ++ pins))) S3 hg hm q hdb
          · exact ld_blt (X := X.suite a ((a, oe) :: (X.pn ++ pins))) S3 hg hm hv q hnn hdb
        refine asked (LM.here ?_)
        cases b with
        | false => exact ih (no rfl)
        | true =>
          apply codeAny_handlers_suite_as
          refine HandSPX.lands_againZ fl3 fun g4 fl4 up4 => ?_
          have J4 : Inv X pins σ2 H2 { s' with heap := g4 } := J.landed nb fl4.1 ((up.trans up3).trans up4) os ag
          obtain ⟨oe4, vs4, he4, hz4, hdat4⟩ := fl4.there
          refine store_ok (X := X.suite a ((a, oe4) :: (X.pn ++ pins))) (v := .ref a) (J4.suite he4 hdat4 na offL offS) hN hi hlc rfl (fun s5 S5 => ?_) (Or.inr hln)
          refine wpAny_mono ((su a oe4 cls d (X.pn ++ pins) hz4 ⟨_, hdat4⟩).run [] s5 _ H2 _ S5 (yes rfl a na)) (fun fl s6 z => ?_) (fun _ _ z => z.elim)
          have fin : ∀ {σ6 : St} {H6 : Hp} {Q : Shared → Prop}, Inv (X.suite a ((a, oe4) :: (X.pn ++ pins))) [] σ6 H6 s6 → (∀ s7, Inv X pins (σ6.set i none) H6 s7 → Q s7) →
              wpAny (model X.prog X.w) X.A (do bindName X.env n .none; unbindBehindTheSuite X.env n hp) (fun _ s7 => Q s7) X.xe s6 :=
            fun S6 q => gone_ok (S6.unsuite hok) hN hi hln q
          cases fl with
          | next => exact let ⟨_, _, S6, q6⟩ := z; fin S6 fun _ J7 => ⟨_, _, J7, q6⟩
          | brk => exact let ⟨_, _, S6, q6⟩ := z; fin S6 fun _ J7 => ⟨_, _, J7, q6⟩
          | cont => exact let ⟨_, _, S6, q6⟩ := z; fin S6 fun _ J7 => ⟨_, _, J7, q6⟩
          | ret u => exact let ⟨_, _, _, S6, r6, q6⟩ := z; fin S6 fun _ J7 => ⟨_, _, _, J7, r6, q6⟩
    exact all hh w
end
/-! ### isinstance(e, C), the answer True -/
def rIsP (K : PySem.W.Frag) (a C : Addr) : List V → Hp → VK → Prop := fun xs H Q => ∃ (k : V) (B : Addr), xs = [.ref a, k] ∧ (∀ u, RelV k u → u = .ref B) ∧ PySem.W.isIn K (.ref C) B = true ∧ Q (.bl true) H
theorem call_isP {X : Cx} {a C : Addr} {oe : Obj} {d : Option Addr} {pn : List (Addr × Obj)} (hz : Zc (.ref C) d oe) : CallR (X.suite a ((a, oe) :: pn)) (.builtin "isinstance") (rIsP X.K a C) := by
  intro pins s σ H xs us Q I r h
  obtain ⟨k, B, rfl, hk, e, q⟩ := h
  cases r with
  | cons rx rr =>
    cases rr with
    | cons rt rr =>
      cases rr
      cases rx
      have ek := hk _ rt
      subst ek
      obtain ⟨hget, _⟩ := I.pin (a, oe) (List.mem_append.mpr (.inl List.mem_cons_self))
      have ty : ∀ M : Model, PySem.W.Looks M s.heap (typeOf (.ref a)) (.ref C) := fun M A Q E s k q => wpAny_typeOf_ref (k _ _ hget) (hz.1 ▸ q)
      exact PySem.call_isinstance (S := fun _ R s' => s' = s ∧ R (.ok (.ret (.bool true))) s)
        (fun prog w A R s' hs => by
          obtain ⟨hs1, hs2⟩ := hs
          subst hs1
          exact PySem.isinstance_outer (PySem.W.isi_nested I.kIn (ty _) e hs2) (by intro z; cases z))
        ⟨rfl, ⟨.bl true, H, I, rfl, q⟩⟩
end PL
end L2
set_option Elab.async false
set_option linter.all false
set_option maxRecDepth 100000
set_option maxHeartbeats 4000000
namespace L2
namespace PL
open PySem PySem.Spec PyProof.Rows LamX
/-! ### a lambda is made: nothing else changes -/
def MadeT (P : Addr) (q : Str) (H H1 : Hp) : Prop := H1 = H ∨ ∃ (c' : Addr) (ps ps' : Array Value), H P = some (.tbl ps) ∧ H c' = none ∧ H1 = upd (upd H P (.tbl ps')) c' (CodeO c' q)
section
variable {X : Cx} {pins : List (Addr × Obj)} {σ : L2.St} {H : Hp} {s : Shared}
theorem lam_make3 {T : List (Addr × Str)} {c P : Addr} {params : Arguments} {body : Expr} {scope : Scope} {pos : Pos} {E : Value → Shared → Prop} {Q : Value → Shared → Prop} (I : Inv X pins σ H s) (TB : TabB X.base X.mg c P) (hc : X.env.code = .ref c)
    (hm : (P, X.env.qual ++ "<lambda>") ∈ T) (hu : ∀ p ∈ T, p.1 = P → p.2 = X.env.qual ++ "<lambda>") (hT : Tabs T H) (hdef : defaultsOf params X.env = ([], [])) (hfr : ∀ y ∈ scope.names, y.2 = .free → ∃ c, X.env.cells.lookup y.1 = some c)
    (k : ∀ (f c' : Addr) (pm ctv : Value) (H1 : Hp) (s1 : Shared), Inv X pins σ H1 s1 → MadeT P (X.env.qual ++ "<lambda>") H H1 → Tabs T H1 →
      s1.heap.get? f = some (PySem.W.kla_obj "<lambda>" (X.env.qual ++ "<lambda>") params body scope (cloFrom X.env.cells scope.names []) pm c' ctv) →
      H1 f = none → f ∉ frs X.stack → H1 c' = some (CodeO c' (X.env.qual ++ "<lambda>")) → Q (.ref f) s1) :
    wpAny (model X.prog X.w) X.A (eval (.Lambda params body scope pos) X.env) Q E s := by
  obtain ⟨ps, hP, hok, hall⟩ := hT _ hm
  apply PySem.W.kla_eval hdef
  have obP : s.heap.get? P = some { cls := .none, data := .fields ps } := I.hok P _ hP
  have far : ∀ f, s.heap.objs.size ≤ f → f ∉ frs X.stack := fun f hf z => (List.mem_cons.mp (I.stkSub _ z)).elim (fun e => by
    have z1 := I.lt
    rw [← e] at z1
    exact absurd (Nat.lt_of_lt_of_le z1 hf) (Nat.lt_irrefl _)) fun e => I.nofs hf e
  cases hfind : codeAmong pos ps.toList with
  | some cv =>
    obtain ⟨c', e, hco⟩ := hall pos cv hfind
    subst e
    refine PySem.W.kla_makeFunctionHit (mg := X.mg) (c := c) (P := P) (ps := ps) (closure_ok hfr) I.ok.glob (I.mod.glob.keeps I.bk) hc (TB.code.keeps I.bk) obP hok hfind (TB.bm.keeps I.bk) fun ctv h' tk hx hsz => ?_
    refine k h'.objs.size c' ((X.mg "__name__").getD .none) ctv H _ (I.kept (t' := tk) fun b o e => Heap.get?_push_of_some _ (hx b o e)) (.inl rfl) hT (Heap.get?_push_size _ rfl) (I.hok.fresh hsz) (far _ hsz) hco
  | none =>
    refine PySem.W.kla_makeFunction (mg := X.mg) (c := c) (P := P) (ps := ps) (closure_ok hfr) I.ok.glob (I.mod.glob.keeps I.bk) hc (TB.code.keeps I.bk) obP hok hfind TB.gP (TB.bm.keeps I.bk) fun c' ctv h' tk hx hge hlt hrec htb => ?_
    obtain ⟨c2, oc, vs, t, e2, hoc, hdat, hname⟩ := hrec
    cases e2
    have hsz : s.heap.objs.size ≤ h'.objs.size := by omega
    have n0 : H c' = none := I.hok.fresh hge
    have I1 := inv_table (t' := tk) (more := #[rawInt pos.line, rawInt pos.col, .ref c'])
      (h' := h'.push (PySem.W.kla_obj "<lambda>" (X.env.qual ++ "<lambda>") params body scope (cloFrom X.env.cells scope.names []) ((X.mg "__name__").getD .none) c' ctv)) I hP
      (fun b o hb e => Heap.get?_push_of_some _ (hx b o hb e)) (Heap.get?_push_of_some _ htb) hge ⟨oc, vs, t, Heap.get?_push_of_some _ hoc, hdat, hname⟩
    have lst : (ps ++ #[rawInt pos.line, rawInt pos.col, .ref c']).toList = ps.toList ++ [rawInt pos.line, rawInt pos.col, .ref c'] := by simp
    have still : ∀ b o, H b = some o → (∀ qs, o ≠ .tbl qs) → upd (upd H P (.tbl (ps ++ #[rawInt pos.line, rawInt pos.col, .ref c']))) c' (CodeO c' (X.env.qual ++ "<lambda>")) b = some o := fun b o e n => by
      rw [upd_ne (ne_of_none e n0), upd_ne (fun z => n ps (Option.some.inj (e.symm.trans (by rw [z]; exact hP))))]
      exact e
    refine k h'.objs.size c' ((X.mg "__name__").getD .none) ctv _ _ I1 (.inr ⟨c', ps, _, hP, n0, rfl⟩) (fun p hp => ?_) (Heap.get?_push_size _ rfl) ?_ (far _ hsz) upd_same
    · by_cases hb : p.1 = P
      · rw [hu p hp hb, hb]
        refine ⟨_, by rw [upd_ne (ne_of_none hP n0), upd_same], by rw [lst]; exact PySem.TriplesOk_snoc _ _ _ _ hok, fun p2 cv hcv => ?_⟩
        rw [lst] at hcv
        rcases among_app _ hok hcv with z | z
        · obtain ⟨c0, e1, e2⟩ := hall p2 cv z
          exact ⟨c0, e1, still _ _ e2 codeO_ne⟩
        · exact ⟨c', z, upd_same⟩
      · obtain ⟨qs, a1, a2, a3⟩ := hT p hp
        refine ⟨qs, by rw [upd_ne (ne_of_none a1 n0), upd_ne hb]; exact a1, a2, fun p2 cv hcv => ?_⟩
        obtain ⟨c0, e1, e2⟩ := a3 p2 cv hcv
        exact ⟨c0, e1, still _ _ e2 codeO_ne⟩
    · have hPs : P < s.heap.objs.size := Heap.lt_size obP
      rw [upd_ne (Nat.ne_of_gt hlt : h'.objs.size ≠ c'), upd_ne (Nat.ne_of_gt (Nat.lt_of_lt_of_le hPs hsz) : h'.objs.size ≠ P)]
      exact I.hok.fresh hsz
end
def tLamT (T : List (Addr × Str)) (P : Addr) (q : Str) (TT : (XK → Hp → VK → Prop) → Hp → VK → Prop) (t : XK → TE) : TE := fun σ H Q => Tabs T H ∧ ∀ H1, MadeT P q H H1 → Tabs T H1 → TT (fun E H' Q' => t E σ H' Q') H1 Q
/-- x(lambda: body) -/
theorem pe_lamT {X : Cx} {T : List (Addr × Str)} {TT : (XK → Hp → VK → Prop) → Hp → VK → Prop} {x a : Str} {g c P : Addr} {k : Nat} {pg : Arguments} {bg : List Stmt} {sg : Scope} {dV kV doc pm cdv ct oc : Value} {an od : Option Addr} {osl : Array (Option Value)} {Ng : List Str}
    {params : Arguments} {body : Expr} {scope : Scope} {t : XK → TE} {p lpos pos : Pos} (hg : Gl X x) (hm : X.mg x = some (.ref g)) (hk : PySem.W.keepIn X.K (.ref g) = true)
    (lk : X.K.lookup g = some ⟨oc, od, .func (PySem.W.fnOf x x pg bg sg dV kV doc pm an cdv ct), osl⟩) (hcg : PySem.W.codeIn X.K cdv x = true) (hb : L2.Binds X.K (PySem.W.fnOf x x pg bg sg dV kV doc pm an cdv ct) [a] []) (Sg : FnScope Ng [a] sg) (hNg : Ng[0]? = some a) (hva : Vis sg a)
    (hG : GivesTo X Ng x sg g cdv bg a (X.env.qual ++ "<lambda>") TT)
    (TB : TabB X.base X.mg c P) (hcode : X.env.code = .ref c) (hmT : (P, X.env.qual ++ "<lambda>") ∈ T) (hu : ∀ p ∈ T, p.1 = P → p.2 = X.env.qual ++ "<lambda>") (hr : Room (k + 2) X.A) (L : LamS X.env.scope scope) (hdef : defaultsOf params X.env = ([], []))
    (hbind : ∀ (q : Str) (cl : List (Str × Addr)) (pm cv ctv : Value), bindArgs (PySem.W.kla_fn "<lambda>" q params body scope cl pm cv ctv) ⟨[], []⟩ = pure [])
    (hbody : ∀ (A : Around) (outer : List Env) (s : Shared) (H : Hp) (E : XK) (f c' : Addr), Room k (A.deeper (lamEnv X scope s.heap.objs.size f c')) → PE (lamCx X A outer s H E scope f c') body (t E))
    (hdb : (x == ("__debug__" : Str)) = false := by decide) (hd : (a == ("__debug__" : Str)) = false := by decide) (hcd : (a == ("__classdict__" : Str)) = false := by decide) :
    PE X (.Call (.Name x p) [.Lambda params body scope lpos] [] pos) (tLamT T P (X.env.qual ++ "<lambda>") TT t) := by
  constructor
  intro pins s σ H Q I h
  obtain ⟨hT, h⟩ := h
  apply wpAny_Call_Name_kw
  apply ld_glob I hg hm _ hdb
  refine PySem.W.callWith_K (h₀ := X.base) I.ok.mod.kin hk ?_ (by rfl) (by rfl)
  show wpAny _ _ (spliced ((false, eval (.Lambda params body scope lpos) X.env) :: backTo pos (starEach [] X.env))) _ _ s
  refine Calls.spliced_cons (lam_make3 I TB hcode hmT hu hT hdef (L.has I.ok) fun f c' pm' ctv H1 s1 I1 mT T1 hf hfn hfr hco => Calls.spliced_nil ⟨I1.kIn, ?_⟩)
  refine wpAny_call (codeAny_mono (run_ofS (CX := C8.CX0) (Q := Q) (E := C8.E0) (N := Ng) (ps := [a]) (us := [.ref f]) (vs := [.ref f]) lk hcg Sg hr I1.env0 (hb s1 [.ref f] I1.kIn rfl) (.cons rfl .nil) rfl fun hr' => ?_) fun r s2 hq => ?_)
  · obtain ⟨t', ht', hq'⟩ := hG f c' s1 H1 Q (fun E H' Q' => t E σ H' Q')
      (fun W pn xe E p1 p2 tk hW => pe_act (i := 0) I1 L hf hfn hfr (hbind _ _ _ _ _) tk hW hr' (fun A outer s H hr2 => hbody A outer s H E f c' hr2) hNg hva hd hcd) hco (h H1 mT T1)
    exact ⟨t', ht'.nox, hq'⟩
  · cases r with
    | error e => exact (show False from hq).elim
    | ok fl =>
      cases fl with
      | ret u => exact I1.after hq
      | next => exact False.elim hq
      | brk => exact False.elim hq
      | cont => exact False.elim hq
theorem ER.madeT {K : PySem.W.Frag} {c : Cz} {ρ : PEnv} {σ : St} {G H H1 : Hp} {P : Addr} {q : Str} (E : ER K c ρ σ G H) (m : MadeT P q H H1) (tb : Tabs c.T H1) : ER K c ρ σ G H1 ∧ Step (fun _ => False) G H G H1 := by
  rcases m with e | ⟨c', ps, ps', hP, hc, e⟩
  · subst e
    exact ⟨E, Step.refl _ _ _⟩
  · have keep : ∀ b o, H b = some o → (∀ qs, o ≠ .tbl qs) → H1 b = some o := fun b o z n => by
      rw [e, upd_ne (ne_of_none z hc), upd_ne (fun y => n ps (Option.some.inj (z.symm.trans (by rw [y]; exact hP))))]
      exact z
    refine ⟨⟨E.len, fun i s z => ?_, fun b o z => keep b o (E.sub b o z) fun qs y => E.nt b qs (by rw [z, y]), E.nt, E.sep, tb, E.io⟩, Sub.refl _, fun _ _ z => .inl z, fun b o z _ n => keep b o z n, fun b z => ?_, id⟩
    · have y := E.slot i s z
      cases s with
      | un => trivial
      | d x =>
        cases hs : (σ[i]?.getD none) with
        | none => rw [hs] at y; exact y.elim
        | some v => rw [hs] at y; exact y
      | lams js =>
        cases hσL : (σ[i]?.getD none) with
        | none => rw [hσL] at y; exact y.elim
        | some v => rw [hσL] at y; exact LamsAt.mono y (fun b o z => z) fun b w e => keep _ _ e codeO_ne
      | own xs =>
        obtain ⟨a, us, q1, q2, q3, q4⟩ := slot_own E z
        rw [q1]
        exact ⟨a, us, rfl, keep _ _ q2 (fun qs y => by cases y), q3, q4⟩
    · by_cases hb : b = c'
      · rw [hb, e, upd_same] at z; cases z
      · rw [e, upd_ne hb] at z
        by_cases hb2 : b = P
        · rw [hb2, upd_same] at z; cases z
        · rw [upd_ne hb2] at z; exact z
end PL
end L2
set_option Elab.async false
set_option linter.all false
set_option maxRecDepth 100000
set_option maxHeartbeats 4000000
namespace L2
namespace PL
open PySem PySem.Spec PyProof.Rows LamX
/-! ### what a suite says of the exception it holds: slot 2 -/
theorem StepN.trans {G H G1 H1 G2 H2 : Hp} (a : StepN G H G1 H1) (b : StepN G1 H1 G2 H2) : StepN G H G2 H2 where
  g := a.g.trans b.g
  n := fun x o e => by
    rcases b.n x o e with h | h
    · exact a.n x o h
    · cases z : H x with
      | none => exact .inr rfl
      | some u => rw [a.k x u z] at h; cases h
  k := a.k.trans b.k
  s := b.s
  t := fun h => b.t (a.t h)
theorem XR.step {K : PySem.W.Frag} {mg : Str → Option Value} {y : Exn} {C dd : Addr} {G H G' H' : Hp} (x : XR K mg y C dd G H) (t : StepN G H G' H') : XR K mg y C dd G' H' := by
  obtain ⟨h1, fs, h2, h3⟩ := x
  exact ⟨h1, fs, t.k _ _ h2, Paired.mapP h3 fun _ _ z => ⟨z.1, Rep.sub t.g z.2⟩⟩
theorem XR.field {K : PySem.W.Frag} {mg : Str → Option Value} {y : Exn} {C dd : Addr} {G H : Hp} {fl : Str} {d : D} (x : XR K mg y C dd G H) (e : y.fs.lookup fl = some d) : ∃ fs v, H dd = some (.xd fs) ∧ fs.lookup fl = some v ∧ Rep K G v d := by
  obtain ⟨h1, fs, h2, h3⟩ := x
  suffices ∀ {l : List (Str × V)} {m : List (Str × D)}, Paired (fun (p : Str × V) (q : Str × D) => p.1 = q.1 ∧ Rep K G p.2 q.2) l m → m.lookup fl = some d → ∃ v, l.lookup fl = some v ∧ Rep K G v d by
    obtain ⟨v, e1, e2⟩ := this h3 e
    exact ⟨fs, v, h2, e1, e2⟩
  intro l m p
  induction p with
  | nil => intro z; cases z
  | @cons a b as bs hab t ih =>
    intro z
    obtain ⟨a1, a2⟩ := a
    obtain ⟨b1, b2⟩ := b
    obtain ⟨e1, e2⟩ := hab
    have e1' : a1 = b1 := e1
    subst e1'
    rw [List.lookup_cons] at z ⊢
    cases q : fl == a1 with
    | true => rw [q] at z; cases z; exact ⟨a2, rfl, e2⟩
    | false => rw [q] at z; exact ih z
abbrev ZH (X : Cx) (Ng : List Str) (x : Str) (sg : Scope) (g : Addr) (cdg : Value) (s : Shared) (H : Hp) : Cx := (cxOf C8.CX0 X.prog X.w X.K X.mg X.base Ng x sg g cdg X.A X.stack s H C8.E0).nox
section
variable {X : Cx} {Ng : List Str} {x : Str} {sg : Scope} {g : Addr} {cdg : Value} {C : Addr}
variable (X Ng x sg g cdg C) in
def IT (e : Expr) (f : Exn → Option D) : Prop := ∃ t : Addr → Addr → TE,
  (∀ s H a dd oe pn, Zc (.ref C) (some dd) oe → (∃ vs, oe.data = .fields vs) → PE ((ZH X Ng x sg g cdg s H).suite a ((a, oe) :: pn)) e (t a dd)) ∧
  ∀ a dd y σ G H d Q, f y = some d → Sub G H → σ[2]? = some (some (.ref a)) → XR X.K X.mg y C dd G H → (∀ v G' H', StepN G H G' H' → Rep X.K G' v d → Q v H') → t a dd σ H Q
variable (X Ng x sg g cdg C) in
def ITs (es : List Expr) (f : Exn → Option (List D)) : Prop := ∃ t : Addr → Addr → TA,
  (∀ s H a dd oe pn, Zc (.ref C) (some dd) oe → (∃ vs, oe.data = .fields vs) → PA ((ZH X Ng x sg g cdg s H).suite a ((a, oe) :: pn)) es (t a dd)) ∧
  ∀ a dd y σ G H d Q, f y = some d → Sub G H → σ[2]? = some (some (.ref a)) → XR X.K X.mg y C dd G H → (∀ v G' H', StepN G H G' H' → Reps X.K G' v d → Q v H') → t a dd σ H Q
def itC (d : D) : Exn → Option D := fun _ => some d
def itF (fl : Str) : Exn → Option D := fun y => y.fs.lookup fl
def itR (f : Exn → Option D) : Exn → Option D := fun y => (f y).bind fun d => reprF [d]
def itNil : Exn → Option (List D) := fun _ => some []
def itCons (f : Exn → Option D) (r : Exn → Option (List D)) : Exn → Option (List D) := fun y => (f y).bind fun d => (r y).bind fun ds => some (d :: ds)
def itL (r : Exn → Option (List D)) : Exn → Option D := fun y => (r y).bind fun ds => if ds.length ≤ lim then some (.lst ds) else none
def itTup (r : Exn → Option (List D)) : Exn → Option D := fun y => (r y).bind tupF
theorem IT.const {e : Expr} {v : V} {d : D} (hp : ∀ Y : Cx, PE Y e (tC v)) (hd : ∀ G, Rep X.K G v d) : IT X Ng x sg g cdg C e (itC d) :=
  ⟨fun _ _ => tC v, fun _ _ _ _ _ _ _ _ => hp _, fun a dd y σ G H d' Q e s _ _ k => by cases e; exact k v G H (StepN.refl s) (hd G)⟩
theorem IT.str {w : Str} {j : Nat} {pos : Pos} : IT X Ng x sg g cdg C (.Constant (.str w) j pos) (itC (.str w)) := IT.const (fun _ => pe_str) fun _ => .str w
theorem IT.fld {n fl : Str} {p pos : Pos} (T : XfC X.K C) (hno : PySem.W.findIn X.K (.ref C) fl = some none) (hN : Ng[2]? = some n) (hv : Vis sg n) (hd : (n == ("__debug__" : Str)) = false := by decide) (hcd : (n == ("__classdict__" : Str)) = false := by decide)
    (hb : ∀ s H, attributeBase (.Name n p) fl (ZH X Ng x sg g cdg s H).env (eval (.Name n p) (ZH X Ng x sg g cdg s H).env) = eval (.Name n p) (ZH X Ng x sg g cdg s H).env := by exact (fun _ _ => rfl)) : IT X Ng x sg g cdg C (.Attribute (.Name n p) fl pos) (itF fl) :=
  ⟨fun a dd => tXf a (.ref C) (some dd) C fl (tVar 2), fun s H a dd oe pn hz hf => pe_xf (X := ZH X Ng x sg g cdg s H) T hno hz hf (pe_var (i := 2) hN hv hd hcd) (hb s H), fun a dd y σ G H d Q e s hs xr k => by
    obtain ⟨fs, v, e1, e2, e3⟩ := XR.field xr e
    exact ⟨.ref a, hs, rfl, rfl, dd, fs, v, rfl, e1, e2, k v G H (StepN.refl s) e3⟩⟩
theorem ITs.nil : ITs X Ng x sg g cdg C [] itNil := ⟨fun _ _ => tNil, fun _ _ _ _ _ _ _ _ => pa_nil, fun a dd y σ G H d Q e s _ _ k => by cases e; exact k [] G H (StepN.refl s) .nil⟩
theorem ITs.cons {e : Expr} {es : List Expr} {f : Exn → Option D} {r : Exn → Option (List D)} (h : IT X Ng x sg g cdg C e f) (hr : ITs X Ng x sg g cdg C es r) (hst : ∀ env : Env, starEach (e :: es) env = (false, eval e env) :: starEach es env := by exact (fun _ => rfl)) : ITs X Ng x sg g cdg C (e :: es) (itCons f r) := by
  obtain ⟨t, p, q⟩ := h
  obtain ⟨u, p2, q2⟩ := hr
  refine ⟨fun a dd => tCons (t a dd) (u a dd), fun s H a dd oe pn hz hf => pa_cons (p s H a dd oe pn hz hf) (p2 s H a dd oe pn hz hf) (hst _), fun a dd y σ G H d Q e s hs xr k => ?_⟩
  unfold itCons at e
  obtain ⟨d1, e1, e⟩ := Option.bind_eq_some_iff.mp e
  obtain ⟨ds, e2, e⟩ := Option.bind_eq_some_iff.mp e
  cases e
  exact q a dd y σ G H d1 _ e1 s hs xr fun v G1 H1 t1 r1 => q2 a dd y σ G1 H1 ds _ e2 t1.s hs (xr.step t1) fun vs G2 H2 t2 r2 => k _ G2 H2 (t1.trans t2) (.cons (Rep.sub t2.g r1) r2)
theorem IT.lst {es : List Expr} {r : Exn → Option (List D)} {pos : Pos} (h : ITs X Ng x sg g cdg C es r) : IT X Ng x sg g cdg C (.List es pos) (itL r) := by
  obtain ⟨t, p, q⟩ := h
  refine ⟨fun a dd => tLst (t a dd), fun s H a dd oe pn hz hf => pe_lst (p s H a dd oe pn hz hf), fun a dd y σ G H d Q e s hs xr k => ?_⟩
  unfold itL at e
  obtain ⟨ds, e1, e⟩ := Option.bind_eq_some_iff.mp e
  by_cases hl : ds.length ≤ lim
  · rw [if_pos hl] at e
    cases e
    exact q a dd y σ G H ds _ e1 s hs xr fun vs G1 H1 t1 r1 => ⟨by rw [Reps.length r1]; exact lim_ok hl, fun p hp => k _ _ _ (t1.trans (StepN.new t1.s hp)) (.lst upd_same (Reps.sub (StepN.new t1.s hp (o := .lst vs)).g r1))⟩
  · rw [if_neg hl] at e; cases e
theorem IT.tup {es : List Expr} {r : Exn → Option (List D)} {j : Nat} {pos : Pos} (h : ITs X Ng x sg g cdg C es r) : IT X Ng x sg g cdg C (.Tuple es j pos) (itTup r) := by
  obtain ⟨t, p, q⟩ := h
  refine ⟨fun a dd => tTup (t a dd), fun s H a dd oe pn hz hf => pe_tup (p s H a dd oe pn hz hf), fun a dd y σ G H d Q e s hs xr k => ?_⟩
  unfold itTup tupF at e
  obtain ⟨ds, e1, e⟩ := Option.bind_eq_some_iff.mp e
  by_cases hl : ds.length ≤ lim
  · rw [if_pos hl] at e
    cases e
    exact q a dd y σ G H ds _ e1 s hs xr fun vs G1 H1 t1 r1 => ⟨by rw [Reps.length r1]; exact lim_ok hl, fun p hp => k _ _ _ (t1.trans (StepN.new t1.s hp)) (.tup (.inl (.inl upd_same)) (Reps.sub (StepN.new t1.s hp (o := .tup vs)).g r1))⟩
  · rw [if_neg hl] at e; cases e
theorem IT.repr {e : Expr} {f : Exn → Option D} {p pos : Pos} (hgd : X.A.guards = some []) (hu : X.A.units + 103 < cLine) (hgl : sg.names.lookup ("repr" : Str) = some .globalImplicit) (hm : X.mg "repr" = none) (h : IT X Ng x sg g cdg C e f)
    (he : ∀ env : Env, starEach (e :: []) env = (false, eval e env) :: starEach [] env := by exact (fun _ => rfl)) : IT X Ng x sg g cdg C (.Call (.Name "repr" p) [e] [] pos) (itR f) := by
  obtain ⟨t, pe, q⟩ := h
  refine ⟨fun a dd => tCB (rRepr X.K) (tCons (t a dd) tNil), fun s H a dd oe pn hz hf => ?_, fun a dd y σ G H d Q e s hs xr k => ?_⟩
  · exact pe_callB (X := (ZH X Ng x sg g cdg s H).suite a ((a, oe) :: pn)) (cr_repr (X := (ZH X Ng x sg g cdg s H).suite a ((a, oe) :: pn)) hgd (show X.A.units + 3 + 100 < cLine by omega)) hgl hm (by decide +kernel) (pa_cons (pe s H a dd oe pn hz hf) pa_nil (he _)) (by decide) (by decide) (he _) rfl
  · unfold itR at e
    obtain ⟨d1, e1, e⟩ := Option.bind_eq_some_iff.mp e
    exact q a dd y σ G H d1 _ e1 s hs xr fun v G1 H1 t1 r1 => ol_repr (X := X) G1 H1 [v] [d1] d Q t1.s (.cons r1 .nil) e fun w G2 H2 t2 r2 => k w G2 H2 (t1.trans t2) r2
theorem IT.isi {n b : Str} {B : Addr} {p1 p2 p3 pos : Pos} (hin : PySem.W.isIn X.K (.ref C) B = true) (hmb : X.mg b = some (.ref B)) (hgb : sg.names.lookup b = some .globalImplicit) (hN : Ng[2]? = some n) (hv : Vis sg n) (hgl : sg.names.lookup ("isinstance" : Str) = some .globalImplicit) (hm : X.mg "isinstance" = none)
    (hd : (n == ("__debug__" : Str)) = false := by decide) (hcd : (n == ("__classdict__" : Str)) = false := by decide) (hdb : (b == ("__debug__" : Str)) = false := by decide) :
    IT X Ng x sg g cdg C (.Call (.Name "isinstance" p1) [.Name n p2, .Name b p3] [] pos) (itC (.bl true)) := by
  refine ⟨fun a dd => tCB (rIsP X.K a C) (tCons (tVar 2) (tCons (tC (.ref B)) tNil)), fun s H a dd oe pn hz hf => ?_, fun a dd y σ G H d Q e s hs xr k => ?_⟩
  · exact pe_callB (X := (ZH X Ng x sg g cdg s H).suite a ((a, oe) :: pn)) (call_isP (X := ZH X Ng x sg g cdg s H) hz) hgl hm (by decide +kernel) (pa_cons (pe_var (i := 2) hN hv hd hcd) (pa_cons (pe_glob (v := .ref B) hgb hmb rfl hdb) pa_nil rfl) rfl) (by decide) (by decide) rfl rfl
  · cases e
    exact ⟨.ref a, hs, .ref B, B, rfl, fun u z => z, hin, k _ G H (StepN.refl s) (.bl true)⟩
end
end PL
end L2
set_option Elab.async false
set_option linter.all false
set_option maxRecDepth 100000
set_option maxHeartbeats 4000000
namespace L2
namespace PL
open PySem PySem.Spec PyProof.Rows LamX
section
variable {X : Cx} {Ng : List Str} {x : Str} {sg : Scope} {g : Addr} {cdg : Value}
/-- a clause's name, its class, what its suite tells -/
abbrev Cl := Str × Addr × (Exn → Option D)
def hdF : List (Str × (Exn → Option D)) → Exn → Option D
  | [], _ => none
  | (n, f) :: r, y => if y.cls = n then f y else hdF r y
def strip (l : List Cl) : List (Str × (Exn → Option D)) := l.map fun p => (p.1, p.2.2)
abbrev TRd := Addr × (Addr → Addr → TE)
def TRok (K : PySem.W.Frag) (mg : Str → Option Value) (p : TRd) (q : Cl) : Prop := p.1 = q.2.1 ∧ mg q.1 = some (.ref q.2.1) ∧
  ∀ a dd y σ G H d Q, q.2.2 y = some d → Sub G H → σ[2]? = some (some (.ref a)) → XR K mg y q.2.1 dd G H → (∀ v G' H', StepN G H G' H' → Rep K G' v d → Q v H') → p.2 a dd σ H Q
def tsC (p : TRd) : Addr → Value → Option Addr → TS := fun a cls d D' σ H => cls = .ref p.1 ∧ ∃ dd, d = some dd ∧ tAsg (p.2 a dd) (gName 1) D' σ H
variable (X Ng x sg g cdg) in
inductive HC (n tn : Str) : List ExceptHandler → List Cl → Prop
  | nil : HC n tn [] []
  | cons {xn : Str} {C : Addr} {e : Expr} {f : Exn → Option D} {hds : List ExceptHandler} {l : List Cl} {np hp p1 p2 : Pos} (hm : X.mg xn = some (.ref C)) (hg : sg.names.lookup xn = some .globalImplicit) (hdb : (xn == ("__debug__" : Str)) = false) (it : IT X Ng x sg g cdg C e f)
      (hs : ∀ env : Env, swapsWith e (some (.Name tn p1)) p2.line env = pure false) (r : HC n tn hds l) : HC n tn (.ExceptHandler (some (.Name xn np)) (some n) [.Assign [.Name tn p1] e p2] hp :: hds) ((xn, C, f) :: l)
theorem HC.pick {n tn : Str} (hN : Ng.Nodup) (h1 : Ng[1]? = some tn) (hl1 : sg.names.lookup tn = some .local) {hds : List ExceptHandler} {l : List Cl} (h : HC X Ng x sg g cdg n tn hds l) :
    ∃ lt : List TRd, (∀ s H, HdsAs (ZH X Ng x sg g cdg s H) n hds (lt.map fun p => (.ref p.1, tsC p))) ∧ Paired (TRok X.K X.mg) lt l := by
  induction h with
  | nil => exact ⟨[], fun _ _ => .nil, .nil⟩
  | @cons xn C e f hds l np hp p1 p2 hm hg hdb it hs r ih =>
    obtain ⟨lt, q1, q2⟩ := ih
    obtain ⟨t, pt, qt⟩ := it
    refine ⟨(C, t) :: lt, fun s H => .cons ⟨hg, hdb, .inl hm⟩ (fun a oe cls d pn hz hf => ?_) (q1 s H), .cons ⟨rfl, hm, fun a dd y σ G H d Q e1 s hs xr k => qt a dd y σ G H d Q e1 s hs xr k⟩ q2⟩
    refine ⟨fun pins s' σ H' D' I hh => ?_⟩
    obtain ⟨ec, dd, ed, hh⟩ := hh
    have ec' : cls = .ref C := ec
    subst ec'
    subst ed
    exact (pss_one (ps_set (X := (ZH X Ng x sg g cdg s H).suite a ((a, oe) :: pn)) (i := 1) hN h1 (.inl hl1) (pt s H a dd oe pn hz hf) (hs _) (.inr hl1))).run pins s' σ H' D' I hh
/-! ### told first, told of the call -/
inductive IniE : Expr → Option Str → Prop
  | non {j : Nat} {p : Pos} : IniE (.Constant .none j p) none
  | lst {w : Str} {j : Nat} {p q : Pos} : IniE (.List [.Constant (.str w) j p] q) (some w)
def tIni : Option Str → TE
  | none => tC .non
  | some w => tLst (tCons (tC (.str w)) tNil)
theorem IniE.pe {e : Expr} {i : Option Str} (h : IniE e i) (Y : Cx) : PE Y e (tIni i) := by
  cases h with
  | non => exact pe_non
  | lst => exact pe_lst (pa_cons pe_str pa_nil rfl)
inductive WrapE (a : Str) : Expr → Option Str → Prop
  | call {p1 p2 : Pos} : WrapE a (.Call (.Name a p1) [] [] p2) none
  | lst {w : Str} {j : Nat} {p p1 p2 q : Pos} : WrapE a (.List [.Constant (.str w) j p, .Call (.Name a p1) [] [] p2] q) (some w)
def tWrap (t : TE) : Option Str → TE
  | none => t
  | some w => tLst (tCons (tC (.str w)) (tCons t tNil))
theorem WrapE.pe {a : Str} {e : Expr} {i : Option Str} (h : WrapE a e i) (Y : Cx) {t : TE} (ht : ∀ p1 p2, PE Y (.Call (.Name a p1) [] [] p2) t) : PE Y e (tWrap t i) := by
  cases h with
  | call => exact ht _ _
  | lst => exact pe_lst (pa_cons pe_str (pa_cons (ht _ _) pa_nil rfl) rfl)
def iniP (i : Option Str) (H : Hp) (k : V → Hp → Prop) : Prop := match i with
  | none => k .non H
  | some w => ∀ p, H p = none → k (.ref p) (upd H p (.lst [.str w]))
def wrapP (i : Option Str) (v : V) (H : Hp) (Q : VK) : Prop := match i with
  | none => Q v H
  | some w => ∀ p, H p = none → Q (.ref p) (upd H p (.lst [.str w, v]))
def EHx (K : PySem.W.Frag) (Q : VK) : List TRd → XK
  | [] => fun _ _ _ => False
  | p :: r => fun cls d H => ∃ b, PySem.W.exmOne K cls (.ref p.1) = some b ∧ (b = true → cls = .ref p.1 ∧ ∃ dd, d = some dd ∧ ∀ a, H a = none → ∀ (σ : St) (Q' : VK), σ[2]? = some (some (.ref a)) → (∀ v H', Q v H' → Q' v H') → p.2 a dd σ H Q') ∧ (b = false → EHx K Q r cls d H)
def TTh (K : PySem.W.Frag) (ini wr : Option Str) (lt : List TRd) : (XK → Hp → VK → Prop) → Hp → VK → Prop := fun tl H Q =>
  iniP ini H fun _ H0 => ∀ Q' : VK, (∀ v H1, wrapP wr v H1 Q → Q' v H1) → tl (EHx K Q lt) H0 Q'
theorem EHx.was {K : PySem.W.Frag} {Q : VK} {D' : Ends} (hD : ∀ (σ : St) (v : V) (H : Hp), σ.length = 3 → Q v H → D'.nx ((σ.set 1 (some v)).set 2 none) H) : ∀ {lt : List TRd} {cls : Value} {d : Option Addr} {σ : St} {H : Hp}, σ.length = 3 → EHx K Q lt cls d H →
    wAsM K 2 (fun _ _ _ _ => False) D' (lt.map fun p => (.ref p.1, tsC p)) cls d σ H
  | [], _, _, _, _, _, h => h
  | p :: r, cls, d, σ, H, hl, h => by
    obtain ⟨b, e, yes, no⟩ := h
    refine ⟨b, e, fun hb a na => ?_, fun hb => EHx.was hD hl (no hb)⟩
    obtain ⟨h1, dd, h2, h3⟩ := yes hb
    refine ⟨h1, dd, h2, h3 a na _ _ (List.getElem?_set_self (by omega)) fun v H' q => ?_⟩
    exact hD _ v H' (by rw [List.length_set]; exact hl) q
theorem takes_len {Y : Cx} {W : WX} (t : Takes Y W) : Takes Y (fun cls d σ H => σ.length = Y.N.length → W cls d σ H) := fun u s' ⟨a, B, sI, pins, σ, H, cls, d, e, I, nb, up, sky, na, os, ag, w⟩ =>
  t u s' ⟨a, B, sI, pins, σ, H, cls, d, e, I, nb, up, sky, na, os, ag, w I.len⟩
theorem heard_gives {a tn n q : Str} {ei ew : Expr} {ini wr : Option Str} {h0 : ExceptHandler} {hds : List ExceptHandler} {lt : List TRd} {pa pb pc pd pt pr pr2 : Pos} (hN : Ng.Nodup) (hl3 : Ng.length = 3) (h1 : Ng[1]? = some tn) (h2 : Ng[2]? = some n) (l1 : sg.names.lookup tn = some .local) (l2 : sg.names.lookup n = some .local)
    (d1 : (tn == ("__debug__" : Str)) = false) (d2 : (tn == ("__classdict__" : Str)) = false) (hi : IniE ei ini) (hw : WrapE a ew wr) (hh : ∀ s H, HdsAs (ZH X Ng x sg g cdg s H) n (h0 :: hds) (lt.map fun p => (.ref p.1, tsC p)))
    (hs1 : ∀ env : Env, swapsWith ei (some (.Name tn pa)) pb.line env = pure false) (hs2 : ∀ env : Env, swapsWith ew (some (.Name tn pc)) pd.line env = pure false) :
    GivesTo X Ng x sg g cdg [.Assign [.Name tn pa] ei pb, .Try [.Assign [.Name tn pc] ew pd] (h0 :: hds) [] [] pt, .Return (some (.Name tn pr)) pr2] a q (TTh X.K ini wr lt) := by
  intro f c' s H Q tl act hc h
  have hst : L2.start Ng [V.ref f] = [some (.ref f), none, none] := by
    unfold L2.start
    rw [hl3]
    rfl
  refine ⟨_, pss_cons (ps_set (X := ZH X Ng x sg g cdg s H) (i := 1) hN h1 (.inl l1) (hi.pe _) (hs1 _) (.inr l1)) (pss_cons (ps_tryAs (X := ZH X Ng x sg g cdg s H) (n := n) (i := 2)
    (tb := fun W D σ H => (∀ cls d σ' H', σ'.length = 3 → EHx X.K Q lt cls d H' → W cls d σ' H') ∧ tAsg (tWrap (fun σZ HZ Q' => σZ[0]? = some (some (.ref f)) ∧ HZ c' = some (CodeO c' q) ∧ tl (EHx X.K Q lt) HZ Q') wr) (gName 1) D σ H)
    rfl rfl hN h2 l2 takes0 (fun W pn xe tk _ => ?_) (hh s H)) (pss_one (ps_ret (pe_var (i := 1) h1 (.inl l1) d1 d2)))), ?_⟩
  · refine ⟨fun pins s' σ H' D' I hh' => ?_⟩
    obtain ⟨hW, h3⟩ := hh'
    have hp := fun p1 p2 => act _ pn xe (EHx X.K Q lt) p1 p2 (takes_len tk) (fun cls d σ' H' e hl => hW cls d σ' H' (hl.trans hl3) e)
    exact (pss_one (ps_set (X := (ZH X Ng x sg g cdg s H).tr pn xe) (i := 1) hN h1 (.inl l1) (hw.pe _ hp) (hs2 _) (.inr l1))).run pins s' σ H' D' I h3
  · rw [hst]
    have hD : ∀ (σ : St) (v : V) (H : Hp), σ.length = 3 → Q v H → ∃ v', ((σ.set 1 (some v)).set 2 none)[1]? = some (some v') ∧ Q v' H := fun σ v H hl q => ⟨v, by rw [List.getElem?_set_ne (by decide), List.getElem?_set_self (by omega)], q⟩
    have tl_ok : ∀ (v0 : V) (H0 : Hp), H0 c' = some (CodeO c' q) → (∀ Q' : VK, (∀ v H1, wrapP wr v H1 Q → Q' v H1) → tl (EHx X.K Q lt) H0 Q') → ∀ D' : Ends, D'.nx = (fun σ H => ∃ v, σ[1]? = some (some v) ∧ Q v H) →
        (∀ cls d σ' H', σ'.length = 3 → EHx X.K Q lt cls d H' → wAsM X.K 2 (fun _ _ _ _ => False) D' (lt.map fun p => (.ref p.1, tsC p)) cls d σ' H') ∧ tAsg (tWrap (fun σZ HZ Q' => σZ[0]? = some (some (.ref f)) ∧ HZ c' = some (CodeO c' q) ∧ tl (EHx X.K Q lt) HZ Q') wr) (gName 1) D' [some (.ref f), some v0, none] H0 := fun v0 H0 hc0 k D' eD => by
      refine ⟨fun cls d σ' H' hl e => EHx.was (fun σ v H hl q => by rw [eD]; exact hD σ v H hl q) hl e, ?_⟩
      unfold tAsg gName
      rw [eD]
      cases wr with
      | none => exact ⟨rfl, hc0, k _ fun v H1 q => ⟨v, rfl, q⟩⟩
      | some w => exact ⟨rfl, hc0, k _ fun v H1 q => ⟨show 2 ≤ sizeLine by decide, fun p hp => ⟨_, rfl, q p hp⟩⟩⟩
    cases ini with
    | none => exact tl_ok .non H hc h _ rfl
    | some w => exact ⟨show 1 ≤ sizeLine by decide, fun p hp => tl_ok (.ref p) _ (by rw [upd_ne (ne_of_none hc hp)]; exact hc) (h p hp) _ rfl⟩
end
/-! ### heard(lambda: e) at the caller -/
def wrapF : Option Str → D → D
  | none, d => d
  | some w, d => .lst [.str w, d]
def heardE (wr : Option Str) (hd : List (Str × (Exn → Option D))) (g : GE D) : GE D := fun ρ => match g ρ with
  | .ok d ρ1 => .ok (wrapF wr d) ρ1
  | .er y ρ1 => ofOpt (hdF hd y) ρ1
  | .bad => .bad
end PL
end L2
set_option Elab.async false
set_option linter.all false
set_option maxRecDepth 100000
set_option maxHeartbeats 4000000
namespace L2
namespace PL
open PySem PySem.Spec PyProof.Rows LamX
section
variable {K : PySem.W.Frag} {mg : Str → Option Value}
def ExM (K : PySem.W.Frag) (l : List Cl) : Prop := ∀ a ∈ l, ∀ b ∈ l, PySem.W.exmOne K (.ref a.2.1) (.ref b.2.1) = some (decide (b.1 = a.1))
theorem hdF_mem : ∀ {l : List Cl} {y : Exn} {d : D}, hdF (strip l) y = some d → ∃ a ∈ l, a.1 = y.cls
  | [], _, _, h => by cases h
  | q :: l, y, d, h => by
    have h' : (if y.cls = q.1 then q.2.2 y else hdF (strip l) y) = some d := h
    by_cases e : y.cls = q.1
    · exact ⟨q, List.mem_cons_self, e.symm⟩
    · rw [if_neg e] at h'
      obtain ⟨a, h1, h2⟩ := hdF_mem h'
      exact ⟨a, List.mem_cons_of_mem _ h1, h2⟩
theorem EHx.of {y : Exn} {d : D} {C dd : Addr} {G H : Hp} {Q : VK} (sb : Sub G H) (xr : XR K mg y C dd G H) (k : ∀ v G' H', StepN G H G' H' → Rep K G' v d → Q v H') : ∀ {lt : List TRd} {l : List Cl}, Paired (TRok K mg) lt l → hdF (strip l) y = some d →
    (∀ q ∈ l, PySem.W.exmOne K (.ref C) (.ref q.2.1) = some (decide (q.1 = y.cls))) → EHx K Q lt (.ref C) (some dd) H := by
  intro lt l p
  induction p with
  | nil => intro h; cases h
  | @cons p q ps qs h t ih =>
    intro e hM
    have e' : (if y.cls = q.1 then q.2.2 y else hdF (strip qs) y) = some d := e
    obtain ⟨h1, h2, h3⟩ := h
    refine ⟨decide (q.1 = y.cls), by rw [h1]; exact hM q List.mem_cons_self, fun hb => ?_, fun hb => ?_⟩
    · have eq : q.1 = y.cls := of_decide_eq_true hb
      rw [if_pos eq.symm] at e'
      have eC : C = q.2.1 := by
        have z := xr.1
        rw [← eq, h2] at z
        exact (Value.ref.inj (Option.some.inj z)).symm
      rw [eC] at xr
      exact ⟨by rw [h1, eC], dd, rfl, fun a na σ Q' hs hQ => h3 a dd y σ G H d Q' e' sb hs xr fun v G' H' st r => hQ v H' (k v G' H' st r)⟩
    · have ne : ¬ q.1 = y.cls := of_decide_eq_false hb
      rw [if_neg (fun z => ne z.symm)] at e'
      exact ih e' fun q hq => hM q (List.mem_cons_of_mem _ hq)
end
section
variable {X : Cx} {c : Cz} {W : WX}
theorem heard_sem {P : Addr} {q : Str} {ini wr : Option Str} {lt : List TRd} {l : List Cl} {ge : GE D} (hP : Paired (TRok X.K X.mg) lt l) (hM : ExM X.K l) (hmg : ∀ a ∈ l, X.mg a.1 = some (.ref a.2.1)) : ∀ ρ σ G H Q, ER X.K c ρ σ G H → Gd X c W ρ σ G H (heardE wr (strip l) ge ρ) (RV X) Q →
    tLamT c.T P q (TTh X.K ini wr lt) (fun E => tP X c (wE E) ge) σ H Q := fun ρ σ G H Q E hq => by
  refine ⟨E.tabs, fun H1 m tb => ?_⟩
  obtain ⟨E1, st1⟩ := E.madeT m tb
  have hq1 : Gd X c W ρ σ G H1 (heardE wr (strip l) ge ρ) (RV X) Q := Gd.shift hq (st1.mono fun _ z => z.elim) (OwnS.refl _ _ _)
  -- from any state that goes on from there
  have main : ∀ H0, ER X.K c ρ σ G H0 → Gd X c W ρ σ G H0 (heardE wr (strip l) ge ρ) (RV X) Q → ∀ Q' : VK, (∀ v H1, wrapP wr v H1 Q → Q' v H1) → tP X c (wE (EHx X.K Q lt)) ge σ H0 Q' := fun H0 E0 h Q' hQ => by
    refine ⟨ρ, G, E0, ?_⟩
    unfold heardE at h
    cases eg : ge ρ with
    | bad => rw [eg] at h; exact h
    | ok d ρ1 =>
      rw [eg] at h
      intro v G' H' E' st ow r
      apply hQ
      cases wr with
      | none => exact h v G' H' E' st ow r
      | some w =>
        intro p hp
        have sn : StepN G' H' (upd G' p (.lst [.str w, v])) (upd H' p (.lst [.str w, v])) := StepN.new E'.sub hp
        exact h (.ref p) _ _ (E'.stepN sn) (st.trans (sn.step (Own ρ σ)) fun _ z => .inl z) ow (.lst upd_same (.cons (.str w) (.cons (Rep.sub sn.g r) .nil)))
    | er y ρ1 =>
      rw [eg] at h
      intro C dd G' H' E' st ow xr
      have h' : Gd X c W ρ σ G H0 (ofOpt (hdF (strip l) y) ρ1) (RV X) Q := h
      cases ed : hdF (strip l) y with
      | none => rw [ed] at h'; exact h'.elim
      | some d =>
        rw [ed] at h'
        obtain ⟨a, ha, ea⟩ := hdF_mem ed
        have eC : C = a.2.1 := by
          have z := xr.1
          rw [← ea, hmg a ha] at z
          exact (Value.ref.inj (Option.some.inj z)).symm
        refine EHx.of E'.sub xr (fun v G2 H2 sn r => h' v G2 H2 (E'.stepN sn) (st.trans (sn.step (Own ρ σ)) fun _ z => .inl z) ow r) hP ed fun q hq => ?_
        rw [eC, ← ea]
        exact hM a ha q hq
  unfold TTh
  cases ini with
  | none => exact main H1 E1 hq1
  | some w =>
    intro p hp
    have sn : StepN G H1 G (upd H1 p (.lst [.str w])) := ⟨Sub.refl G, fun _ _ e => .inl e, fun b u e => by rw [upd_ne (ne_of_none e hp)]; exact e, fun b u e => by
      have e' := E1.sub b u e
      rw [upd_ne (ne_of_none e' hp)]; exact e', id⟩
    exact main _ (E1.stepN sn) (Gd.shift hq1 (sn.step _) (OwnS.refl _ _ _))
/-- x(lambda: e), x tells what e tells and what it lets out -/
theorem EX.heard {x a tn n : Str} {st : Stmt} {g : Addr} {fd : FuncData} {Ng : List Str} {k : Nat} {C P : Addr} {ei ew : Expr} {ini wr : Option Str} {h0 : ExceptHandler} {hds : List ExceptHandler} {l : List Cl} {pa pb pc pd pt pr pr2 p lpos pos : Pos} {params : Arguments} {body : Expr} {scope : Scope} {ge : GE D} {hdl : List (Str × (Exn → Option D))}
    (F : Fun X.K x x st g fd) (S : FnScope Ng [a] (defScope st)) (hb : L2.Binds X.K fd [a] []) (hbd : defBody st = [.Assign [.Name tn pa] ei pb, .Try [.Assign [.Name tn pc] ew pd] (h0 :: hds) [] [] pt, .Return (some (.Name tn pr)) pr2])
    (hHC : ∀ cdg, HC X Ng x (defScope st) g cdg n tn (h0 :: hds) l) (hM : ExM X.K l) (hmg : ∀ a ∈ l, X.mg a.1 = some (.ref a.2.1)) (hdl' : strip l = hdl) (hl3 : Ng.length = 3) (h00 : Ng[0]? = some a) (h1 : Ng[1]? = some tn) (h2 : Ng[2]? = some n) (hva : Vis (defScope st) a) (l1 : (defScope st).names.lookup tn = some .local) (l2 : (defScope st).names.lookup n = some .local)
    (d1 : (tn == ("__debug__" : Str)) = false) (d2 : (tn == ("__classdict__" : Str)) = false) (hi : IniE ei ini) (hw : WrapE a ew wr)
    (hs1 : ∀ env : Env, swapsWith ei (some (.Name tn pa)) pb.line env = pure false) (hs2 : ∀ env : Env, swapsWith ew (some (.Name tn pc)) pd.line env = pure false)
    (hm : X.mg x = some (.ref g)) (hk : PySem.W.keepIn X.K (.ref g) = true) (TB : TabB X.base X.mg C P) (hcode : X.env.code = .ref C) (hmT : (P, X.env.qual ++ "<lambda>") ∈ c.T) (hu : ∀ p ∈ c.T, p.1 = P → p.2 = X.env.qual ++ "<lambda>") (hr : Room (k + 2) X.A) (L : LamS X.env.scope scope) (hdef : defaultsOf params X.env = ([], []))
    (hbind : ∀ (q : Str) (cl : List (Str × Addr)) (pm cv ctv : Value), bindArgs (PySem.W.kla_fn "<lambda>" q params body scope cl pm cv ctv) ⟨[], []⟩ = pure [])
    (hbody : ∀ (A : Around) (outer : List Env) (s : Shared) (H : Hp) (E : XK) (f c' : Addr), Room k (A.deeper (lamEnv X scope s.heap.objs.size f c')) → EX (lamCx X A outer s H E scope f c') c (wE E) body ge)
    (hg : Gl X x := by rfl) (hdb : (x == ("__debug__" : Str)) = false := by decide) (hd : (a == ("__debug__" : Str)) = false := by decide) (hcd : (a == ("__classdict__" : Str)) = false := by decide) :
    EX X c W (.Call (.Name x p) [.Lambda params body scope lpos] [] pos) (heardE wr hdl ge) := by
  subst hdl'
  obtain ⟨oc, od, kV, doc, pm, an, cdv, ct, osl, e, lk, hcd'⟩ := F.ex
  obtain ⟨lt, q1, q2⟩ := HC.pick S.nd h1 l1 (hHC cdv)
  refine ⟨_, pe_lamT (T := c.T) (TT := TTh X.K ini wr lt) (k := k) (t := fun E => tP X c (wE E) ge) hg hm hk (e ▸ lk) hcd' (e ▸ hb) S h00 hva ?_ TB hcode hmT hu hr L hdef hbind (fun A outer s H E f c' hr2 => (hbody A outer s H E f c' hr2).pe) hdb hd hcd, heard_sem q2 hM hmg⟩
  rw [hbd]
  exact heard_gives S.nd hl3 h1 h2 l1 l2 d1 d2 hi hw q1 hs1 hs2
end
end PL
end L2
set_option Elab.async false
set_option linter.all false
set_option maxRecDepth 100000
set_option maxHeartbeats 4000000
namespace L2
namespace PL
open PySem PySem.Spec PyProof.Rows LamX
/-! ### defs that make lambdas: their code object is known -/
structure FunL (K : PySem.W.Frag) (x qual : Str) (st : Stmt) (f : Addr) (fd : FuncData) (C : Addr) : Prop where
  ex : ∃ (oc : Value) (od : Option Addr) (kV doc pm : Value) (an : Option Addr) (ct : Value) (osl : Array (Option Value)),
    fd = PySem.W.fnOf x qual (defArgs st) (defBody st) (defScope st) .none kV doc pm an (.ref C) ct ∧ K.lookup f = some ⟨oc, od, .func fd, osl⟩ ∧ PySem.W.codeIn K (.ref C) qual = true
  kp : PySem.W.keepIn K (.ref f) = true
theorem FunL.fun {K : PySem.W.Frag} {x qual : Str} {st : Stmt} {f : Addr} {fd : FuncData} {C : Addr} (F : FunL K x qual st f fd C) : Fun K x qual st f fd := by
  obtain ⟨oc, od, kV, doc, pm, an, ct, osl, e⟩ := F.ex
  exact ⟨⟨oc, od, kV, doc, pm, an, _, ct, osl, e⟩, F.kp⟩
section
variable {P : Program} {w : World} {K : PySem.W.Frag} {mg : Str → Option Value} {base : Heap} {k : Nat} {f : Addr} {fd : FuncData} {ps N : List Str} {sp : Sp} {x qual : Str} {st : Stmt} {T : List (Addr × Str)} {n m : Nat} {g : GS} {C : Addr}
theorem fnL_of (F : FunL K x qual st f fd C) (S : FnScope N ps (defScope st)) (len : ∀ vs H Q E, sp vs H Q E → vs.length = ps.length)
    (hbody : ∀ (A : Around) (outer : List Env) (s : Shared) (H : Hp) (vs : List V) (Q : VK) (E : XK), Room k (A.deeper (envOfC qual (defScope st) s.heap.objs.size f (.ref C))) → A.guards = some [] → sp vs H Q E →
      ∃ t, PSs (cxOf (L2.CX P w) P w K mg base N qual (defScope st) f (.ref C) A outer s H E) (defBody st) t ∧ t { nx := fun _ H' => Q .non H', rt := Q } (start N vs) H) : FnG P w K mg base (k + 1) f fd ps sp := by
  obtain ⟨oc, od, kV, doc, pm, an, ct, osl, e, lk, hcd⟩ := F.ex
  refine ⟨len, fun A outer s H args us vs Q E hr hgd e0 hb r hsp => ?_⟩
  exact LamX.run_ofS (CX := L2.CX P w) (P := P) (w := w) (mg := mg) (base := base) (k := k) (N := N) (ps := ps) (A := A) (outer := outer) (s := s) (H := H) (args := args) (us := us) (vs := vs) (Q := Q) (E := E) (e ▸ lk) hcd S hr e0 (e ▸ hb) r (len vs H Q E hsp) fun hr2 => hbody A outer s H vs Q E hr2 hgd hsp
theorem pure_GL (F : FunL K x qual st f fd C) (S : FnScope N ps (defScope st)) (hn : ps.length = n) (hN : N.length = n + m)
    (hg : ∀ (A : Around) (outer : List Env) (s : Shared) (H : Hp) (E : XK), Room k (A.deeper (envOfC qual (defScope st) s.heap.objs.size f (.ref C))) → A.guards = some [] → SXs (cxOf (L2.CX P w) P w K mg base N qual (defScope st) f (.ref C) A outer s H E) (czP T) (wE E) (defBody st) g) :
    FnG P w K mg base (k + 1) f fd ps (spP K mg T n (runP g m)) :=
  fnL_of F S (fun vs H Q E h => h.1.trans hn.symm) fun A outer s H vs Q E hr hgd hsp => body_P (X := cxOf (L2.CX P w) P w K mg base N qual (defScope st) f (.ref C) A outer s H E) (hg A outer s H E hr hgd) hN hsp
theorem io_GL (F : FunL K x qual st f fd C) (S : FnScope N ps (defScope st)) (hn : ps.length = n) (hN : N.length = n + m)
    (hg : ∀ (A : Around) (outer : List Env) (s : Shared) (H : Hp) (E : XK) (a : Addr), Room k (A.deeper (envOfC qual (defScope st) s.heap.objs.size f (.ref C))) → A.guards = some [] → SXs (cxOf (L2.CX P w) P w K mg base N qual (defScope st) f (.ref C) A outer s H E) (czIO T a) (wE E) (defBody st) g) :
    FnG P w K mg base (k + 1) f fd ps (spIO K mg T n (runIO g m)) :=
  fnL_of F S (fun vs H Q E h => h.1.trans hn.symm) fun A outer s H vs Q E hr hgd hsp => body_IO (X := cxOf (L2.CX P w) P w K mg base N qual (defScope st) f (.ref C) A outer s H E) (fun a => hg A outer s H E a hr hgd) hN hsp
end
theorem takes_lam {X : Cx} {A : Around} {outer : List Env} {s : Shared} {H : Hp} {E : XK} {scope : Scope} {f c' : Addr} : Takes (lamCx X A outer s H E scope f c') (wE E) := takes_of rfl rfl rfl rfl
theorem pass_lam {X : Cx} {A : Around} {outer : List Env} {s : Shared} {H : Hp} {E : XK} {scope : Scope} {f c' : Addr} : ∀ σ, PassesAt (L2.CX X.prog X.w) (lamCx X A outer s H E scope f c') σ (WE (wE E) σ) := passAt takes_lam
/-! ### the end -/
def lawG (K : PySem.W.Frag) (a : Addr) (o : Obj) (xs : List V) : Hp := fun b => if b = a ∧ (K.lookup a).isNone = true then some (.frz o (.lst xs)) else none
def lawH (K : PySem.W.Frag) (ts : List Addr) (a : Addr) (o : Obj) (xs : List V) : Hp := fun b => if b ∈ ts then some (.tbl #[]) else lawG K a o xs b
section
variable {K : PySem.W.Frag} {ts : List Addr} {a b : Addr} {o : Obj} {xs : List V} {u : HO}
theorem lawG_some (h : lawG K a o xs b = some u) : b = a ∧ K.lookup a = none ∧ u = .frz o (.lst xs) := by
  unfold lawG at h
  by_cases q : b = a ∧ (K.lookup a).isNone = true
  · rw [if_pos q] at h
    cases h
    exact ⟨q.1, by cases z : K.lookup a with | none => rfl | some w => (have y := q.2; rw [z] at y; cases y), rfl⟩
  · rw [if_neg q] at h; cases h
theorem lawH_some (h : lawH K ts a o xs b = some u) : (b ∈ ts ∧ u = .tbl #[]) ∨ (b ∉ ts ∧ b = a ∧ K.lookup a = none ∧ u = .frz o (.lst xs)) := by
  unfold lawH at h
  by_cases q : b ∈ ts
  · rw [if_pos q] at h; cases h; exact .inl ⟨q, rfl⟩
  · rw [if_neg q] at h; exact .inr ⟨q, lawG_some h⟩
theorem lawH_tbl (h : b ∈ ts) : lawH K ts a o xs b = some (.tbl #[]) := if_pos h
theorem lawG_sub (ha : a ∉ ts) : Sub (lawG K a o xs) (lawH K ts a o xs) := fun b u e => by
  obtain ⟨e1, _, _⟩ := lawG_some e
  unfold lawH
  rw [if_neg (by rw [e1]; exact ha)]
  exact e
theorem lawG_nt : NT (lawG K a o xs) := fun b ps e => by
  obtain ⟨_, _, z⟩ := lawG_some e
  cases z
end
/-- the law's call: its promise is told by f, f answers True -/
theorem law_callG {P : Program} {w : World} {K : PySem.W.Frag} {mg mb : Str → Option Value} {k : Nat} {fa a : Addr} {cs : List (Addr × Addr)} {T : List (Addr × Str)} {fd : FuncData} {x : Str} {f : List D → Rs} {s1 : Shared} {vs : List Value} {ns : List Int}
    (KX : K.In s1.heap) (gl : s1.heap.Ns mainGlobals mg) (bt : s1.heap.Ns builtinsNs mb) (bb : ∀ x : Str, x ≠ "__name__" → mb x = bootBuiltins x) (lm : s1.heap.NoLimit) (gn : s1.gens = #[])
    (tb : ∀ p ∈ cs, s1.heap.get? p.2 = some { cls := .none, data := .fields #[] }) (tK : ∀ p ∈ cs, K.lookup p.2 = none) (hd : ∀ p ∈ cs, PySem.W.CodeHd s1.heap p.1 p.2) (hT : ∀ q ∈ T, q.1 ∈ cs.map (·.2))
    (bmain : ∃ (bm : Addr) (ob : Obj), mg "__builtins__" = some (.ref bm) ∧ bm ≠ builtinsNs ∧ s1.heap.get? bm = some ob ∧ ob.cls = .type "module" ∧ ob.dict = some builtinsNs ∧ ob.data = .plain)
    (sa : s1.heap.get? a = some { cls := .type "list", data := .seq vs.toArray }) (ia : IntsAre vs ns) (ln : ns.length ≤ sizeLine) (hr : Room k callerA)
    (F : ∀ base : Heap, K.In base → base.Ns mainGlobals mg → (∀ p ∈ cs, TabB base mg p.1 p.2) → FnG P w K mg base k fa fd [x] (spP K mg T 1 f)) (bd : ∀ (s : Shared) (u : Value), BindsTo s fd ⟨[u], []⟩ [(x, u)])
    (hf : f [.fz (ns.map .int)] = .ok (.bl true)) :
    codeAny (model P w) callerA (.call (.ref fa) ⟨[.ref a], []⟩) (fun r s' => r = .ok (.ret (.bool true)) ∧ OldK s1.heap s'.heap ∧ s'.os = s1.os ∧ AllBare s'.gens) s1 := by
  let oa : Obj := { cls := .type "list", data := .seq vs.toArray }
  let ts := cs.map (·.2)
  let xs := ns.map V.int
  have eG : ∃ G, G = lawG K a oa xs := ⟨_, rfl⟩
  have eH : ∃ H, H = lawH K ts a oa xs := ⟨_, rfl⟩
  obtain ⟨G, eG⟩ := eG
  obtain ⟨H, eH⟩ := eH
  have rv : Vals xs vs := vals_ints ia
  have size : vs.toArray.size ≤ sizeLine := by rw [List.size_toArray, ia.length]; exact ln
  have tabAt : ∀ {b}, b ∈ ts → s1.heap.get? b = some { cls := .none, data := .fields #[] } ∧ K.lookup b = none := fun {b} h => by
    obtain ⟨p, h1, h2⟩ := List.mem_map.mp h
    exact h2 ▸ ⟨tb p h1, tK p h1⟩
  have notT : a ∉ ts := fun h => by
    have z := (tabAt h).1
    rw [sa] at z
    cases z
  -- what stands in H stands in the state, off the written part
  have shown : ∀ {b u}, H b = some u → K.lookup b = none ∧ ((b ∈ ts ∧ u = .tbl #[]) ∨ (b = a ∧ u = .frz oa (.lst xs))) := fun {b u} h => by
    rw [eH] at h
    rcases lawH_some h with ⟨h1, h2⟩ | ⟨_, h1, h2, h3⟩
    · exact ⟨(tabAt h1).2, .inl ⟨h1, h2⟩⟩
    · exact ⟨by rw [h1]; exact h2, .inr ⟨h1, h3⟩⟩
  have ok : HOk P w H s1.heap := fun b u h => by
    rcases (shown h).2 with ⟨h1, h2⟩ | ⟨h1, h2⟩
    · subst h2; exact (tabAt h1).1
    · subst h2; subst h1
      exact ⟨sa, by rw [List.length_map]; exact ln, vs, _, rv, sa⟩
  -- all but lists and empty field objects is off H
  have off : ∀ {b : Addr} {o : Obj}, s1.heap.get? b = some o → (∀ ws n, o.data ≠ .seq ws n) → o.data ≠ .fields #[] → H b = none := fun {b o} e n1 n2 => by
    cases q : H b with
    | none => rfl
    | some u =>
      rcases (shown q).2 with ⟨h1, _⟩ | ⟨h1, _⟩
      · rw [(tabAt h1).1] at e; cases e; exact absurd rfl n2
      · rw [h1, sa] at e; cases e; exact absurd rfl (n1 _ _)
  have names : ∀ {b : Addr} {m : Str → Option Value}, s1.heap.Ns b m → (hidT s1.heap H).Ns b m := fun {b m} h => by
    obtain ⟨o, es, ep, e1, e2, e3⟩ := h
    exact ⟨o, es, ep, hidT_get e1 (off e1 (fun ws n z => by rw [e2] at z; cases z) fun z => by rw [e2] at z; cases z), e2, e3⟩
  have KB : K.In (hidT s1.heap H) := fun b o e => hidT_get (KX b o e) (by
    cases q : H b with
    | none => rfl
    | some u => rw [(shown q).1] at e; cases e)
  have TB : ∀ p ∈ cs, TabB (hidT s1.heap H) mg p.1 p.2 := fun p hp => by
    have tp := tb p hp
    refine ⟨?_, ?_, fun z => ?_⟩
    · obtain ⟨o, us, file, tf, flags, tg, inF, text, tt, e1, r1, r2, r3, r4, r5, r6, r7, r8, hne⟩ := hd p hp
      refine ⟨o, us, file, tf, flags, tg, inF, text, tt, hidT_get e1 (off e1 (fun ws n z => ?_) fun z => ?_), r1, r2, r3, r4, r5, r6, r7, r8, hne⟩ <;> (rw [r2] at z; cases z)
      simp at r3
    · obtain ⟨bm, ob, b1, b2, b3, b4, b5, b6⟩ := bmain
      refine ⟨bm, ob, b1, b2, fun q => ?_, fun q => ?_, hidT_get b3 (off b3 (fun ws n z => ?_) fun z => ?_), b4, b5, b6⟩
      · obtain ⟨o, es, ep, e, e2, _⟩ := gl
        rw [q, e] at b3
        cases b3
        rw [e2] at b6
        cases b6
      · rw [q, tp] at b3; cases b3; cases b6
      · rw [b6] at z; cases z
      · rw [b6] at z; cases z
    · obtain ⟨o, es, ep, e, e2, _⟩ := gl
      rw [z, tp] at e
      cases e
      cases e2
  have env : Env0 P w K mg (hidT s1.heap H) callerA [] s1 H :=
    ⟨rfl, ⟨KB, names gl, ⟨mb, names bt, bb⟩, let ⟨mc, h1, h2⟩ := lm; ⟨mc, names h1, h2⟩⟩, fun b o e => of_hidT e, Nat.le_of_eq (hidT_size _ _), trivial, fun b hb => (by cases hb), ok, .of_eq gn⟩
  have script : SqL K G a xs := by
    cases q : K.lookup a with
    | some o =>
      have z := KX a o q
      rw [sa] at z
      cases z
      exact .inr ⟨_, vs.toArray, _, q, rfl, rfl, rfl, size, by simpa using rv⟩
    | none => exact .inl (.inr ⟨oa, by rw [eG]; exact if_pos ⟨rfl, by rw [q]; rfl⟩⟩)
  have tabs : Tabs T H := fun q hq => TabS.nil (by rw [eH]; exact lawH_tbl (hT q hq))
  have promise : spP K mg T 1 f [.ref a] H (fun v _ => v = .bl true) fun _ _ _ => False := by
    refine ⟨rfl, G, [.fz (ns.map .int)], by rw [eG, eH]; exact lawG_sub notT, by rw [eG]; exact lawG_nt, tabs, .cons (.fz script (by rw [show xs = ns.map V.int from rfl]; exact Reps.of_ints ns)) .nil, ?_⟩
    rw [hf]
    intro v G' H' _ _ _ r
    cases r
    rfl
  refine codeAny_mono ((F _ KB (names gl) TB).go callerA [] s1 H ⟨[.ref a], []⟩ [.ref a] [.ref a] _ _ hr rfl env (bd s1 (.ref a)) (.cons rfl .nil) promise) fun r s' h => ?_
  cases r with
  | error e =>
    obtain ⟨_, _, _, _, _, _, _, _, _, _, _, _, z⟩ := (show L2.CX P w [] H s1 (fun _ _ _ => False) e s' from h)
    exact z.elim
  | ok fl =>
    cases fl with
    | next => exact False.elim h
    | brk => exact False.elim h
    | cont => exact False.elim h
    | ret u =>
      obtain ⟨v, H', os, bare, un, ok', ru, q⟩ := h
      have q' : v = .bl true := q
      subst q'
      obtain rfl : u = Value.bool true := ru
      have stays : ∀ b o, b ∉ ts → s1.heap.get? b = some o → s'.heap.get? b = some o := fun b o nb e => by
        cases q : H b with
        | none => exact un.keep b o e q (by intro z; cases z) (by intro z; cases z)
        | some u =>
          rcases (shown q).2 with ⟨h1, _⟩ | ⟨h1, h2⟩
          · exact absurd h1 nb
          · subst h2
            obtain ⟨e2, _⟩ := ok' b _ (un.frzs b oa _ q)
            rw [h1, sa] at e
            cases e
            exact e2
      have grew : ∀ p ∈ cs, ∃ more : Array Value, s'.heap.get? p.2 = some { cls := .none, data := .fields more } := fun p hp => by
        obtain ⟨more, z⟩ := un.tbls p.2 #[] (by rw [eH]; exact lawH_tbl (List.mem_map.mpr ⟨p, hp, rfl⟩))
        exact ⟨_, ok' p.2 _ z⟩
      refine ⟨rfl, ⟨fun b o e => ?_, fun b o e => ?_⟩, os, bare⟩ <;> by_cases hb : b ∈ ts
      · obtain ⟨p, hp, ep⟩ := List.mem_map.mp hb
        obtain ⟨more, hm⟩ := grew p hp
        rw [← ep] at e ⊢
        rw [tb p hp] at e
        cases e
        exact .inr (.inl ⟨((hd p hp).tab (tb p hp)).isCodeTable, rfl, #[], more, rfl, by rw [Array.empty_append]; exact hm⟩)
      · exact .inl (stays b o hb e)
      · obtain ⟨p, hp, ep⟩ := List.mem_map.mp hb
        obtain ⟨more, hm⟩ := grew p hp
        exact ⟨_, by rw [← ep]; exact hm⟩
      · exact ⟨o, stays b o hb e⟩
/-- what the top tells of the law -/
def LawG (l : PySem.W.OpenLaw) (w : World) (K : PySem.W.Frag) (k n : Nat) (x : Str) (mg : Str → Option Value) (fa : Addr) (h : Heap) : Prop :=
  ∃ (fd : FuncData) (cs : List (Addr × Addr)) (T : List (Addr × Str)) (f : List D → Rs), (∀ p ∈ cs, h.get? p.2 = some { cls := .none, data := .fields #[] }) ∧ (∀ p ∈ cs, K.lookup p.2 = none) ∧ (∀ p ∈ cs, PySem.W.CodeHd h p.1 p.2) ∧ (∀ q ∈ T, q.1 ∈ cs.map (·.2)) ∧
    (∀ (s : Shared) (u : Value), BindsTo s fd ⟨[u], []⟩ [(x, u)]) ∧ (∀ ns : List Int, ns.length ≤ n → (∀ z ∈ ns, Builtin.Int.intBits z ≤ 1048576) → f [.fz (ns.map .int)] = .ok (.bl true)) ∧
    ∀ base : Heap, K.In base → base.Ns mainGlobals mg → (∀ p ∈ cs, TabB base mg p.1 p.2) → FnG l.prog w K mg base k fa fd [x] (spP K mg T 1 f)
theorem walk_G {l : PySem.W.OpenLaw} {n k : Nat} {q : Program} {loose : List Str} {XP : (Str → Option Value) → Heap → Prop} {YP : World → Heap → Prop} {d : DefRec} {K : Params → PySem.W.Frag} {x : Str}
    (hn : l.most = some n) (hn2 : n ≤ sizeLine) (hdf : d.params.defaults = []) (hr : Room k callerA) (hY : ∀ (w : World) (h : Heap), YP w h → (K w.params).In h)
    (F : ∀ (w : World) (mg : Str → Option Value) (fa : Addr) (h : Heap), YP w h → (K w.params).In h → h.Ns mainGlobals mg → mg d.name = some (.ref fa) → LawG l w (K w.params) k n x mg fa h) :
    PySem.W.WalkO q loose XP YP l.row.toRowW d [] (fun f vs => PySem.call f vs) := by
  refine Att.attach_callB hn hdf fun w s0 s1 mg mb fa o pm cd doc a vs ns G Y ho hd hcd hmg hobj hints hlen hbits hg => ?_
  obtain ⟨fd, cs, T, f, t1, t2, t3, t4, t5, t6, t7⟩ := F w mg fa _ Y (hY w _ Y) G.T.g hmg
  exact law_callG (hY w _ Y) G.T.g G.T.b G.T.builtins G.T.nolimit hg t1 t2 t3 t4 G.T.bmain hobj hints (Nat.le_trans hlen hn2) hr t7 t5 (t6 ns hlen hbits)
end PL
end L2
set_option Elab.async false
set_option linter.all false
set_option maxRecDepth 100000
set_option maxHeartbeats 4000000
namespace L2
namespace PL
open PySem PySem.Spec PyProof.Rows LamX
/-! ### defs whose answer is a new list that the caller may change -/
section
variable (K : PySem.W.Frag) (mg : Str → Option Value) (T : List (Addr × Str))
def spL (n : Nat) (f : List D → Option (List D)) : Sp := fun vs H Q E => vs.length = n ∧ ∃ G ds, Sub G H ∧ NT G ∧ LamX.Tabs T H ∧ Reps K G vs ds ∧ match f ds with
  | some xs => ∀ p us G' H', Step (fun _ => False) G H G' H' → Sub G' H' → LamX.Tabs T H' → H p = none → H' p = some (.lst us) → G' p = none → Reps K G' us xs → Q (.ref p) H'
  | none => False
end
/-- .. of statements and the last return -/
def GdR (X : Cx) (c : Cz) (ρ : PEnv) (σ : St) (G H : Hp) (r : R (List D)) (Q : VK) : Prop :=
  match r with
  | .ok xs _ => ∀ p us G' H', Sub G' H' → LamX.Tabs c.T H' → Step (Own ρ σ) G H G' H' → H p = none → H' p = some (.lst us) → G' p = none → Reps X.K G' us xs → Q (.ref p) H'
  | _ => False
def SXL (X : Cx) (c : Cz) (W : WX) (st : List Stmt) (g : GE (List D)) : Prop := ∃ t, PSs X st t ∧ ∀ ρ σ G H (Q : VK) (D' : Ends), D'.rt = Q → ER X.K c ρ σ G H → GdR X c ρ σ G H (g ρ) Q → t D' σ H
section
variable {X : Cx} {c : Cz} {W : WX} {e : Expr} {es : List Expr} {st : Stmt} {rest : List Stmt} {g : GS} {gl : GE (List D)} {gs : GE (List D)} {pos : Pos}
theorem SXL.ret (h : LX X c W e gl) : SXL X c W [.Return (some e) pos] gl := by
  obtain ⟨t, p, q⟩ := h
  refine ⟨_, pss_one (ps_ret p), fun ρ σ G H Q D' eD E h => ?_⟩
  subst eD
  refine q ρ σ G H _ E ?_
  cases z : gl ρ with
  | bad => rw [z] at h; exact h
  | er y ρ1 => rw [z] at h; exact False.elim h
  | ok xs ρ1 =>
    rw [z] at h
    exact fun p vs G' H' E' st ow h0 hp hg no r => h p vs G' H' E'.sub E'.tabs st h0 hp hg r
def seqL (g : GS) (gs : GE (List D)) : GE (List D) := fun ρ => match g ρ with
  | .nx ρ1 => gs ρ1
  | _ => .bad
theorem SXL.cons (h1 : SX X c W st g) (h2 : SXL X c W rest gs) : SXL X c W (st :: rest) (seqL g gs) := by
  obtain ⟨t, p, q⟩ := h1
  obtain ⟨u, p2, q2⟩ := h2
  refine ⟨_, pss_cons p p2, fun ρ σ G H Q D' eD E h => q ρ σ G H _ E ?_⟩
  unfold seqL at h
  cases z : g ρ with
  | nx ρ1 =>
    rw [z] at h
    intro σ1 G1 H1 E1 st1 ow1
    refine q2 ρ1 σ1 G1 H1 Q D' eD E1 ?_
    cases z2 : gs ρ1 with
    | bad => simp only [z2] at h; exact h
    | er y ρ2 => simp only [z2] at h; exact h
    | ok xs ρ2 =>
      simp only [z2] at h
      exact fun p us G' H' sb tb st2 h0 hp hg r => h p us G' H' sb tb (st1.trans st2 fun a ha => ow1 a ha) (st1.d p h0) hp hg r
  | rt d ρ1 => rw [z] at h; exact False.elim h
  | bk ρ1 => rw [z] at h; exact False.elim h
  | ct ρ1 => rw [z] at h; exact False.elim h
  | er y ρ1 => rw [z] at h; exact False.elim h
  | bad => rw [z] at h; exact False.elim h
end
def runL (g : GE (List D)) (m : Nat) (ds : List D) : Option (List D) := match g (ds.map .d ++ List.replicate m .un) with
  | .ok xs _ => some xs
  | _ => none
section
variable {P : Program} {w : World} {K : PySem.W.Frag} {mg : Str → Option Value} {base : Heap} {k : Nat} {f : Addr} {fd : FuncData} {ps N : List Str} {x qual : Str} {st : Stmt} {T : List (Addr × Str)} {n m : Nat} {g : GE (List D)}
theorem pure_L (F : Fun K x qual st f fd) (S : FnScope N ps (defScope st)) (hn : ps.length = n) (hN : N.length = n + m)
    (hg : ∀ (cdv : Value) (A : Around) (outer : List Env) (s : Shared) (H : Hp) (E : XK), Room k (A.deeper (envOfC qual (defScope st) s.heap.objs.size f cdv)) → A.guards = some [] → SXL (cxOf (L2.CX P w) P w K mg base N qual (defScope st) f cdv A outer s H E) (czP T) (wE E) (defBody st) g) :
    FnG P w K mg base (k + 1) f fd ps (spL K T n (runL g m)) :=
  fnG_of F S (fun vs H Q E h => h.1.trans hn.symm) fun cdv A outer s H vs Q E hr hgd hsp => by
    obtain ⟨hl, G, ds, sb, nt, tb, rd, q⟩ := hsp
    obtain ⟨t, p, ht⟩ := hg cdv A outer s H E hr hgd
    refine ⟨t, p, ?_⟩
    rw [start_eq hN hl]
    refine ht _ _ G H Q _ rfl (ER.start (c := czP T) rfl sb nt tb rd) ?_
    unfold runL at q
    cases e : g (ds.map .d ++ List.replicate m .un) with
    | ok xs ρ' =>
      rw [e] at q
      exact fun p us G' H' sb' tb' st h0 hp hg r => q p us G' H' (st.mono fun a ha => absurd ha not_own_start) sb' tb' h0 hp hg r
    | er y ρ' => rw [e] at q; exact q.elim
    | bad => rw [e] at q; exact q.elim
end
section
variable {X : Cx} {c : Cz} {W : WX} {k : Nat} {f : Addr} {fd : FuncData} {ps : List Str} {x : Str} {p pos : Pos} {e : Expr} {es : List Expr} {n : Nat} {fL : List D → Option (List D)} {gs : GE (List D)}
def callL (n : Nat) (f : List D → Option (List D)) (gs : GE (List D)) : GE (List D) := fun ρ => (gs ρ).bind fun ds ρ1 => if ds.length = n then (match f ds with
  | some xs => .ok xs ρ1
  | none => .bad) else .bad
theorem LX.callL (F : FnG X.prog X.w X.K X.mg X.base k f fd ps (spL X.K c.T n fL)) (hr : Room k X.A) (hgd : X.A.guards = some []) (hm : X.mg x = some (.ref f)) (hk : PySem.W.keepIn X.K (.ref f) = true) (hb : Binds X.K fd ps []) (hx : ∀ σ, PassesAt (L2.CX X.prog X.w) X σ (WE W σ)) (ha : AX X c W (e :: es) gs)
    (hg : Gl X x := by rfl) (hdb : (x == ("__debug__" : Str)) = false := by decide) (he : starEach (e :: es) X.env = (false, eval e X.env) :: starEach es X.env := by rfl) (hpl : (backTo pos (starEach es X.env)).any (·.1) = false := by rfl) :
    LX X c W (.Call (.Name x p) (e :: es) [] pos) (callL n fL gs) := by
  obtain ⟨t, pa, q⟩ := ha
  refine LX.mk (pe_callG F hr hgd hg hm hk hb hx pa hdb he hpl) fun ρ σ G H Q E hq => q ρ σ G H _ E (GdL.bind hq fun ds ρ1 vs G1 H1 E1 t1 r1 h1 => ?_)
  by_cases hn : ds.length = n
  · rw [if_pos hn] at h1
    refine ⟨by rw [Reps.length r1]; exact hn, G1, ds, E1.sub, E1.nt, E1.tabs, r1, ?_⟩
    cases ef : fL ds with
    | none => rw [ef] at h1; exact h1
    | some xs =>
      rw [ef] at h1
      intro p us G' H' st sb tb h0 hp hg r
      refine h1 p us G' H' (E1.stepF st (fun _ => id) sb tb) (st.mono fun _ z => z.elim) (OwnS.refl _ _ _) h0 hp hg (fun ho => ?_) r
      obtain ⟨vs2, z, _⟩ := own_tracked E1 ho
      rw [h0] at z
      cases z
  · rw [if_neg hn] at h1; exact h1.elim
end
theorem room103 {A : Around} {k : Nat} (hr : Room k A) : A.units + 103 < cLine := by have := hr.un; omega
end PL
end L2
set_option Elab.async false
set_option linter.all false
set_option maxRecDepth 100000
namespace L2
namespace PL
open PySem PySem.Spec PyProof.Rows LamX
/-! ### facts of the head, put together -/
theorem funL_mk {K : PySem.W.Frag} {x qual : Str} {st : Stmt} {f C : Addr} {oc : Value} {od an : Option Addr} {osl : Array (Option Value)} {kV doc pm ct : Value} (l : K.lookup f = some ⟨oc, od, .func (PySem.W.fnOf x qual (defArgs st) (defBody st) (defScope st) .none kV doc pm an (.ref C) ct), osl⟩)
    (c : PySem.W.codeIn K (.ref C) qual = true) (k : PySem.W.keepIn K (.ref f) = true) : FunL K x qual st f (PySem.W.fnOf x qual (defArgs st) (defBody st) (defScope st) .none kV doc pm an (.ref C) ct) C := ⟨⟨oc, od, kV, doc, pm, an, ct, osl, rfl, l, c⟩, k⟩
theorem funD_mk {K : PySem.W.Frag} {x qual : Str} {st : Stmt} {f T : Addr} {oc : Value} {od an : Option Addr} {osl osl2 : Array (Option Value)} {kV doc pm cd ct : Value} {o : Obj} {its : List Value} {n : Nat} {dvs : List V} (l : K.lookup f = some ⟨oc, od, .func (PySem.W.fnOf x qual (defArgs st) (defBody st) (defScope st) (.ref T) kV doc pm an cd ct), osl⟩)
    (c : PySem.W.codeIn K cd qual = true) (k : PySem.W.keepIn K (.ref f) = true) (h : dvs ≠ []) (lt : K.lookup T = some o) (od' : o.data = .seq its.toArray n) (r : Vals dvs its) : FunD K x qual (defArgs st) (defBody st) (defScope st) dvs [] f (PySem.W.fnOf x qual (defArgs st) (defBody st) (defScope st) (.ref T) kV doc pm an cd ct) :=
  ⟨⟨oc, od, _, kV, doc, pm, an, cd, ct, osl, rfl, l, c, .inr ⟨h, T, o, its, n, rfl, lt, od', r⟩, .inl rfl⟩, k⟩
theorem kw_all {K : PySem.W.Frag} {fd : FuncData} {ps : List Str} (h : ∀ us : List Value, us.length = ps.length → bindArgs fd ⟨[], ps.zip us⟩ = pure (ps.zip us)) : BindsKw K fd ps := fun s us _ hl => .of_eq (h us hl)
theorem strs_vals : ∀ {ss : List Str} {its : List Value}, Paired (fun (x : Str) (u : Value) => ∃ t, u = .str x t) ss its → Vals (ss.map V.str) its
  | [], _, h => by cases h; exact .nil
  | x :: ss, _, h => by
    cases h with
    | cons h1 h2 => exact .cons h1 (strs_vals h2)
theorem sqT_mk {K : PySem.W.Frag} {u : Addr} {its : Array Value} {n : Nat} {sl : Array (Option Value)} {ss : List Str} (l : K.lookup u = some ⟨.type "tuple", none, .seq its n, sl⟩) (hs : its.size ≤ 1000) (r : Vals (ss.map V.str) its.toList) (H : Hp) : SqT K H u (ss.map V.str) :=
  .inr ⟨_, its, n, l, rfl, rfl, Nat.le_trans hs (by decide), r⟩
end PL
end L2
set_option Elab.async false
set_option linter.all false
set_option maxRecDepth 100000
set_option maxHeartbeats 4000000
/-! PXa: a list comprehension whose element knows that the def's own frame stands (lambdas called in it) -/
namespace L2
namespace PL
open PySem PySem.Spec PyProof.Rows LamX
section
variable {X : Cx} {pins : List (Addr × Obj)} {σ : St}
/-- [el for tg in it], no tests: el may lean on the def's own invariant at the block's start -/
theorem lc_own {sA : Shared} {HA : Hp} {Q : VK} {el tg it : Expr} {bs : Scope} {own : List (Str × Nat)} {pos : Pos} {wi : TI} {g : TG} {te : TE} (calm : X.calm = true) (nd : X.N.Nodup) (I0 : Inv X pins σ HA sA) (pi : PI X tg it wi) (ok : BlkOk X.N X.env.scope bs own)
    (hg : ∀ (sB : Shared) (HB : Hp) (C : Addr) (cl : List (Str × Addr)) (fp : List Addr), PG (X.blk sB HB bs (compEnvC bs cl C X.env) fp) tg g)
    (he : ∀ (sB : Shared) (HB : Hp) (C : Addr) (cl : List (Str × Addr)) (fp : List Addr), Inv X pins σ HB sB → (∀ b ∈ fp, FpOk X pins HB b) → PE (X.blk sB HB bs (compEnvC bs cl C X.env) fp) el te)
    (plain : ∀ x, foldedSetIterable it X.env x = pure x) (h : tLc wi g tYes te (own.map (·.2)) σ HA Q) :
    wpAny (model X.prog X.w) X.A (eval (.ListComp el [⟨tg, it, [], 0⟩] bs pos) X.env) (fun v s' => ∃ u H', Inv X pins σ H' s' ∧ RelV u v ∧ Q u H') X.xe sA := by
  rw [eval_ListComp]
  have free : ∀ y ∈ bs.names, y.2 = .free → ∃ c, X.env.cells.lookup y.1 = some c := fun y hy e => (ok.free y hy e).elim (fun k => I0.ok.has _ (.inl k)) fun k => I0.ok.has _ (.inr k)
  refine wpAny_comprehension_free (use := none) rfl plain (closure_ok free) ok.kind (fun y hy e => by rw [ok.uniq y hy, e]) ?_
  refine thn (pi.run pins sA σ HA _ I0 h) fun _ s1 h1 => thn h1 fun _ s2 h2 => ?_
  obtain ⟨ia, fp, tn, J, H2, e, I2, T, t0, fk, q⟩ := h2
  subst e
  refine wpAny_newObj_type (newEnv_comp ?_) (by show 0 ≤ sizeLine; decide)
  -- the list that comes to be
  let lo : Obj := { cls := .type "list", data := .seq ([] : List Value).toArray }
  have free2 : H2 s2.heap.objs.size = none := I2.hok.fresh (Nat.le_refl _)
  obtain ⟨Wt, ⟨m0, w0⟩, turns⟩ := q s2.heap.objs.size free2
  let sB : Shared := { s2 with heap := s2.heap.push lo }
  let HB : Hp := upd H2 s2.heap.objs.size (.lst [])
  have IB : Inv X pins σ HB sB := I2.laid (t' := s2.toks) (fun b o e => Heap.get?_push_of_some _ e) (Nat.le_refl _) ⟨Nat.zero_le _, [], 0, .nil, Heap.get?_push_size _ rfl⟩
  have below : ∀ b ∈ fp, b < s2.heap.objs.size := fun b hb => let ⟨_, e, _⟩ := T.obj _ _ t0 b hb; Heap.lt_size e
  have fkB : ∀ b ∈ fp, FpOk X pins HB b ∧ b < sB.heap.objs.size := fun b hb => by
    refine ⟨⟨?_, (fk b hb).2⟩, ?_⟩
    · exact (upd_ne (Nat.ne_of_lt (below b hb))).trans (fk b hb).1
    · show b < (s2.heap.push lo).objs.size
      rw [Heap.size_push]
      exact Nat.lt_succ_of_lt (below b hb)
  have tB : tn 0 sB.heap := T.keep _ _ _ t0 fun b _ o e => Heap.get?_push_of_some _ e
  have IC := block_start IB ok nd fkB
  have cells : ∃ cl, cl = cellsFrom (sB.heap.objs.size + 1) bs.names (cloFrom X.env.cells bs.names []) := ⟨_, rfl⟩
  obtain ⟨cl, ecl⟩ := cells
  rw [← ecl] at IC
  have PG1 := hg sB HB sB.heap.objs.size cl fp
  have PE1 := he sB HB sB.heap.objs.size cl fp IB fun b hb => (fkB b hb).1
  let sC : Shared := { sB with heap := pushCells (sB.heap.push { cls := .type "dict", data := .dict #[] }) bs.names }
  have tC : tn 0 sC.heap := T.keep _ _ _ tB fun b _ o e => pushCells_keeps _ _ _ _ (Heap.get?_push_of_some _ e)
  have gone : ∀ b ∈ fp, HB b = none := fun b hb => (fkB b hb).1.1
  -- the block's context
  have eY : ∃ Y, Y = X.blk sB HB bs (compEnvC bs cl sB.heap.objs.size X.env) fp := ⟨_, rfl⟩
  obtain ⟨Y, eY⟩ := eY
  have yp : Y.prog = X.prog := by rw [eY]
  have yw : Y.w = X.w := by rw [eY]
  have yK : Y.K = X.K := by rw [eY]
  have yc : Y.calm = true := by rw [eY]; exact calm
  have fine : ∀ {σ' : St} {H' : Hp} {s' : Shared}, Inv (X.blk sB HB bs (compEnvC bs cl sB.heap.objs.size X.env) fp) [] σ' H' s' → (∀ b ∈ fp, H' b = none) → ∀ b ∈ fp, FpOk (X.blk sB HB bs (compEnvC bs cl sB.heap.objs.size X.env) fp) [] H' b := fun I' hn b hb =>
    ⟨hn b hb, (I'.ok.exf b hb).1, I'.ok.exfs b hb, .inl hb, fun x c e => (I'.ok.exf b hb).2 x c e, fun p hp => nomatch (show p ∈ ([] : List (Addr × Obj)) from hp)⟩
  refine codeAny_compStart_list ?loop (T.self X.A 0 _ _ _ tC ?loop)
  case loop =>
    show codeAny (model X.prog X.w) X.A (.compLoop (.ListComp el [⟨tg, it, [], 0⟩] bs pos) 0 (.ref ia) (.ref s2.heap.objs.size) (compEnvC bs (cellsFrom (sB.heap.objs.size + 1) bs.names (cloFrom X.env.cells bs.names [])) sB.heap.objs.size X.env)) _ sC
    rw [← ecl]
    refine compLoop_any (fun n s' => ∃ i H', Inv (X.blk sB HB bs (compEnvC bs cl sB.heap.objs.size X.env) fp) [] (wipe σ (own.map (·.2))) H' s' ∧ tn i s'.heap ∧ (∀ b ∈ fp, H' b = none) ∧ Wt i n H') ?_ m0 ⟨0, HB, IC, tC, gone, w0⟩
    rintro n sD ⟨i, HD, ID, tD, gD, wD⟩
    rcases turns i n HD wD with ⟨stop, fin⟩ | ⟨go, Nx, less, yields⟩
    · refine thnF (T.done (X.blk sB HB bs (compEnvC bs cl sB.heap.objs.size X.env) fp) rfl rfl rfl calm i [] sD _ HD (fun _ _ => False) ID (fine ID gD) tD stop) fun r sE hr => ?_
      obtain ⟨er, IE⟩ := hr
      subst er
      -- back in the def's own context
      have IX : Inv X pins σ HD sE := IB.call' (ch := fp) IE.os IE.base IE.hok IE.bare fun b hb => let z := (fkB b hb).1.2; ⟨z.2.2.1, z.1, z.2.2.2.1, z.2.2.2.2⟩
      have nC : HD sB.heap.objs.size = none := IE.free
      obtain ⟨m, hn, _⟩ := IE.loc
      obtain ⟨_, f0, f1, f2, f3, f4⟩ := IB.fpOk (Nat.le_refl _) nC
      refine ⟨m, hn, fun h'' sb => ?_⟩
      exact ⟨.ref s2.heap.objs.size, HD, IX.turned (t' := sE.toks) (fun b o hb e => (sb.2 b hb).trans e) nC f0 f2 f3 f4, rfl, fin⟩
    · refine thnF (T.item (X.blk sB HB bs (compEnvC bs cl sB.heap.objs.size X.env) fp) rfl rfl rfl calm i [] sD _ HD (fun _ _ => False) ID (fine ID gD) tD go) fun r sE hr => ?_
      obtain ⟨u, er, hE⟩ := hr
      subst er
      refine thnF hE fun _ sF hF => ?_
      obtain ⟨x, HF, IF, rF, yF, tF, gF⟩ := hF
      have IF' := IF.pinned (fine IF gF) (T.obj _ _ tF)
      refine thnF (PG1.run _ sF _ HF x u _ IF' rF (yields x HF yF)) fun _ sG hG => ?_
      obtain ⟨σG, HG, IG, eG, qG⟩ := hG
      refine wpAny_tests_nil ?_
      have qG' : (if true = true then te σG HG _ else Nx HG) := qG
      simp only [if_true] at qG' ⊢
      refine thnF (PE1.run _ sG σG HG _ IG qG') fun z sH hH => ?_
      obtain ⟨y, HH, IH, ry, acc, dH, zH, nx⟩ := hH
      refine app_ok (X := X.blk sB HB bs (compEnvC bs cl sB.heap.objs.size X.env) fp) IH dH zH ry fun sK IK => ?_
      obtain ⟨m', hm, wm⟩ := less _ nx
      have still : ∀ b ∈ fp, ∀ o, sF.heap.get? b = some o → sK.heap.get? b = some o ∧ (upd HH s2.heap.objs.size (.lst (acc ++ [y]))) b = none := fun b hb o e =>
        let z := IK.pin (b, o) (List.mem_append_right _ (List.mem_append_right _ (mem_pinsAt hb e)))
        ⟨z.1, z.2.1⟩
      have len : (wipe σ (own.map (·.2))).length = σG.length := by rw [← eG, wipe_length]
      refine ⟨m', hm, i + 1, _, (IK.unpinned (pins := [])).weak len (fun j v e => ?_), T.keep _ _ _ tF fun b hb o e => (still b hb o e).1, fun b hb => ?_, wm⟩
      · rw [← eG] at e
        exact (wipe_some e).1
      · obtain ⟨o, e, _⟩ := T.obj _ _ tF b hb
        exact (still b hb o e).2
end
end PL
end L2
set_option Elab.async false
set_option linter.all false
set_option maxRecDepth 100000
set_option maxHeartbeats 4000000
/-! PXb: a lambda as a value; a def called with it -/
namespace L2
namespace PL
open PySem PySem.Spec PyProof.Rows LamX
/-- at f stands this lambda, its code object is c' -/
def LamO (q : Str) (params : Arguments) (body : Expr) (scope : Scope) (cl : List (Str × Addr)) (f c' : Addr) : HO :=
  .ext fun h => ∃ pm ctv : Value, h.get? f = some (PySem.W.kla_obj "<lambda>" q params body scope cl pm c' ctv)
theorem LamO.ok {P : Program} {w : World} {H : Hp} {h : Heap} {q : Str} {params : Arguments} {body : Expr} {scope : Scope} {cl : List (Str × Addr)} {f c' : Addr} {pm ctv : Value} (e : h.get? f = some (PySem.W.kla_obj "<lambda>" q params body scope cl pm c' ctv)) : ObjOk P w H h f (LamO q params body scope cl f c') :=
  ⟨⟨pm, ctv, e⟩, ⟨_, e⟩, fun _ _ ⟨pm, ctv, z⟩ st => ⟨pm, ctv, st _ z⟩⟩
section
variable {X : Cx} {pins : List (Addr × Obj)} {σ : L2.St} {H : Hp} {s : Shared}
theorem lam_make4 {T : List (Addr × Str)} {c P : Addr} {params : Arguments} {body : Expr} {scope : Scope} {pos : Pos} {E : Value → Shared → Prop} {Q : Value → Shared → Prop} (I : Inv X pins σ H s) (TB : TabB X.base X.mg c P) (hc : X.env.code = .ref c)
    (hm : (P, X.env.qual ++ "<lambda>") ∈ T) (hu : ∀ p ∈ T, p.1 = P → p.2 = X.env.qual ++ "<lambda>") (hT : Tabs T H) (hdef : defaultsOf params X.env = ([], [])) (hfr : ∀ y ∈ scope.names, y.2 = .free → ∃ c, X.env.cells.lookup y.1 = some c)
    (k : ∀ (f c' : Addr) (H1 : Hp) (s1 : Shared), Inv X pins σ (upd H1 f (LamO (X.env.qual ++ "<lambda>") params body scope (cloFrom X.env.cells scope.names []) f c')) s1 → MadeT P (X.env.qual ++ "<lambda>") H H1 → Tabs T H1 →
      H1 f = none → H1 c' = some (CodeO c' (X.env.qual ++ "<lambda>")) → Q (.ref f) s1) :
    wpAny (model X.prog X.w) X.A (eval (.Lambda params body scope pos) X.env) Q E s := by
  obtain ⟨ps, hP, hok, hall⟩ := hT _ hm
  apply PySem.W.kla_eval hdef
  have obP : s.heap.get? P = some { cls := .none, data := .fields ps } := I.hok P _ hP
  cases hfind : codeAmong pos ps.toList with
  | some cv =>
    obtain ⟨c', e, hco⟩ := hall pos cv hfind
    subst e
    refine PySem.W.kla_makeFunctionHit (mg := X.mg) (c := c) (P := P) (ps := ps) (closure_ok hfr) I.ok.glob (I.mod.glob.keeps I.bk) hc (TB.code.keeps I.bk) obP hok hfind (TB.bm.keeps I.bk) fun ctv h' tk hx hsz => ?_
    have kp : ∀ b o, s.heap.get? b = some o → (h'.push (PySem.W.kla_obj "<lambda>" (X.env.qual ++ "<lambda>") params body scope (cloFrom X.env.cells scope.names []) ((X.mg "__name__").getD .none) c' ctv)).get? b = some o := fun b o e => Heap.get?_push_of_some _ (hx b o e)
    exact k h'.objs.size c' H _ (I.laid (t' := tk) kp hsz (LamO.ok (Heap.get?_push_size _ rfl))) (.inl rfl) hT (I.hok.fresh hsz) hco
  | none =>
    refine PySem.W.kla_makeFunction (mg := X.mg) (c := c) (P := P) (ps := ps) (closure_ok hfr) I.ok.glob (I.mod.glob.keeps I.bk) hc (TB.code.keeps I.bk) obP hok hfind TB.gP (TB.bm.keeps I.bk) fun c' ctv h' tk hx hge hlt hrec htb => ?_
    obtain ⟨c2, oc, vs, t, e2, hoc, hdat, hname⟩ := hrec
    cases e2
    have hsz : s.heap.objs.size ≤ h'.objs.size := by omega
    have n0 : H c' = none := I.hok.fresh hge
    have I1 := inv_table (t' := tk) (more := #[rawInt pos.line, rawInt pos.col, .ref c']) (h' := h') I hP
      (fun b o hb e => hx b o hb e) htb hge ⟨oc, vs, t, hoc, hdat, hname⟩
    have lst : (ps ++ #[rawInt pos.line, rawInt pos.col, .ref c']).toList = ps.toList ++ [rawInt pos.line, rawInt pos.col, .ref c'] := by simp
    have still : ∀ b o, H b = some o → (∀ qs, o ≠ .tbl qs) → upd (upd H P (.tbl (ps ++ #[rawInt pos.line, rawInt pos.col, .ref c']))) c' (CodeO c' (X.env.qual ++ "<lambda>")) b = some o := fun b o e n => by
      rw [upd_ne (ne_of_none e n0), upd_ne (fun z => n ps (Option.some.inj (e.symm.trans (by rw [z]; exact hP))))]
      exact e
    have I2 := I1.laid (t' := tk) (h' := h'.push (PySem.W.kla_obj "<lambda>" (X.env.qual ++ "<lambda>") params body scope (cloFrom X.env.cells scope.names []) ((X.mg "__name__").getD .none) c' ctv)) (fun b o e => Heap.get?_push_of_some _ e) (Nat.le_refl _)
      (LamO.ok (q := X.env.qual ++ "<lambda>") (params := params) (body := body) (scope := scope) (cl := cloFrom X.env.cells scope.names []) (f := h'.objs.size) (c' := c') (Heap.get?_push_size _ rfl))
    refine k h'.objs.size c' _ _ I2 (.inr ⟨c', ps, _, hP, n0, rfl⟩) (fun p hp => ?_) ?_ upd_same
    · by_cases hb : p.1 = P
      · rw [hu p hp hb, hb]
        refine ⟨_, by rw [upd_ne (ne_of_none hP n0), upd_same], by rw [lst]; exact PySem.TriplesOk_snoc _ _ _ _ hok, fun p2 cv hcv => ?_⟩
        rw [lst] at hcv
        rcases among_app _ hok hcv with z | z
        · obtain ⟨c0, e1, e2⟩ := hall p2 cv z
          exact ⟨c0, e1, still _ _ e2 codeO_ne⟩
        · exact ⟨c', z, upd_same⟩
      · obtain ⟨qs, a1, a2, a3⟩ := hT p hp
        refine ⟨qs, by rw [upd_ne (ne_of_none a1 n0), upd_ne hb]; exact a1, a2, fun p2 cv hcv => ?_⟩
        obtain ⟨c0, e1, e2⟩ := a3 p2 cv hcv
        exact ⟨c0, e1, still _ _ e2 codeO_ne⟩
    · exact I1.hok.fresh (Nat.le_refl _)
end
/-- lambda: body, as a value -/
def tLamV (T : List (Addr × Str)) (P : Addr) (q : Str) (u : Addr → Addr → HO) : TE := fun _ H Q => Tabs T H ∧ ∀ H1 f c', MadeT P q H H1 → Tabs T H1 → H1 f = none → H1 c' = some (CodeO c' q) → Q (.ref f) (upd H1 f (u f c'))
theorem pe_lamV {X : Cx} {T : List (Addr × Str)} {c P : Addr} {params : Arguments} {body : Expr} {scope : Scope} {pos : Pos} (TB : TabB X.base X.mg c P) (hcode : X.env.code = .ref c) (hmT : (P, X.env.qual ++ "<lambda>") ∈ T) (hu : ∀ p ∈ T, p.1 = P → p.2 = X.env.qual ++ "<lambda>")
    (L : LamS X.env.scope scope) (hdef : defaultsOf params X.env = ([], [])) : PE X (.Lambda params body scope pos) (tLamV T P (X.env.qual ++ "<lambda>") (LamO (X.env.qual ++ "<lambda>") params body scope (cloFrom X.env.cells scope.names []))) := by
  constructor
  intro pins s σ H Q I h
  obtain ⟨hT, h⟩ := h
  exact lam_make4 I TB hcode hmT hu hT hdef (L.has I.ok) fun f c' H1 s1 I1 mT T1 hn hco => ⟨.ref f, _, I1, rfl, h H1 f c' mT T1 hn hco⟩
section
variable {X : Cx} {pins : List (Addr × Obj)} {σ : L2.St} {H : Hp} {s : Shared}
/-- a(), a the lambda's name in the def that got it; told of the heap -/
theorem pe_act2 {CXg : CXT} {Eg : XK} {Ng : List Str} {qg : Str} {sg : Scope} {g f c' : Addr} {cdg : Value} {params : Arguments} {body : Expr} {scope : Scope} {k i : Nat} {a : Str} {pn : List (Addr × Obj)} {xe : Value → Shared → Prop} {W : WX} {E : XK} {tb : TE} {p1 p2 : Pos}
    (I0 : Inv X pins σ H s) (L : LamS X.env.scope scope)
    (hbind : ∀ (q : Str) (cl : List (Str × Addr)) (pm cv ctv : Value), bindArgs (PySem.W.kla_fn "<lambda>" q params body scope cl pm cv ctv) ⟨[], []⟩ = pure [])
    (tk : Takes ((cxOf CXg X.prog X.w X.K X.mg X.base Ng qg sg g cdg X.A X.stack s H Eg).tr pn xe) W) (hW : ∀ cls d σ' H', E cls d H' → W cls d σ' H') (room : Room (k + 1) (X.A.deeper (envOfC qg sg s.heap.objs.size g cdg)))
    (hbody : ∀ (A : Around) (outer : List Env) (s : Shared) (H : Hp), Room k (A.deeper (lamEnv X scope s.heap.objs.size f c')) → PE (lamCx X A outer s H E scope f c') body tb)
    (hN : Ng[i]? = some a) (vis : Vis sg a) (hd : (a == ("__debug__" : Str)) = false := by decide) (hcd : (a == ("__classdict__" : Str)) = false := by decide) :
    PE ((cxOf CXg X.prog X.w X.K X.mg X.base Ng qg sg g cdg X.A X.stack s H Eg).tr pn xe) (.Call (.Name a p1) [] [] p2)
      (fun σZ HZ Q => σZ[i]? = some (some (.ref f)) ∧ (HZ f = some (LamO (X.env.qual ++ "<lambda>") params body scope (cloFrom X.env.cells scope.names []) f c') ∧ HZ c' = some (CodeO c' (X.env.qual ++ "<lambda>"))) ∧ tb σ HZ Q) := by
  constructor
  intro pinsZ sZ σZ HZ Q IZ hz
  obtain ⟨at_, ⟨atf, atc⟩, ht⟩ := hz
  have name := (pe_var (pos := p1) (i := i) hN vis hd hcd).run pinsZ sZ σZ HZ (fun v H1 => v = .ref f ∧ H1 = HZ) IZ ⟨.ref f, at_, rfl, rfl⟩
  refine wpAny_Call_Name_kw (thn name fun u s1 hu => ?_)
  obtain ⟨v, H1, J, rv, ev, eH⟩ := hu
  subst ev
  subst eH
  cases rv
  obtain ⟨⟨pm, ctv, isf⟩, _, _⟩ := J.hok f _ atf
  obtain ⟨⟨oc, vs, t, isc, dat, nm⟩, _, _⟩ := J.hok c' _ atc
  refine PySem.W.callWith_F0 ⟨_, _, _, _, isf⟩ ?_
  have since : Un (frs X.stack) [] H H1 s.heap s1.heap := J.base
  have run : codeAny (model X.prog X.w) (X.A.deeper (envOfC qg sg s.heap.objs.size g cdg)) (.call (.ref f) ⟨[], []⟩) (CR (L2.CX X.prog X.w) (envOfC qg sg s.heap.objs.size g cdg :: X.stack) X.prog X.w H1 s1 Q E) s1 := by
    refine PySem.W.kla_callFunE room.depth isf rfl L.co L.gen rfl ⟨c', oc, vs, t, rfl, isc, dat, nm⟩ ?_
    rw [hbind]
    refine wpAny_pure (wpAny_newFunctionEnv (fun y hy => (L.own y hy).2) (fun y hy => absurd hy (by simp)) (fun h₁ ns sub => ⟨J.nolimit.fresh _ sub, ?_⟩) L.kind)
    show codeAny _ _ (.expr body (lamEnv X scope s1.heap.objs.size f c')) _ _
    have old : ∀ b o, s1.heap.get? b = some o → h₁.get? b = some o := fun b o e => sub.extBut b o (Nat.ne_of_lt (Heap.lt_size e)) (Heap.get?_push_of_some _ e)
    have K0 : Inv (lamCx X (X.A.deeper (envOfC qg sg s.heap.objs.size g cdg)) (envOfC qg sg s.heap.objs.size g cdg :: X.stack) s1 H1 E scope f c') [] σ H1 { s1 with heap := h₁, toks := s1.toks + ([] : List (Str × Value)).length } := lam_start2 I0 L J.env0 room.hd since ns old
    refine PySem.W.kla_codeExpr (wpAny_mono ((hbody _ _ s1 H1 (room.deeper _)).run [] _ _ H1 Q K0 ht) (fun v s' hv => ?_) fun _ _ z => z)
    obtain ⟨w', H', K1, rv, q⟩ := hv
    exact ⟨w', H', K1.os, K1.bare, K1.base, K1.hok, rv, q⟩
  have out : Passes (L2.CX X.prog X.w) ((cxOf CXg X.prog X.w X.K X.mg X.base Ng qg sg g cdg X.A X.stack s H Eg).tr pn xe) E := passes_call tk hW
  refine wpAny_call (codeAny_mono run fun r s' hr => ?_)
  cases r with
  | error e => exact out pinsZ σZ H1 s1 e s' J hr
  | ok fl =>
    cases fl with
    | ret u => exact J.after hr
    | next => exact False.elim hr
    | brk => exact False.elim hr
    | cont => exact False.elim hr
end
end PL
end L2
set_option Elab.async false
set_option linter.all false
set_option maxRecDepth 100000
set_option maxHeartbeats 4000000
/-! PXc: heard(call), call a lambda of the def, in a comprehension's block -/
namespace L2
namespace PL
open PySem PySem.Spec PyProof.Rows LamX
section
variable {X : Cx} {Ng : List Str} {x : Str} {sg : Scope} {g : Addr} {cdg : Value}
theorem heard_gives2 {a tn n : Str} {ei ew : Expr} {ini wr : Option Str} {h0 : ExceptHandler} {hds : List ExceptHandler} {lt : List TRd} {pa pb pc pd pt pr pr2 : Pos} {Pz : Hp → Prop} (hPz : ∀ (H : Hp) (p : Addr) (o : HO), H p = none → Pz H → Pz (upd H p o))
    (hN : Ng.Nodup) (hl3 : Ng.length = 3) (h1 : Ng[1]? = some tn) (h2 : Ng[2]? = some n) (l1 : sg.names.lookup tn = some .local) (l2 : sg.names.lookup n = some .local)
    (d1 : (tn == ("__debug__" : Str)) = false) (d2 : (tn == ("__classdict__" : Str)) = false) (hi : IniE ei ini) (hw : WrapE a ew wr) (hh : ∀ s H, HdsAs (ZH X Ng x sg g cdg s H) n (h0 :: hds) (lt.map fun p => (.ref p.1, tsC p)))
    (hs1 : ∀ env : Env, swapsWith ei (some (.Name tn pa)) pb.line env = pure false) (hs2 : ∀ env : Env, swapsWith ew (some (.Name tn pc)) pd.line env = pure false)
    (f : Addr) (s : Shared) (H : Hp) (Q : VK) (tl : XK → Hp → VK → Prop)
    (act : ∀ (W : WX) (pn : List (Addr × Obj)) (xe : Value → Shared → Prop) (E : XK) (p1 p2 : Pos), Takes ((cxOf C8.CX0 X.prog X.w X.K X.mg X.base Ng x sg g cdg X.A X.stack s H C8.E0).tr pn xe) W → (∀ cls d σ' H', E cls d H' → W cls d σ' H') →
      PE ((cxOf C8.CX0 X.prog X.w X.K X.mg X.base Ng x sg g cdg X.A X.stack s H C8.E0).tr pn xe) (.Call (.Name a p1) [] [] p2) (fun σZ HZ Q => σZ[0]? = some (some (.ref f)) ∧ Pz HZ ∧ tl E HZ Q))
    (hc : Pz H) (h : TTh X.K ini wr lt tl H Q) :
    ∃ t, PSs (cxOf C8.CX0 X.prog X.w X.K X.mg X.base Ng x sg g cdg X.A X.stack s H C8.E0).nox [.Assign [.Name tn pa] ei pb, .Try [.Assign [.Name tn pc] ew pd] (h0 :: hds) [] [] pt, .Return (some (.Name tn pr)) pr2] t ∧ t { nx := fun _ H' => Q .non H', rt := Q } (L2.start Ng [.ref f]) H := by
  have hst : L2.start Ng [V.ref f] = [some (.ref f), none, none] := by
    unfold L2.start
    rw [hl3]
    rfl
  refine ⟨_, pss_cons (ps_set (X := ZH X Ng x sg g cdg s H) (i := 1) hN h1 (.inl l1) (hi.pe _) (hs1 _) (.inr l1)) (pss_cons (ps_tryAs (X := ZH X Ng x sg g cdg s H) (n := n) (i := 2)
    (tb := fun W D σ H => (∀ cls d σ' H', σ'.length = 3 → EHx X.K Q lt cls d H' → W cls d σ' H') ∧ tAsg (tWrap (fun σZ HZ Q' => σZ[0]? = some (some (.ref f)) ∧ Pz HZ ∧ tl (EHx X.K Q lt) HZ Q') wr) (gName 1) D σ H)
    rfl rfl hN h2 l2 takes0 (fun W pn xe tk _ => ?_) (hh s H)) (pss_one (ps_ret (pe_var (i := 1) h1 (.inl l1) d1 d2)))), ?_⟩
  · refine ⟨fun pins s' σ H' D' I hh' => ?_⟩
    obtain ⟨hW, h3⟩ := hh'
    have hp := fun p1 p2 => act _ pn xe (EHx X.K Q lt) p1 p2 (takes_len tk) (fun cls d σ' H' e hl => hW cls d σ' H' (hl.trans hl3) e)
    exact (pss_one (ps_set (X := (ZH X Ng x sg g cdg s H).tr pn xe) (i := 1) hN h1 (.inl l1) (hw.pe _ hp) (hs2 _) (.inr l1))).run pins s' σ H' D' I h3
  · rw [hst]
    have hD : ∀ (σ : St) (v : V) (H : Hp), σ.length = 3 → Q v H → ∃ v', ((σ.set 1 (some v)).set 2 none)[1]? = some (some v') ∧ Q v' H := fun σ v H hl q => ⟨v, by rw [List.getElem?_set_ne (by decide), List.getElem?_set_self (by omega)], q⟩
    have tl_ok : ∀ (v0 : V) (H0 : Hp), Pz H0 → (∀ Q' : VK, (∀ v H1, wrapP wr v H1 Q → Q' v H1) → tl (EHx X.K Q lt) H0 Q') → ∀ D' : Ends, D'.nx = (fun σ H => ∃ v, σ[1]? = some (some v) ∧ Q v H) →
        (∀ cls d σ' H', σ'.length = 3 → EHx X.K Q lt cls d H' → wAsM X.K 2 (fun _ _ _ _ => False) D' (lt.map fun p => (.ref p.1, tsC p)) cls d σ' H') ∧ tAsg (tWrap (fun σZ HZ Q' => σZ[0]? = some (some (.ref f)) ∧ Pz HZ ∧ tl (EHx X.K Q lt) HZ Q') wr) (gName 1) D' [some (.ref f), some v0, none] H0 := fun v0 H0 hc0 k D' eD => by
      refine ⟨fun cls d σ' H' hl e => EHx.was (fun σ v H hl q => by rw [eD]; exact hD σ v H hl q) hl e, ?_⟩
      unfold tAsg gName
      rw [eD]
      cases wr with
      | none => exact ⟨rfl, hc0, k _ fun v H1 q => ⟨v, rfl, q⟩⟩
      | some w => exact ⟨rfl, hc0, k _ fun v H1 q => ⟨show 2 ≤ sizeLine by decide, fun p hp => ⟨_, rfl, q p hp⟩⟩⟩
    cases ini with
    | none => exact tl_ok .non H hc h _ rfl
    | some w => exact ⟨show 1 ≤ sizeLine by decide, fun p hp => tl_ok (.ref p) _ (hPz _ _ _ hp hc) (h p hp) _ rfl⟩
end
/-- a def's lambdas, by number -/
structure LamD where
  params : Arguments
  body : Expr
  scope : Scope
def lamAt (X : Cx) (l : LamD) : Addr → Addr → HO := LamO (X.env.qual ++ "<lambda>") l.params l.body l.scope (cloFrom X.env.cells l.scope.names [])
section
variable {X : Cx} {pins : List (Addr × Obj)} {σ : St} {HB : Hp} {sB : Shared} {bs : Scope} {C : Addr} {cl : List (Str × Addr)} {fp : List Addr}
theorem pe_heardRef {x a tn n y : Str} {st : Stmt} {g : Addr} {kV doc pm cdv ct oc : Value} {an od : Option Addr} {osl : Array (Option Value)} {Ng : List Str} {k iy : Nat} {ei ew : Expr} {ini wr : Option Str} {h0 : ExceptHandler} {hds : List ExceptHandler} {pa pb pc pd pt pr pr2 p py pos : Pos} {lams : List LamD} {lt : List TRd} {t : Nat → XK → TE}
    (hI : Inv X pins σ HB sB) (hfp : ∀ b ∈ fp, FpOk X pins HB b)
    (lk : X.K.lookup g = some ⟨oc, od, .func (PySem.W.fnOf x x (defArgs st) (defBody st) (defScope st) .none kV doc pm an cdv ct), osl⟩) (hcd' : PySem.W.codeIn X.K cdv x = true) (S : FnScope Ng [a] (defScope st)) (hb : L2.Binds X.K (PySem.W.fnOf x x (defArgs st) (defBody st) (defScope st) .none kV doc pm an cdv ct) [a] []) (hbd : defBody st = [.Assign [.Name tn pa] ei pb, .Try [.Assign [.Name tn pc] ew pd] (h0 :: hds) [] [] pt, .Return (some (.Name tn pr)) pr2])
    (hh : ∀ s H, HdsAs (ZH X Ng x (defScope st) g cdv s H) n (h0 :: hds) (lt.map fun p => (.ref p.1, tsC p))) (hl3 : Ng.length = 3) (h00 : Ng[0]? = some a) (h1 : Ng[1]? = some tn) (h2 : Ng[2]? = some n) (hva : Vis (defScope st) a) (l1 : (defScope st).names.lookup tn = some .local) (l2 : (defScope st).names.lookup n = some .local)
    (d1 : (tn == ("__debug__" : Str)) = false) (d2 : (tn == ("__classdict__" : Str)) = false) (hi : IniE ei ini) (hw : WrapE a ew wr)
    (hs1 : ∀ env : Env, swapsWith ei (some (.Name tn pa)) pb.line env = pure false) (hs2 : ∀ env : Env, swapsWith ew (some (.Name tn pc)) pd.line env = pure false)
    (hm : X.mg x = some (.ref g)) (hk : PySem.W.keepIn X.K (.ref g) = true) (hr : Room (k + 2) X.A)
    (hL : ∀ (j : Nat) (d : LamD), lams[j]? = some d → LamS X.env.scope d.scope ∧ (∀ (q : Str) (cl : List (Str × Addr)) (pm cv ctv : Value), bindArgs (PySem.W.kla_fn "<lambda>" q d.params d.body d.scope cl pm cv ctv) ⟨[], []⟩ = pure []) ∧
      ∀ (A : Around) (outer : List Env) (s : Shared) (H : Hp) (E : XK) (f c' : Addr), Room k (A.deeper (lamEnv X d.scope s.heap.objs.size f c')) → PE (lamCx X A outer s H E d.scope f c') d.body (t j E))
    (hNy : X.N[iy]? = some y) (hvy : Vis (compEnvC bs cl C X.env).scope y) (hdy : (y == ("__debug__" : Str)) = false) (hcy : (y == ("__classdict__" : Str)) = false)
    (hg : Gl (X.blk sB HB bs (compEnvC bs cl C X.env) fp) x) (hdb : (x == ("__debug__" : Str)) = false := by decide) (hd : (a == ("__debug__" : Str)) = false := by decide) (hcd : (a == ("__classdict__" : Str)) = false := by decide) :
    PE (X.blk sB HB bs (compEnvC bs cl C X.env) fp) (.Call (.Name x p) [.Name y py] [] pos)
      (fun σ' H' Q => ∃ (j : Nat) (d : LamD) (f c' : Addr), lams[j]? = some d ∧ σ'[iy]? = some (some (.ref f)) ∧ H' f = some (lamAt X d f c') ∧ H' c' = some (CodeO c' (X.env.qual ++ "<lambda>")) ∧ TTh X.K ini wr lt (fun E H'' Q' => t j E σ H'' Q') H' Q) := by
  constructor
  intro pins' s σ' H' Q I ⟨j, d, f, c', hj, hσ, hf, hc, h⟩
  obtain ⟨Lj, bindj, bodyj⟩ := hL j d hj
  refine wpAny_Call_Name_kw (ld_glob I hg hm ?_ hdb)
  refine PySem.W.callWith_K (h₀ := X.base) I.ok.mod.kin hk ?_ (by rfl) (by rfl)
  show wpAny _ _ (spliced ((false, eval (.Name y py) (compEnvC bs cl C X.env)) :: backTo pos (starEach [] (compEnvC bs cl C X.env)))) _ _ s
  have ev := (pe_var (X := X.blk sB HB bs (compEnvC bs cl C X.env) fp) (pos := py) hNy hvy hdy hcy).run pins' s σ' H' (fun v H1 => v = .ref f ∧ H1 = H') I ⟨.ref f, hσ, rfl, rfl⟩
  refine Calls.spliced_cons (thn ev fun u s1 hu => ?_)
  obtain ⟨v, H1, I1, rv, e1, e2⟩ := hu
  subst e1
  subst e2
  cases rv
  -- the def's own frame stands
  have I0 : Inv X pins σ H1 s1 := by
    have Ib : Un (frs X.stack) fp HB H1 sB.heap s1.heap := I1.base
    exact hI.call' (ch := fp) I1.os Ib I1.hok I1.bare fun b hb => let z := (hfp b hb).2; ⟨z.2.2.1, z.1, z.2.2.2.1, z.2.2.2.2⟩
  refine Calls.spliced_nil ⟨I1.kIn, ?_⟩
  have rc : codeAny (model X.prog X.w) X.A (.call (.ref g) ⟨[.ref f], []⟩) (CR C8.CX0 X.stack X.prog X.w H1 s1 Q C8.E0) s1 := by
    refine run_ofS (N := Ng) (ps := [a]) (us := [.ref f]) (vs := [.ref f]) lk hcd' S hr I1.env0 (hb s1 [.ref f] I1.kIn rfl) (.cons rfl .nil) rfl fun hr' => ?_
    rw [hbd]
    have give := heard_gives2 (X := X) (pt := pt) (pr := pr) (pr2 := pr2) (x := x) (sg := defScope st) (g := g) (cdg := cdv) (Pz := fun HZ => HZ f = some (lamAt X d f c') ∧ HZ c' = some (CodeO c' (X.env.qual ++ "<lambda>")))
      (fun H p o hp hz => ⟨by rw [upd_ne (ne_of_none hz.1 hp)]; exact hz.1, by rw [upd_ne (ne_of_none hz.2 hp)]; exact hz.2⟩) S.nd hl3 h1 h2 l1 l2 d1 d2 hi hw hh hs1 hs2 f s1 H1 Q (fun E H'' Q' => t j E σ H'' Q')
      (fun W pn xe E p1 p2 tk hW => pe_act2 (i := 0) I0 Lj bindj tk hW hr' (fun A outer s H hr2 => bodyj A outer s H E f c' hr2) h00 hva hd hcd) ⟨hf, hc⟩ h
    obtain ⟨t', ht', hq'⟩ := give
    exact ⟨t', ht'.nox, hq'⟩
  refine wpAny_call (codeAny_mono rc fun r s2 hq => ?_)
  cases r with
  | error e => exact (show False from hq).elim
  | ok fl =>
    cases fl with
    | ret u => exact I1.after hq
    | next => exact False.elim hq
    | brk => exact False.elim hq
    | cont => exact False.elim hq
end
end PL
end L2
set_option Elab.async false
set_option linter.all false
set_option maxRecDepth 100000
set_option maxHeartbeats 4000000
/-! PXd: [heard(call) for call in calls], calls a list of the def's lambdas -/
namespace L2
namespace PL
open PySem PySem.Spec PyProof.Rows LamX
theorem paired_at {α β : Type} {F : α → β → Prop} : ∀ {xs : List α} {ys : List β}, Paired F xs ys → xs.length = ys.length ∧ ∀ (i : Nat) (y : β), ys[i]? = some y → ∃ x, xs[i]? = some x ∧ F x y
  | _, _, .nil => ⟨rfl, fun i y h => by cases i <;> cases h⟩
  | _, _, .cons (a := a) (b := b) h r => by
    obtain ⟨l, k⟩ := paired_at r
    refine ⟨congrArg (· + 1) l, fun i y e => ?_⟩
    cases i with
    | zero => cases e; exact ⟨a, rfl, h⟩
    | succ i => exact k i y e
theorem slot_lams {K : PySem.W.Frag} {c : Cz} {ρ : PEnv} {σ : St} {G H : Hp} {i : Nat} {js : List Nat} (E : ER K c ρ σ G H) (h : ρ[i]? = some (.lams js)) : ∃ v, σ[i]? = some (some v) ∧ LamsAt c G H js v := by
  have q := E.slot i _ h
  cases hs : σ[i]? with
  | none => rw [hs] at q; exact q.elim
  | some o =>
    cases o with
    | none => rw [hs] at q; exact q.elim
    | some v => rw [hs] at q; exact ⟨v, rfl, q⟩
/-- the def's lambdas as objects -/
def lamTab (X : Cx) (ls : List LamD) : Nat → Addr → Addr → HO := fun j => match ls[j]? with
  | some d => lamAt X d
  | none => fun _ _ => .lst []
def czC (T : List (Addr × Str)) (io : List (Nat × Addr)) (X : Cx) (ls : List LamD) : Cz := { T := T, io := io, lam := lamTab X ls, lq := X.env.qual ++ "<lambda>" }
section
variable {X : Cx} {c : Cz} {W : WX}
theorem heard_sem2 {ini wr : Option Str} {lt : List TRd} {l : List Cl} {ge : GE D} (hP : Paired (TRok X.K X.mg) lt l) (hM : ExM X.K l) (hmg : ∀ a ∈ l, X.mg a.1 = some (.ref a.2.1)) {ρ : PEnv} {σ : St} {G H : Hp} {Q : VK} (E1 : ER X.K c ρ σ G H) (hq1 : Gd X c W ρ σ G H (heardE wr (strip l) ge ρ) (RV X) Q) :
    TTh X.K ini wr lt (fun E H' Q' => tP X c (wE E) ge σ H' Q') H Q := by
  have main : ∀ H0, ER X.K c ρ σ G H0 → Gd X c W ρ σ G H0 (heardE wr (strip l) ge ρ) (RV X) Q → ∀ Q' : VK, (∀ v H1, wrapP wr v H1 Q → Q' v H1) → tP X c (wE (EHx X.K Q lt)) ge σ H0 Q' := fun H0 E0 h Q' hQ => by
    refine ⟨ρ, G, E0, ?_⟩
    unfold heardE at h
    cases eg : ge ρ with
    | bad => rw [eg] at h; exact h
    | ok d ρ1 =>
      rw [eg] at h
      intro v G' H' E' st ow r
      apply hQ
      cases wr with
      | none => exact h v G' H' E' st ow r
      | some w =>
        intro p hp
        have sn : StepN G' H' (upd G' p (.lst [.str w, v])) (upd H' p (.lst [.str w, v])) := StepN.new E'.sub hp
        exact h (.ref p) _ _ (E'.stepN sn) (st.trans (sn.step (Own ρ σ)) fun _ z => .inl z) ow (.lst upd_same (.cons (.str w) (.cons (Rep.sub sn.g r) .nil)))
    | er y ρ1 =>
      rw [eg] at h
      intro C dd G' H' E' st ow xr
      have h' : Gd X c W ρ σ G H0 (ofOpt (hdF (strip l) y) ρ1) (RV X) Q := h
      cases ed : hdF (strip l) y with
      | none => rw [ed] at h'; exact h'.elim
      | some d =>
        rw [ed] at h'
        obtain ⟨a, ha, ea⟩ := hdF_mem ed
        have eC : C = a.2.1 := by
          have z := xr.1
          rw [← ea, hmg a ha] at z
          exact (Value.ref.inj (Option.some.inj z)).symm
        refine EHx.of E'.sub xr (fun v G2 H2 sn r => h' v G2 H2 (E'.stepN sn) (st.trans (sn.step (Own ρ σ)) fun _ z => .inl z) ow r) hP ed fun q hq => ?_
        rw [eC, ← ea]
        exact hM a ha q hq
  unfold TTh
  cases ini with
  | none => exact main H E1 hq1
  | some w =>
    intro p hp
    have sn : StepN G H G (upd H p (.lst [.str w])) := ⟨Sub.refl G, fun _ _ e => .inl e, fun b u e => by rw [upd_ne (ne_of_none e hp)]; exact e, fun b u e => by
      have e' := E1.sub b u e
      rw [upd_ne (ne_of_none e' hp)]; exact e', id⟩
    exact main _ (E1.stepN sn) (Gd.shift hq1 (sn.step _) (OwnS.refl _ _ _))
/-- what the list tells -/
def hGo (wr : Option Str) (hdl : List (Str × (Exn → Option D))) (ges : List (GE D)) : List Nat → PEnv → List D → R (List D)
  | [], ρ, acc => .ok acc ρ
  | j :: js, ρ, acc => match heardE wr hdl (ges.getD j fun _ => .bad) ρ with
    | .ok y ρ1 => if acc.length < lim then hGo wr hdl ges js ρ1 (acc ++ [y]) else .bad
    | _ => .bad
def heardAllL (i : Nat) (wr : Option Str) (hdl : List (Str × (Exn → Option D))) (ges : List (GE D)) : GE (List D) := fun ρ => match ρ[i]? with
  | some (.lams js) => hGo wr hdl ges js ρ []
  | _ => .bad
theorem heardAll_sem {i iy : Nat} {ini wr : Option Str} {lt : List TRd} {l : List Cl} {lams : List LamD} {ges : List (GE D)} (hc : ∀ j d, lams[j]? = some d → c.lam j = lamAt X d) (hlq : c.lq = X.env.qual ++ "<lambda>") (hlen : ges.length ≤ lams.length)
    (hP : Paired (TRok X.K X.mg) lt l) (hM : ExM X.K l) (hmg : ∀ a ∈ l, X.mg a.1 = some (.ref a.2.1)) :
    ∀ ρ σ G H Q, iy < σ.length → ER X.K c ρ σ G H → GdL X c W ρ σ G H (heardAllL i wr (strip l) ges ρ) Q →
    tLc (iList X.K (tVar i)) (gName iy) tYes (fun σ' H' Q => ∃ (j : Nat) (d : LamD) (f c' : Addr), lams[j]? = some d ∧ σ'[iy]? = some (some (.ref f)) ∧ H' f = some (lamAt X d f c') ∧ H' c' = some (CodeO c' (X.env.qual ++ "<lambda>")) ∧ TTh X.K ini wr lt (fun E H'' Q' => tP X c (wE E) (ges.getD j fun _ => .bad) σ H'' Q') H' Q) [iy] σ H Q := fun ρ σ G H Q hlt2 E h => by
  unfold heardAllL at h
  cases hρ : ρ[i]? with
  | none => rw [hρ] at h; exact h.elim
  | some s =>
  rw [hρ] at h
  cases s with
  | un => exact h.elim
  | d _ => exact h.elim
  | own _ => exact h.elim
  | lams js =>
  obtain ⟨v, hσ, a, fs, rfl, hGa, hfs⟩ := slot_lams E hρ
  obtain ⟨lfs, atfs⟩ := paired_at hfs
  have sq : ∀ {G' H' : Hp}, Sub G G' → Sub G' H' → SqL X.K H' a (fs.map V.ref) := fun s1 s2 => (s1.trans s2).sqL hGa
  have one : ∀ {H' : Hp} {xs ys : List V}, SqL X.K H' a xs → SqL X.K H' a ys → True := fun _ _ => trivial
  refine ⟨.ref a, hσ, a, rfl, ⟨_, sq (Sub.refl G) E.sub⟩, fun Dl hDl => ?_⟩
  have nG1 : G Dl = none := by
    cases z : G Dl with
    | none => rfl
    | some o => rw [E.sub Dl o z] at hDl; cases hDl
  have sn0 : StepN G H G (upd H Dl (.lst [])) := ⟨Sub.refl G, fun _ _ e => .inl e, fun b u e => by rw [upd_ne (ne_of_none e hDl)]; exact e, fun b u e => by
    have e' := E.sub b u e
    rw [upd_ne (ne_of_none e' hDl)]; exact e', id⟩
  have h0 : GdL X c W ρ σ G H (hGo wr (strip l) ges js ρ []) Q := h
  generalize hr0 : hGo wr (strip l) ges js ρ [] = r0 at h0
  have nb : r0 ≠ .bad := fun z => by rw [z] at h0; exact h0.elim
  refine ⟨fun k m H' => m = js.length - k ∧ k ≤ js.length ∧ ∃ ρ' G' acc vacc, ER X.K c ρ' σ G' H' ∧ Step (Own ρ σ) G H G' H' ∧ (∀ b, Own ρ' σ b → Own ρ σ b ∨ (H b = none ∧ b ≠ Dl)) ∧ H' Dl = some (.lst vacc) ∧ Reps X.K G' vacc acc ∧ G' Dl = none ∧ hGo wr (strip l) ges (js.drop k) ρ' acc = r0,
    ⟨js.length, rfl, Nat.zero_le _, ρ, G, [], [], E.stepN sn0, sn0.step _, fun b hb => .inl hb, upd_same, .nil, nG1, hr0⟩, ?_⟩
  rintro k m H' ⟨rfl, hle, ρ', G', acc, vacc, E', st', ow', hD', hr', gD', hgo⟩
  have nD : ¬ Own ρ' σ Dl := fun z => by
    rcases ow' Dl z with y | ⟨_, y⟩
    · obtain ⟨us, y1, _⟩ := own_tracked E y
      rw [hDl] at y1; cases y1
    · exact y rfl
  have sl := sq st'.g E'.sub
  by_cases hlt : k < js.length
  · have hj : js[k]? = some js[k] := List.getElem?_eq_getElem hlt
    obtain ⟨f, hf, c', hGf, hHc⟩ := atfs k _ hj
    have hfv : (fs.map V.ref)[k]? = some (.ref f) := by rw [List.getElem?_map, hf]; rfl
    have hdrop : js.drop k = js[k] :: js.drop (k + 1) := List.drop_eq_getElem_cons hlt
    rw [hdrop] at hgo
    unfold hGo at hgo
    refine .inr ⟨⟨_, _, sl, hfv⟩, fun H2 => ∃ ρ2 G2 acc2 vacc2, ER X.K c ρ2 σ G2 H2 ∧ Step (Own ρ σ) G H G2 H2 ∧ (∀ b, Own ρ2 σ b → Own ρ σ b ∨ (H b = none ∧ b ≠ Dl)) ∧ H2 Dl = some (.lst vacc2) ∧ Reps X.K G2 vacc2 acc2 ∧ G2 Dl = none ∧ hGo wr (strip l) ges (js.drop (k + 1)) ρ2 acc2 = r0,
      fun H2 hN => ⟨js.length - (k + 1), by omega, rfl, hlt, hN⟩, fun x H'' hy => ?_⟩
    obtain ⟨e1, e2⟩ := hy
    subst e1
    have ex := e2 _ sl
    rw [hfv] at ex
    cases ex
    cases hg : ges[js[k]]? with
    | none =>
      have : ges.getD js[k] (fun _ => R.bad) = fun _ => R.bad := by rw [List.getD_eq_getElem?_getD, hg]; rfl
      rw [this] at hgo
      exact absurd hgo.symm nb
    | some ge =>
      have hjl : js[k] < lams.length := Nat.lt_of_lt_of_le (List.getElem?_eq_some_iff.mp hg).1 hlen
      have hld : lams[js[k]]? = some lams[js[k]] := List.getElem?_eq_getElem hjl
      refine ⟨?_, ?_⟩
      · show ((wipe σ [iy]).set iy (some (.ref f))).set iy none = (σ.set iy none)
        show ((σ.set iy none).set iy (some (V.ref f))).set iy none = σ.set iy none
        rw [List.set_set, List.set_set]
      · unfold tYes
        simp only [if_true]
        refine ⟨js[k], lams[js[k]], f, c', hld, ?_, ?_, ?_, ?_⟩
        · show ((σ.set iy none).set iy (some (V.ref f)))[iy]? = _
          rw [List.getElem?_set_self (by rw [List.length_set]; exact hlt2)]
        · have z := E'.sub _ _ (st'.g _ _ hGf)
          rw [hc _ _ hld] at z
          exact z
        · have nO : ¬ Own ρ σ c' := fun z => by
            obtain ⟨us, y1, _⟩ := own_tracked E z
            exact codeO_lst hHc y1 rfl
          have z := st'.k _ _ hHc nO codeO_ne
          rw [hlq] at z
          exact z
        · refine heard_sem2 (W := W) hP hM hmg E' ?_
          cases qe : heardE wr (strip l) (ges.getD js[k] fun _ => .bad) ρ' with
          | bad => simp only [qe] at hgo; exact absurd hgo.symm nb
          | er y ρ5 => simp only [qe] at hgo; exact absurd hgo.symm nb
          | ok y ρ5 =>
            simp only [qe] at hgo
            by_cases hl : acc.length < lim
            · rw [if_pos hl] at hgo
              intro v G5 H5 E5 s5 o5 r5
              have hD5 : H5 Dl = some (.lst vacc) := s5.k _ _ hD' nD fun ps z => by cases z
              have nD5 : ¬ Own ρ5 σ Dl := fun z => by
                rcases o5 Dl z with y | y
                · exact nD y
                · rw [hD'] at y; cases y
              have gD5 : G5 Dl = none := by
                cases z : G5 Dl with
                | none => rfl
                | some o =>
                  rcases s5.n Dl o z with y | y | y
                  · rw [gD'] at y; cases y
                  · rw [hD'] at y; cases y
                  · exact absurd y nD
              have st5 : Step (Own ρ σ) G H G5 H5 := st'.trans s5 fun b hb => by
                rcases ow' b hb with y | ⟨y, _⟩
                · exact .inl y
                · exact .inr y
              have ow5 : ∀ b, Own ρ5 σ b → Own ρ σ b ∨ (H b = none ∧ b ≠ Dl) := fun b hb => by
                rcases o5 b hb with y | y
                · exact ow' b y
                · exact .inr ⟨st'.d b y, fun z => by rw [z, hD'] at y; cases y⟩
              have hr5 : Reps X.K G5 vacc acc := Reps.sub s5.g hr'
              refine ⟨vacc, hD5, Nat.lt_of_lt_of_le (by rw [Reps.length hr5]; exact hl) (by decide : lim ≤ sizeLine), ?_⟩
              refine ⟨ρ5, G5, acc ++ [y], vacc ++ [v], E5.free (ws := vacc ++ [v]) hD5 gD5 nD5, ⟨st5.g, st5.n, fun b o e no nt => ?_, fun b e => ?_, st5.t⟩, ow5, upd_same, hr5.snoc r5, gD5, hgo⟩
              · rw [upd_ne (ne_of_none e hDl)]; exact st5.k b o e no nt
              · by_cases hb : b = Dl
                · rw [hb, upd_same] at e; cases e
                · rw [upd_ne hb] at e; exact st5.d b e
            · rw [if_neg hl] at hgo; exact absurd hgo.symm nb
  · have hi : k = js.length := by omega
    subst hi
    rw [List.drop_length] at hgo
    unfold hGo at hgo
    rw [← hgo] at h0
    refine .inl ⟨⟨_, sl, by rw [List.length_map, lfs]; exact Nat.le_refl _⟩, h0 Dl vacc G' H' E' st' (fun b hb => ?_) hDl hD' gD' nD hr'⟩
    rcases ow' b hb with y | ⟨y, _⟩
    · exact .inl y
    · exact .inr y
/-- [x(y) for y in v], v a slot that holds lambdas of the def -/
theorem LX.heardAll {x a tn n y v : Str} {st : Stmt} {g : Addr} {fd : FuncData} {Ng : List Str} {k i iy : Nat} {ei ew : Expr} {ini wr : Option Str} {h0 : ExceptHandler} {hds : List ExceptHandler} {l : List Cl} {pa pb pc pd pt pr pr2 p py pos ty vp lpos : Pos} {bs : Scope} {lams : List LamD} {ges : List (GE D)} {hdl : List (Str × (Exn → Option D))}
    (F : Fun X.K x x st g fd) (S : FnScope Ng [a] (defScope st)) (hb : L2.Binds X.K fd [a] []) (hbd : defBody st = [.Assign [.Name tn pa] ei pb, .Try [.Assign [.Name tn pc] ew pd] (h0 :: hds) [] [] pt, .Return (some (.Name tn pr)) pr2])
    (hHC : ∀ cdg, HC X Ng x (defScope st) g cdg n tn (h0 :: hds) l) (hM : ExM X.K l) (hmg : ∀ a ∈ l, X.mg a.1 = some (.ref a.2.1)) (hdl' : strip l = hdl) (hl3 : Ng.length = 3) (h00 : Ng[0]? = some a) (h1 : Ng[1]? = some tn) (h2 : Ng[2]? = some n) (hva : Vis (defScope st) a) (l1 : (defScope st).names.lookup tn = some .local) (l2 : (defScope st).names.lookup n = some .local)
    (d1 : (tn == ("__debug__" : Str)) = false) (d2 : (tn == ("__classdict__" : Str)) = false) (hi : IniE ei ini) (hw : WrapE a ew wr)
    (hs1 : ∀ env : Env, swapsWith ei (some (.Name tn pa)) pb.line env = pure false) (hs2 : ∀ env : Env, swapsWith ew (some (.Name tn pc)) pd.line env = pure false)
    (hm : X.mg x = some (.ref g)) (hk : PySem.W.keepIn X.K (.ref g) = true) (hr : Room (k + 2) X.A) (calm : X.calm = true) (nd : X.N.Nodup)
    (hc : ∀ j d, lams[j]? = some d → c.lam j = lamAt X d) (hlq : c.lq = X.env.qual ++ "<lambda>") (hlen : ges.length ≤ lams.length)
    (hL : ∀ (j : Nat) (d : LamD), lams[j]? = some d → LamS X.env.scope d.scope ∧ (∀ (q : Str) (cl : List (Str × Addr)) (pm cv ctv : Value), bindArgs (PySem.W.kla_fn "<lambda>" q d.params d.body d.scope cl pm cv ctv) ⟨[], []⟩ = pure []) ∧
      ∀ (A : Around) (outer : List Env) (s : Shared) (H : Hp) (E : XK) (f c' : Addr), Room k (A.deeper (lamEnv X d.scope s.heap.objs.size f c')) → EX (lamCx X A outer s H E d.scope f c') c (wE E) d.body (ges.getD j fun _ => .bad))
    (hv : PE X (.Name v vp) (tVar i)) (ok : BlkOk X.N X.env.scope bs [(y, iy)])
    (hNy : X.N[iy]? = some y) (hvy : ∀ C cl, Vis (compEnvC bs cl C X.env).scope y) (hgy : ∀ (sB : Shared) (HB : Hp) (C : Addr) (cl : List (Str × Addr)) (fp : List Addr), PG (X.blk sB HB bs (compEnvC bs cl C X.env) fp) (.Name y ty) (gName iy))
    (hg : ∀ (sB : Shared) (HB : Hp) (C : Addr) (cl : List (Str × Addr)) (fp : List Addr), Gl (X.blk sB HB bs (compEnvC bs cl C X.env) fp) x) (plain : ∀ z, foldedSetIterable (.Name v vp) X.env z = pure z := by intro _; rfl) (hdy : (y == ("__debug__" : Str)) = false := by decide) (hcy : (y == ("__classdict__" : Str)) = false := by decide) (hdb : (x == ("__debug__" : Str)) = false := by decide) (hd : (a == ("__debug__" : Str)) = false := by decide) (hcd : (a == ("__classdict__" : Str)) = false := by decide) :
    LX X c W (.ListComp (.Call (.Name x p) [.Name y py] [] pos) [⟨.Name y ty, .Name v vp, [], 0⟩] bs lpos) (heardAllL i wr hdl ges) := by
  subst hdl'
  obtain ⟨oc, od, kV, doc, pm, an, cdv, ct, osl, e, lk, hcd'⟩ := F.ex
  subst e
  obtain ⟨lt, q1, q2⟩ := HC.pick S.nd h1 l1 (hHC cdv)
  refine LX.mk (t := fun σ H Q => iy < σ.length → tLc (iList X.K (tVar i)) (gName iy) tYes (fun σ' H' Q => ∃ (j : Nat) (d : LamD) (f c' : Addr), lams[j]? = some d ∧ σ'[iy]? = some (some (.ref f)) ∧ H' f = some (lamAt X d f c') ∧ H' c' = some (CodeO c' (X.env.qual ++ "<lambda>")) ∧ TTh X.K ini wr lt (fun E H'' Q' => tP X c (wE E) (ges.getD j fun _ => .bad) σ H'' Q') H' Q) [iy] σ H Q) ?_ ?_
  · constructor
    intro pins s σ H Q I h
    refine lc_own (own := [(y, iy)]) calm nd I (pi_list hv) ok hgy (fun sB HB C cl fp IB hfp => ?_) plain (h (by rw [I.len]; exact (List.getElem?_eq_some_iff.mp hNy).1))
    exact pe_heardRef (lams := lams) (t := fun j E => tP X c (wE E) (ges.getD j fun _ => .bad)) IB hfp lk hcd' S hb hbd q1 hl3 h00 h1 h2 hva l1 l2 d1 d2 hi hw hs1 hs2 hm hk hr (fun j d hj => let ⟨z1, z2, z3⟩ := hL j d hj; ⟨z1, z2, fun A outer s H E f c' hr2 => (z3 A outer s H E f c' hr2).pe⟩) hNy (hvy C cl) hdy hcy (hg sB HB C cl fp) hdb hd hcd
  · exact fun ρ σ G H Q E h hlt => heardAll_sem hc hlq hlen q2 hM hmg ρ σ G H Q hlt E h
end
end PL
end L2
set_option Elab.async false
set_option linter.all false
set_option maxRecDepth 100000
set_option maxHeartbeats 4000000
/-! PXe: calls = [lambda: ..], calls.append(lambda: ..) -/
namespace L2
namespace PL
open PySem PySem.Spec PyProof.Rows LamX
section
variable {K : PySem.W.Frag} {c : Cz} {ρ : PEnv} {σ : St} {G H : Hp}
theorem own_set_lams {i : Nat} {js : List Nat} {v : Option V} {a : Addr} (hl : ρ.length = σ.length) (h : Own (ρ.set i (.lams js)) (σ.set i v) a) : Own ρ σ a := by
  obtain ⟨j, ys, e1, e2⟩ := h
  by_cases hj : j = i
  · subst hj
    by_cases hlt : j < ρ.length
    · rw [List.getElem?_set_self hlt] at e1; cases e1
    · rw [List.set_eq_of_length_le (by omega)] at e1
      rw [List.set_eq_of_length_le (by rw [← hl]; omega)] at e2
      exact ⟨j, ys, e1, e2⟩
  · rw [List.getElem?_set_ne (Ne.symm hj)] at e1 e2
    exact ⟨j, ys, e1, e2⟩
theorem ER.setlams {i : Nat} {js : List Nat} {v : V} (E : ER K c ρ σ G H) (r : LamsAt c G H js v) (hio : ∀ p ∈ c.io, p.1 ≠ i) : ER K c (ρ.set i (.lams js)) (σ.set i (some v)) G H where
  len := by rw [List.length_set, List.length_set]; exact E.len
  slot := fun j s e => by
    by_cases hj : j = i
    · subst hj
      have hlt : j < ρ.length := by
        have := (List.getElem?_eq_some_iff.mp e).1
        rw [List.length_set] at this; exact this
      rw [List.getElem?_set_self hlt] at e
      cases e
      rw [List.getElem?_set_self (by rw [← E.len]; exact hlt)]
      exact r
    · rw [List.getElem?_set_ne (Ne.symm hj)] at e
      rw [List.getElem?_set_ne (Ne.symm hj)]
      exact E.slot j s e
  sub := E.sub
  nt := E.nt
  sep := fun j k ys zs b e1 e2 e3 e4 => by
    have f : ∀ (j : Nat) (ys : List D), (ρ.set i (.lams js))[j]? = some (.own ys) → (σ.set i (some v))[j]? = some (some (.ref b)) → ρ[j]? = some (.own ys) ∧ σ[j]? = some (some (.ref b)) := fun j ys e e' => by
      by_cases hj : j = i
      · subst hj
        by_cases hlt : j < ρ.length
        · rw [List.getElem?_set_self hlt] at e; cases e
        · rw [List.set_eq_of_length_le (by omega)] at e
          rw [List.set_eq_of_length_le (by rw [← E.len]; omega)] at e'
          exact ⟨e, e'⟩
      · rw [List.getElem?_set_ne (Ne.symm hj)] at e e'
        exact ⟨e, e'⟩
    obtain ⟨q1, q2⟩ := f j ys e1 e3
    obtain ⟨q3, q4⟩ := f k zs e2 e4
    exact E.sep j k ys zs b q1 q3 q2 q4
  tabs := E.tabs
  io := fun p hp => by
    obtain ⟨q1, ys, q2⟩ := E.io p hp
    exact ⟨by rw [List.getElem?_set_ne (Ne.symm (hio p hp))]; exact q1, ys, by rw [List.getElem?_set_ne (Ne.symm (hio p hp))]; exact q2⟩
theorem paired_snoc {α β : Type} {F : α → β → Prop} {x : α} {y : β} : ∀ {xs : List α} {ys : List β}, Paired F xs ys → F x y → Paired F (xs ++ [x]) (ys ++ [y])
  | _, _, .nil, h => .cons h .nil
  | _, _, .cons h r, k => .cons h (paired_snoc r k)
end
section
variable {X : Cx} {c : Cz} {W : WX} {C P : Addr}
/-- what a lambda asks of its def -/
structure LamOk (X : Cx) (c : Cz) (C P : Addr) : Prop where
  tb : TabB X.base X.mg C P
  code : X.env.code = .ref C
  mem : (P, X.env.qual ++ "<lambda>") ∈ c.T
  only : ∀ p ∈ c.T, p.1 = P → p.2 = X.env.qual ++ "<lambda>"
  lq : c.lq = X.env.qual ++ "<lambda>"
theorem lamAt_tbl {d : LamD} {f c' : Addr} : ∀ ps, lamAt X d f c' ≠ .tbl ps := fun ps z => by
  unfold lamAt LamO at z
  cases z
/-- one more lambda: the heap behind it -/
theorem lam_more {ρ : PEnv} {σ : St} {G H : Hp} {d : LamD} {j : Nat} {Q : VK} (O : LamOk X c C P) (hj : c.lam j = lamAt X d) (E : ER X.K c ρ σ G H)
    (k : ∀ (f : Addr) (G1 H1 : Hp), ER X.K c ρ σ G1 H1 → Step (fun _ => False) G H G1 H1 → (∃ c', G1 f = some (c.lam j f c') ∧ H1 c' = some (CodeO c' c.lq)) → H f = none → Q (.ref f) H1) (σ1 : St) :
    tLamV c.T P (X.env.qual ++ "<lambda>") (lamAt X d) σ1 H Q := by
  refine ⟨E.tabs, fun H1 f c' m tb hn hco => ?_⟩
  obtain ⟨E1, st1⟩ := E.madeT m tb
  have sn : StepN G H1 (upd G f (lamAt X d f c')) (upd H1 f (lamAt X d f c')) := StepN.new E1.sub hn lamAt_tbl
  refine k f _ _ (E1.stepN sn) (st1.trans (sn.step _) fun _ z => .inl z) ⟨c', by rw [hj]; exact upd_same, ?_⟩ (st1.d f hn)
  rw [upd_ne (ne_of_none hco hn), O.lq]
  exact hco
def lamsS (i : Nat) (js : List Nat) : GS := fun ρ => .nx (ρ.set i (.lams js))
variable (X c) in
inductive Apps (i : Nat) : List Stmt → List Nat → Prop
  | nil : Apps i [] []
  | cons {v : Str} {q1 q2 q3 q4 lp : Pos} {params : Arguments} {body : Expr} {scope : Scope} {j : Nat} {as : List Stmt} {js : List Nat}
      (hap : ∀ te, PE X (.Lambda params body scope lp) te → PE X (.Call (.Attribute (.Name v q1) "append" q2) [.Lambda params body scope lp] [] q3) (tBM X.K "list" rAppend (tVar i) (tCons te tNil)))
      (hsw : swapsWith (.Call (.Attribute (.Name v q1) "append" q2) [.Lambda params body scope lp] [] q3) none q4.line X.env = pure false)
      (L : LamS X.env.scope scope) (hdef : defaultsOf params X.env = ([], [])) (hj : c.lam j = lamAt X ⟨params, body, scope⟩) (r : Apps i as js) :
      Apps i (.Expr (.Call (.Attribute (.Name v q1) "append" q2) [.Lambda params body scope lp] [] q3) q4 :: as) (j :: js)
theorem Apps.ok {i : Nat} {rest : List Stmt} {g2 : GS} (O : LamOk X c C P) (hio : ∀ p ∈ c.io, p.1 ≠ i) (hrest : SXs X c W rest g2) {as : List Stmt} {js : List Nat} (A : Apps X c i as js) :
    ∃ t, PSs X (as ++ rest) t ∧ ∀ ρ σ G H D' js0 p fs, i < σ.length → ER X.K c ρ σ G H → H p = some (.lst (fs.map V.ref)) → G p = none → ¬ Own ρ σ p → fs.length + js.length ≤ 1000 →
      Paired (fun (f : Addr) (j : Nat) => ∃ c', G f = some (c.lam j f c') ∧ H c' = some (CodeO c' c.lq)) fs js0 →
      (∀ G' H', Step (fun b => b = p) G H G' H' → ER X.K c (ρ.set i (.lams (js0 ++ js))) (σ.set i (some (.ref p))) G' H' → GdS X c W D' (ρ.set i (.lams (js0 ++ js))) (σ.set i (some (.ref p))) G' H' (g2 (ρ.set i (.lams (js0 ++ js))))) →
      t D' (σ.set i (some (.ref p))) H := by
  induction A with
  | nil =>
    obtain ⟨t, pt, qt⟩ := hrest
    refine ⟨t, pt, fun ρ σ G H D' js0 p fs hlt E hp hg no hn hfs fin => ?_⟩
    rw [List.append_nil] at fin
    have Eg := E.ground hp hg no
    have la : LamsAt c (upd G p (.lst (fs.map V.ref))) H js0 (.ref p) := ⟨p, fs, rfl, upd_same, L2.Paired.mapP hfs fun f j ⟨c', z1, z2⟩ => ⟨c', by rw [upd_ne (ne_of_none z1 hg)]; exact z1, z2⟩⟩
    have E2 := Eg.setlams la hio
    refine qt _ _ _ _ _ E2 (fin _ _ ⟨fun b o z => by rw [upd_ne (ne_of_none z hg)]; exact z, fun b o z => ?_, fun _ _ z _ _ => z, fun _ z => z, fun h => h.upd fun ps z => by cases z⟩ E2)
    by_cases hb : b = p
    · exact .inr (.inr hb)
    · rw [upd_ne hb] at z; exact .inl z
  | @cons v q1 q2 q3 q4 lp params body scope j as js hap hsw L hdef hj r ih =>
    obtain ⟨t, pt, qt⟩ := ih
    have pl := pe_lamV (pos := lp) (body := body) O.tb O.code O.mem O.only L hdef
    refine ⟨_, pss_cons (ps_expr (hap _ pl) hsw) pt, fun ρ σ G H D' js0 p fs hlt E hp hg no hn hfs fin => ?_⟩
    have hσ : (σ.set i (some (.ref p)))[i]? = some (some (V.ref p)) := List.getElem?_set_self hlt
    refine ⟨.ref p, hσ, .inl ⟨rfl, fs.map V.ref, .inl (.inl hp)⟩, ?_⟩
    refine lam_more (d := ⟨params, body, scope⟩) (j := j) O hj E (fun f G1 H1 E1 s1 lf hf => ?_) _
    have hp1 : H1 p = some (.lst (fs.map V.ref)) := s1.k _ _ hp (fun z => z) fun ps z => by cases z
    have hg1 : G1 p = none := by
      cases z : G1 p with
      | none => rfl
      | some o =>
        rcases s1.n p o z with y | y | y
        · rw [hg] at y; cases y
        · rw [hp] at y; cases y
        · exact y.elim
    refine ⟨p, fs.map V.ref, .ref f, rfl, rfl, hp1, ?_, ?_⟩
    · rw [List.length_map]
      rw [List.length_cons] at hn
      exact Nat.lt_of_lt_of_le (show fs.length < 1000 by omega) (by decide)
    · have e2 : fs.map V.ref ++ [V.ref f] = (fs ++ [f]).map V.ref := by rw [List.map_append]; rfl
      rw [e2]
      have E2 := E1.free (ws := (fs ++ [f]).map V.ref) hp1 hg1 no
      have s2 : Step (fun b => b = p) G1 H1 G1 (upd H1 p (.lst ((fs ++ [f]).map V.ref))) := ⟨Sub.refl _, fun _ _ z => .inl z, fun b o z nb _ => by rw [upd_ne nb]; exact z, fun b z => by
        by_cases hb : b = p
        · rw [hb, upd_same] at z; cases z
        · rw [upd_ne hb] at z; exact z, id⟩
      have sx : Step (fun b => b = p) G H G1 (upd H1 p (.lst ((fs ++ [f]).map V.ref))) := (s1.mono fun _ z => z.elim).trans s2 fun _ z => .inl z
      refine qt ρ σ G1 _ D' (js0 ++ [j]) p (fs ++ [f]) hlt E2 upd_same hg1 no (by rw [List.length_append, List.length_singleton]; rw [List.length_cons] at hn; omega) ?_ ?_
      · have keep : ∀ c', H1 c' = some (CodeO c' c.lq) → upd H1 p (.lst ((fs ++ [f]).map V.ref)) c' = some (CodeO c' c.lq) := fun c' z => by rw [upd_ne (codeO_lst z hp1)]; exact z
        refine paired_snoc (L2.Paired.mapP hfs fun f j ⟨c', z1, z2⟩ => ⟨c', s1.g _ _ z1, keep _ (s1.k _ _ z2 (fun z => z) codeO_ne)⟩) ?_
        obtain ⟨c', z1, z2⟩ := lf
        exact ⟨c', z1, keep _ z2⟩
      · intro G' H' s3 E3
        rw [List.append_assoc] at E3 ⊢
        exact fin G' H' (sx.trans s3 fun _ z => .inl z) E3
theorem SXs.lamsN {i : Nat} {v : Str} {p1 lp ap l1 : Pos} {params : Arguments} {body : Expr} {scope : Scope} {j : Nat} {as rest : List Stmt} {js : List Nat} {g2 : GS} (O : LamOk X c C P) (hio : ∀ p ∈ c.io, p.1 ≠ i) (hN : X.N[i]? = some v)
    (hps : ∀ te, PE X (.List [.Lambda params body scope l1] lp) te → PS X (.Assign [.Name v p1] (.List [.Lambda params body scope l1] lp) ap) (tAsg te (gName i)))
    (L : LamS X.env.scope scope) (hdef : defaultsOf params X.env = ([], [])) (hj : c.lam j = lamAt X ⟨params, body, scope⟩) (A : Apps X c i as js) (hjs : js.length ≤ 900) (hrest : SXs X c W rest g2)
    (hst : starEach [.Lambda params body scope l1] X.env = (false, eval (.Lambda params body scope l1) X.env) :: starEach [] X.env := by rfl) :
    SXs X c W (.Assign [.Name v p1] (.List [.Lambda params body scope l1] lp) ap :: (as ++ rest)) (seqS (lamsS i (j :: js)) g2) := by
  obtain ⟨t, pt, qt⟩ := A.ok O hio hrest
  have pl := pe_lamV (pos := l1) (body := body) O.tb O.code O.mem O.only L hdef
  have pc := pss_cons (hps _ (pe_lst (pa_cons pl pa_nil hst))) pt
  refine ⟨fun D' σ H => i < σ.length → _, ⟨fun pins s σ H D I h => pc.run pins s σ H D I (h (by rw [I.len]; exact (List.getElem?_eq_some_iff.mp hN).1))⟩, fun ρ σ G H D' E h hlt => ?_⟩
  unfold tSeq tAsg tLst tCons
  refine lam_more (d := ⟨params, body, scope⟩) (j := j) O hj E (fun f G1 H1 E1 s1 lf hf => ?_) _
  refine ⟨show 1 ≤ sizeLine by decide, fun p hp => ?_⟩
  have hp0 : H p = none := s1.d p hp
  have hgp : G1 p = none := by
    cases z : G1 p with
    | none => rfl
    | some o => rw [E1.sub p o z] at hp; cases hp
  have sn : StepN G1 H1 G1 (upd H1 p (.lst [V.ref f])) := ⟨Sub.refl _, fun _ _ e => .inl e, fun b u e => by rw [upd_ne (ne_of_none e hp)]; exact e, fun b u e => by
    have e' := E1.sub b u e
    rw [upd_ne (ne_of_none e' hp)]; exact e', id⟩
  have no : ¬ Own ρ σ p := fun z => by
    obtain ⟨us, y1, _⟩ := own_tracked E z
    rw [hp0] at y1; cases y1
  have s2 : Step (fun _ => False) G H G1 (upd H1 p (.lst [V.ref f])) := s1.trans (sn.step _) fun _ z => .inl z
  show t D' (σ.set i (some (.ref p))) (upd H1 p (.lst [V.ref f]))
  refine qt ρ σ G1 _ D' [j] p [f] hlt (E1.stepN sn) upd_same hgp no (by show 1 + js.length ≤ 1000; omega) ?_ ?_
  · obtain ⟨c', z1, z2⟩ := lf
    exact .cons ⟨c', z1, by rw [upd_ne (ne_of_none z2 hp)]; exact z2⟩ .nil
  · intro G' H' s3 E3
    have h' : GdS X c W D' ρ σ G H (g2 (ρ.set i (.lams (j :: js)))) := h
    refine GdS.shift h' ((s2.mono fun _ z => z.elim).trans s3 fun b hb => .inr (by rw [hb]; exact hp0)) fun a ha => .inl (own_set_lams E.len ha)
/-- two, three -/
theorem SXs.lams1 {i : Nat} {v : Str} {p1 lp ap l1 : Pos} {params : Arguments} {body : Expr} {scope : Scope} {j : Nat} {rest : List Stmt} {g2 : GS} (O : LamOk X c C P) (hio : ∀ p ∈ c.io, p.1 ≠ i) (hN : X.N[i]? = some v)
    (hps : ∀ te, PE X (.List [.Lambda params body scope l1] lp) te → PS X (.Assign [.Name v p1] (.List [.Lambda params body scope l1] lp) ap) (tAsg te (gName i)))
    (L : LamS X.env.scope scope) (hdef : defaultsOf params X.env = ([], [])) (hj : c.lam j = lamAt X ⟨params, body, scope⟩) (hrest : SXs X c W rest g2) :
    SXs X c W (.Assign [.Name v p1] (.List [.Lambda params body scope l1] lp) ap :: rest) (seqS (lamsS i [j]) g2) :=
  SXs.lamsN (as := []) O hio hN hps L hdef hj .nil (show 0 ≤ 900 by decide) hrest
theorem SXs.lams2 {i : Nat} {v : Str} {p1 lp ap l1 q1 q2 q3 q4 l2 : Pos} {params params2 : Arguments} {body body2 : Expr} {scope scope2 : Scope} {j j2 : Nat} {rest : List Stmt} {g2 : GS} (O : LamOk X c C P) (hio : ∀ p ∈ c.io, p.1 ≠ i) (hN : X.N[i]? = some v)
    (hps : ∀ te, PE X (.List [.Lambda params body scope l1] lp) te → PS X (.Assign [.Name v p1] (.List [.Lambda params body scope l1] lp) ap) (tAsg te (gName i)))
    (L : LamS X.env.scope scope) (hdef : defaultsOf params X.env = ([], [])) (hj : c.lam j = lamAt X ⟨params, body, scope⟩)
    (hap : ∀ te, PE X (.Lambda params2 body2 scope2 l2) te → PE X (.Call (.Attribute (.Name v q1) "append" q2) [.Lambda params2 body2 scope2 l2] [] q3) (tBM X.K "list" rAppend (tVar i) (tCons te tNil)))
    (hsw : swapsWith (.Call (.Attribute (.Name v q1) "append" q2) [.Lambda params2 body2 scope2 l2] [] q3) none q4.line X.env = pure false)
    (L2 : LamS X.env.scope scope2) (hdef2 : defaultsOf params2 X.env = ([], [])) (hj2 : c.lam j2 = lamAt X ⟨params2, body2, scope2⟩) (hrest : SXs X c W rest g2) :
    SXs X c W (.Assign [.Name v p1] (.List [.Lambda params body scope l1] lp) ap :: .Expr (.Call (.Attribute (.Name v q1) "append" q2) [.Lambda params2 body2 scope2 l2] [] q3) q4 :: rest) (seqS (lamsS i [j, j2]) g2) :=
  SXs.lamsN (as := [_]) O hio hN hps L hdef hj (.cons hap hsw L2 hdef2 hj2 .nil) (show 1 ≤ 900 by decide) hrest
theorem SXs.lams3 {i : Nat} {v : Str} {p1 lp ap l1 q1 q2 q3 q4 l2 r1 r2 r3 r4 l3 : Pos} {params params2 params3 : Arguments} {body body2 body3 : Expr} {scope scope2 scope3 : Scope} {j j2 j3 : Nat} {rest : List Stmt} {g2 : GS} (O : LamOk X c C P) (hio : ∀ p ∈ c.io, p.1 ≠ i) (hN : X.N[i]? = some v)
    (hps : ∀ te, PE X (.List [.Lambda params body scope l1] lp) te → PS X (.Assign [.Name v p1] (.List [.Lambda params body scope l1] lp) ap) (tAsg te (gName i)))
    (L : LamS X.env.scope scope) (hdef : defaultsOf params X.env = ([], [])) (hj : c.lam j = lamAt X ⟨params, body, scope⟩)
    (hap : ∀ te, PE X (.Lambda params2 body2 scope2 l2) te → PE X (.Call (.Attribute (.Name v q1) "append" q2) [.Lambda params2 body2 scope2 l2] [] q3) (tBM X.K "list" rAppend (tVar i) (tCons te tNil)))
    (hsw : swapsWith (.Call (.Attribute (.Name v q1) "append" q2) [.Lambda params2 body2 scope2 l2] [] q3) none q4.line X.env = pure false)
    (L2 : LamS X.env.scope scope2) (hdef2 : defaultsOf params2 X.env = ([], [])) (hj2 : c.lam j2 = lamAt X ⟨params2, body2, scope2⟩)
    (hap3 : ∀ te, PE X (.Lambda params3 body3 scope3 l3) te → PE X (.Call (.Attribute (.Name v r1) "append" r2) [.Lambda params3 body3 scope3 l3] [] r3) (tBM X.K "list" rAppend (tVar i) (tCons te tNil)))
    (hsw3 : swapsWith (.Call (.Attribute (.Name v r1) "append" r2) [.Lambda params3 body3 scope3 l3] [] r3) none r4.line X.env = pure false)
    (L3 : LamS X.env.scope scope3) (hdef3 : defaultsOf params3 X.env = ([], [])) (hj3 : c.lam j3 = lamAt X ⟨params3, body3, scope3⟩) (hrest : SXs X c W rest g2) :
    SXs X c W (.Assign [.Name v p1] (.List [.Lambda params body scope l1] lp) ap :: .Expr (.Call (.Attribute (.Name v q1) "append" q2) [.Lambda params2 body2 scope2 l2] [] q3) q4 :: .Expr (.Call (.Attribute (.Name v r1) "append" r2) [.Lambda params3 body3 scope3 l3] [] r3) r4 :: rest) (seqS (lamsS i [j, j2, j3]) g2) :=
  SXs.lamsN (as := [_, _]) O hio hN hps L hdef hj (.cons hap hsw L2 hdef2 hj2 (.cons hap3 hsw3 L3 hdef3 hj3 .nil)) (show 2 ≤ 900 by decide) hrest
end
/-! ### defs that make lists of lambdas -/
section
variable {P : Program} {w : World} {K : PySem.W.Frag} {mg : Str → Option Value} {base : Heap} {k : Nat} {f : Addr} {fd : FuncData} {ps N : List Str} {sp : Sp} {x qual : Str} {st : Stmt} {T : List (Addr × Str)} {n m : Nat} {g : GS} {C : Addr} {ls : List LamD}
theorem pure_GC (F : FunL K x qual st f fd C) (S : FnScope N ps (defScope st)) (hn : ps.length = n) (hN : N.length = n + m)
    (hg : ∀ (A : Around) (outer : List Env) (s : Shared) (H : Hp) (E : XK), Room k (A.deeper (envOfC qual (defScope st) s.heap.objs.size f (.ref C))) → A.guards = some [] → SXs (cxOf (L2.CX P w) P w K mg base N qual (defScope st) f (.ref C) A outer s H E) (czC T [] (cxOf (L2.CX P w) P w K mg base N qual (defScope st) f (.ref C) A outer s H E) ls) (wE E) (defBody st) g) :
    FnG P w K mg base (k + 1) f fd ps (spP K mg T n (runP g m)) :=
  fnL_of F S (fun vs H Q E h => h.1.trans hn.symm) fun A outer s H vs Q E hr hgd hsp => body_P (X := cxOf (L2.CX P w) P w K mg base N qual (defScope st) f (.ref C) A outer s H E) (hg A outer s H E hr hgd) hN hsp
theorem io_GC (F : FunL K x qual st f fd C) (S : FnScope N ps (defScope st)) (hn : ps.length = n) (hN : N.length = n + m)
    (hg : ∀ (A : Around) (outer : List Env) (s : Shared) (H : Hp) (E : XK) (a : Addr), Room k (A.deeper (envOfC qual (defScope st) s.heap.objs.size f (.ref C))) → A.guards = some [] → SXs (cxOf (L2.CX P w) P w K mg base N qual (defScope st) f (.ref C) A outer s H E) (czC T [(0, a)] (cxOf (L2.CX P w) P w K mg base N qual (defScope st) f (.ref C) A outer s H E) ls) (wE E) (defBody st) g) :
    FnG P w K mg base (k + 1) f fd ps (spIO K mg T n (runIO g m)) :=
  fnL_of F S (fun vs H Q E h => h.1.trans hn.symm) fun A outer s H vs Q E hr hgd hsp => body_IO (X := cxOf (L2.CX P w) P w K mg base N qual (defScope st) f (.ref C) A outer s H E) (fun a => hg A outer s H E a hr hgd) hN hsp
end
end PL
end L2
set_option Elab.async false
set_option linter.all false
set_option maxRecDepth 100000
set_option maxHeartbeats 4000000
/-! PXf: a, b, c = x, y, z; keywords in lambdas; lists of lambdas, put together; own __init__ without a default -/
namespace L2
namespace PL
open PySem PySem.Spec PyProof.Rows LamX
section
variable {X : Cx} {c : Cz} {W : WX} {a b d : Expr} {ga gb gd : GE D}
def par3S (i j l : Nat) (ga gb gd : GE D) : GS := fun ρ => (ga ρ).bindS fun x ρ1 => (gb ρ1).bindS fun y ρ2 => (gd ρ2).bindS fun z ρ3 => .nx (((ρ3.set i (.d x)).set j (.d y)).set l (.d z))
theorem SX.par3 {i j l : Nat} {st : Stmt} (hioi : ∀ p ∈ c.io, p.1 ≠ i) (hioj : ∀ p ∈ c.io, p.1 ≠ j) (hiol : ∀ p ∈ c.io, p.1 ≠ l) (hp : ∀ ta, PA X [a, b, d] ta → PS X st (tPar3 i j l ta)) (ha : EX X c W a ga) (hb : EX X c W b gb) (hd : EX X c W d gd)
    (hs : starEach (a :: [b, d]) X.env = (false, eval a X.env) :: starEach [b, d] X.env := by rfl) (hs2 : starEach (b :: [d]) X.env = (false, eval b X.env) :: starEach [d] X.env := by rfl) (hs3 : starEach (d :: []) X.env = (false, eval d X.env) :: starEach [] X.env := by rfl) : SX X c W st (par3S i j l ga gb gd) := by
  obtain ⟨ta, pa, qa⟩ := ha
  obtain ⟨tb, pb, qb⟩ := hb
  obtain ⟨td, pd, qd⟩ := hd
  refine ⟨_, hp _ (pa_cons pa (pa_cons pb (pa_cons pd pa_nil hs3) hs2) hs), fun ρ σ G H D' E h => qa ρ σ G H _ E (GdS.bind (Rel1 := RV X) h fun x ρ1 v G1 H1 E1 t1 o1 r1 h1 => qb ρ1 σ G1 H1 _ E1 (GdS.bind (Rel1 := RV X) h1 fun y ρ2 u G2 H2 E2 t2 o2 r2 h2 => qd ρ2 σ G2 H2 _ E2 (GdS.bind (Rel1 := RV X) h2 fun z ρ3 w G3 H3 E3 t3 o3 r3 h3 => ?_)))⟩
  have l1 : (ρ3.set i (.d x)).length = (σ.set i (some v)).length := by rw [List.length_set, List.length_set]; exact E3.len
  have l2 : ((ρ3.set i (.d x)).set j (.d y)).length = ((σ.set i (some v)).set j (some u)).length := by simp only [List.length_set]; exact E3.len
  refine ⟨v, u, w, rfl, h3 _ G3 H3 (((E3.setd (Rep.sub (t2.g.trans t3.g) r1) hioi).setd (Rep.sub t3.g r2) hioj).setd r3 hiol) (Step.refl _ _ _) fun q hq => ?_⟩
  have q1 := own_set (ρ := (ρ3.set i (.d x)).set j (.d y)) (σ := (σ.set i (some v)).set j (some u)) l2 hq
  have q2 := own_set (ρ := ρ3.set i (.d x)) (σ := σ.set i (some v)) l1 q1
  exact .inl (own_set E3.len q2)
end
section
variable {X : Cx} {c : Cz} {W : WX} {σ : St} {H : Hp} {k : Nat} {f : Addr} {fd : FuncData} {ps : List Str} {sp : Sp} {E : St → XK} {x : Str} {p pos : Pos} {n : Nat} {fP : List D → Rs} {gs : GE (List D)} {t : TA}
theorem run_fnN {pins : List (Addr × Obj)} {s : Shared} {Q : VK} {us : List Value} {vs : List V} {args : Args} (F : FnOk X.prog X.w X.K X.mg X.base (L2.CX X.prog X.w) k f fd ps sp) (hr : Room k X.A) (hb : BindsTo s fd args (ps.zip us)) (hx : PassesAt (L2.CX X.prog X.w) X σ (E σ))
    (I : Inv X pins σ H s) (r : Vals vs us) (h : sp vs H Q (E σ)) : wpAny (model X.prog X.w) X.A (call (.ref f) args.pos args.kw) (EP X pins σ Q) X.xe s :=
  wpAny_call (codeAny_mono (F.run X.A X.stack s H args us vs Q (E σ) hr I.env0 hb r h) fun r s' hq => by
    match r, hq with
    | .error er, hq => exact hx pins H s er s' I hq
    | .ok (.ret u), hq => exact I.after hq
    | .ok .next, hq => exact (show False from hq).elim
    | .ok .brk, hq => exact (show False from hq).elim
    | .ok .cont, hq => exact (show False from hq).elim)
theorem pe_callKN {kws : List Keyword} (F : FnOk X.prog X.w X.K X.mg X.base (L2.CX X.prog X.w) k f fd ps sp) (hr : Room k X.A) (hg : Gl X x) (hm : X.mg x = some (.ref f)) (hk : PySem.W.keepIn X.K (.ref f) = true) (hb : BindsKw X.K fd ps) (hx : ∀ σ, PassesAt (L2.CX X.prog X.w) X σ (E σ))
    (hkw : PK X kws t) (hall : (backToKw pos (keywordEach kws X.env)).all (·.1.isSome) = true := by rfl) (hks : (backToKw pos (keywordEach kws X.env)).filterMap (·.1) = ps := by rfl)
    (hdb : (x == ("__debug__" : Str)) = false := by decide) (hpl : ((backTo pos (starEach [] X.env)).any (·.1) || (backToKw pos (keywordEach kws X.env)).any (·.1.isNone)) = false := by rfl) :
    PE X (.Call (.Name x p) [] kws pos) (tCallS sp E t) := by
  constructor
  intro pins s σ H Q I h
  apply wpAny_Call_Name_kw
  apply ld_glob I hg hm _ hdb
  apply PySem.W.callWith_KW0 (h₀ := X.base) I.ok.mod.kin hk hall _ hpl
  apply thn (hkw.run pos pins s σ H _ I h)
  intro us s1 ⟨vs, H1, I1, r, q⟩
  refine ⟨I1.kIn, ?_⟩
  rw [hks]
  have hl : us.length = ps.length := by rw [← r.length]; exact F.len _ _ _ _ q
  exact run_fnN (args := ⟨[], ps.zip us⟩) F hr (hb s1 us I1.kIn hl) (hx σ) I1 r q
theorem EX.callKN {kws : List Keyword} (F : FnOk X.prog X.w X.K X.mg X.base (L2.CX X.prog X.w) k f fd ps (spP X.K X.mg c.T n fP)) (hr : Room k X.A) (hm : X.mg x = some (.ref f)) (hk : PySem.W.keepIn X.K (.ref f) = true) (hb : BindsKw X.K fd ps) (hx : ∀ σ, PassesAt (L2.CX X.prog X.w) X σ (WE W σ)) (ha : AKX X c W kws gs)
    (hg : Gl X x := by rfl) (hall : (backToKw pos (keywordEach kws X.env)).all (·.1.isSome) = true := by rfl) (hks : (backToKw pos (keywordEach kws X.env)).filterMap (·.1) = ps := by rfl)
    (hdb : (x == ("__debug__" : Str)) = false := by decide) (hpl : ((backTo pos (starEach [] X.env)).any (·.1) || (backToKw pos (keywordEach kws X.env)).any (·.1.isNone)) = false := by rfl) :
    EX X c W (.Call (.Name x p) [] kws pos) (callE n fP gs) := by
  obtain ⟨t, pa, q⟩ := ha
  exact ⟨_, pe_callKN F hr hg hm hk hb hx pa hall hks hdb hpl, fun ρ σ G H Q E hq => q ρ σ G H _ E (Gd.bind hq fun ds ρ1 vs G1 H1 E1 t1 r1 h1 => call_ok h1 E1 r1)⟩
end
theorem czC_lam {T : List (Addr × Str)} {io : List (Nat × Addr)} {X : Cx} {ls : List LamD} : ∀ (j : Nat) (d : LamD), ls[j]? = some d → (czC T io X ls).lam j = lamAt X d := fun j d h => by
  show lamTab X ls j = _
  unfold lamTab
  rw [h]
def LamGood (X : Cx) (c : Cz) (k : Nat) (d : LamD) (ge : GE D) : Prop := LamS X.env.scope d.scope ∧ (∀ (q : Str) (cl : List (Str × Addr)) (pm cv ctv : Value), bindArgs (PySem.W.kla_fn "<lambda>" q d.params d.body d.scope cl pm cv ctv) ⟨[], []⟩ = pure []) ∧
  ∀ (A : Around) (outer : List Env) (s : Shared) (H : Hp) (E : XK) (f c' : Addr), Room k (A.deeper (lamEnv X d.scope s.heap.objs.size f c')) → EX (lamCx X A outer s H E d.scope f c') c (wE E) d.body ge
inductive LamGoods (X : Cx) (c : Cz) (k : Nat) : List LamD → List (GE D) → Prop
  | nil : LamGoods X c k [] []
  | cons {d : LamD} {g : GE D} {ls : List LamD} {gs : List (GE D)} : LamGood X c k d g → LamGoods X c k ls gs → LamGoods X c k (d :: ls) (g :: gs)
theorem LamGoods.all {X : Cx} {c : Cz} {k : Nat} : ∀ {ls : List LamD} {gs : List (GE D)}, LamGoods X c k ls gs → ∀ (j : Nat) (d : LamD), ls[j]? = some d → LamGood X c k d (gs.getD j fun _ => .bad)
  | _, _, .nil, j, d, h => by cases j <;> cases h
  | _, _, .cons h r, 0, d, e => by cases e; exact h
  | _, _, .cons h r, j + 1, d, e => LamGoods.all r j d e
theorem LamGoods.len {X : Cx} {c : Cz} {k : Nat} : ∀ {ls : List LamD} {gs : List (GE D)}, LamGoods X c k ls gs → gs.length ≤ ls.length
  | _, _, .nil => Nat.le_refl _
  | _, _, .cons h r => Nat.succ_le_succ (LamGoods.len r)
theorem funD_of {K : PySem.W.Frag} {x qual : Str} {st : Stmt} {f : Addr} {fd : FuncData} (F : Fun K x qual st f fd) : FunD K x qual (defArgs st) (defBody st) (defScope st) [] [] f fd := by
  obtain ⟨oc, od, kV, doc, pm, an, cdv, ct, osl, e, lk, hcd⟩ := F.ex
  exact ⟨⟨oc, od, .none, kV, doc, pm, an, cdv, ct, osl, e, lk, hcd, .inl ⟨rfl, rfl⟩, .inl rfl⟩, F.kp⟩
section
variable {T : List (Addr × Str)} {X : Cx} {ls : List LamD} {a : Addr} {i : Nat} {vs : List Nat}
theorem ioPC : ∀ p ∈ (czC T [] X ls).io, p.1 ≠ i := fun p hp => by cases hp
theorem ioXC (h : 0 ≠ i) : ∀ p ∈ (czC T [(0, a)] X ls).io, p.1 ≠ i := fun p hp => by
  have e : p = (0, a) := List.mem_singleton.mp hp
  subst e
  exact h
theorem ioPsC : ∀ p ∈ (czC T [] X ls).io, p.1 ∉ vs := fun p hp => by cases hp
theorem ioXsC (h : 0 ∉ vs) : ∀ p ∈ (czC T [(0, a)] X ls).io, p.1 ∉ vs := fun p hp => by
  have e : p = (0, a) := List.mem_singleton.mp hp
  subst e
  exact h
theorem czC_pre {io : List (Nat × Addr)} {pre post : List LamD} : ∀ (j : Nat) (d : LamD), pre[j]? = some d → (czC T io X (pre ++ post)).lam j = lamAt X d := fun j d h => czC_lam j d (by
  rw [List.getElem?_append_left (List.getElem?_eq_some_iff.mp h).1]
  exact h)
end
section
variable {X : Cx} {W : WX} {T : List (Addr × Str)} {io : List (Nat × Addr)} {pre post : List LamD}
/-- [x(y) for y in v], v a slot that holds lambdas of the def: the def's lambdas so far are pre -/
theorem LX.heardAllG {x a tn n y v : Str} {st : Stmt} {g : Addr} {fd : FuncData} {Ng : List Str} {k i iy : Nat} {ei ew : Expr} {ini wr : Option Str} {h0 : ExceptHandler} {hds : List ExceptHandler} {l : List Cl} {pa pb pc pd pt pr pr2 p py pos ty vp lpos : Pos} {bs : Scope} {ges : List (GE D)} {hdl : List (Str × (Exn → Option D))}
    (F : Fun X.K x x st g fd) (S : FnScope Ng [a] (defScope st)) (hb : L2.Binds X.K fd [a] []) (hbd : defBody st = [.Assign [.Name tn pa] ei pb, .Try [.Assign [.Name tn pc] ew pd] (h0 :: hds) [] [] pt, .Return (some (.Name tn pr)) pr2])
    (hHC : ∀ cdg, HC X Ng x (defScope st) g cdg n tn (h0 :: hds) l) (hM : ExM X.K l) (hmg : ∀ a ∈ l, X.mg a.1 = some (.ref a.2.1)) (hdl' : strip l = hdl) (hl3 : Ng.length = 3) (h00 : Ng[0]? = some a) (h1 : Ng[1]? = some tn) (h2 : Ng[2]? = some n) (hva : Vis (defScope st) a) (l1 : (defScope st).names.lookup tn = some .local) (l2 : (defScope st).names.lookup n = some .local)
    (d1 : (tn == ("__debug__" : Str)) = false) (d2 : (tn == ("__classdict__" : Str)) = false) (hi : IniE ei ini) (hw : WrapE a ew wr)
    (hs1 : ∀ env : Env, swapsWith ei (some (.Name tn pa)) pb.line env = pure false) (hs2 : ∀ env : Env, swapsWith ew (some (.Name tn pc)) pd.line env = pure false)
    (hm : X.mg x = some (.ref g)) (hk : PySem.W.keepIn X.K (.ref g) = true) (hr : Room (k + 2) X.A) (calm : X.calm = true) (nd : X.N.Nodup)
    (hL : LamGoods X (czC T io X (pre ++ post)) k pre ges)
    (hv : PE X (.Name v vp) (tVar i)) (ok : BlkOk X.N X.env.scope bs [(y, iy)])
    (hNy : X.N[iy]? = some y) (hvy : ∀ C cl, Vis (compEnvC bs cl C X.env).scope y) (hgy : ∀ (sB : Shared) (HB : Hp) (C : Addr) (cl : List (Str × Addr)) (fp : List Addr), PG (X.blk sB HB bs (compEnvC bs cl C X.env) fp) (.Name y ty) (gName iy))
    (hg : ∀ (sB : Shared) (HB : Hp) (C : Addr) (cl : List (Str × Addr)) (fp : List Addr), Gl (X.blk sB HB bs (compEnvC bs cl C X.env) fp) x) (plain : ∀ z, foldedSetIterable (.Name v vp) X.env z = pure z := by intro _; rfl) (hdy : (y == ("__debug__" : Str)) = false := by decide) (hcy : (y == ("__classdict__" : Str)) = false := by decide) (hdb : (x == ("__debug__" : Str)) = false := by decide) (hd : (a == ("__debug__" : Str)) = false := by decide) (hcd : (a == ("__classdict__" : Str)) = false := by decide) :
    LX X (czC T io X (pre ++ post)) W (.ListComp (.Call (.Name x p) [.Name y py] [] pos) [⟨.Name y ty, .Name v vp, [], 0⟩] bs lpos) (heardAllL i wr hdl ges) :=
  LX.heardAll (lams := pre) F S hb hbd hHC hM hmg hdl' hl3 h00 h1 h2 hva l1 l2 d1 d2 hi hw hs1 hs2 hm hk hr calm nd (czC_pre (io := io)) rfl hL.len hL.all hv ok hNy hvy hgy hg plain hdy hcy hdb hd hcd
end
end PL
end L2
set_option linter.all false
set_option maxRecDepth 100000
set_option maxHeartbeats 2000000
/-! PMa: plain readings of the layer's functions (no program in sight) -/
namespace L2
namespace PL
open PySem PySem.Spec
theorem lcGo_pure {vs : List Nat} {gt : D → PEnv → Option PEnv} {gtst : GE Bool} {ge : GE D} {p : D → Bool} {f : D → D} {ρ0 : PEnv} : ∀ {items acc : List D}, acc.length + items.length ≤ lim →
    (∀ d ∈ items, ∃ ρ2, gt d ρ0 = some ρ2 ∧ gtst ρ2 = .ok (p d) ρ2 ∧ wipeP ρ2 vs = ρ0 ∧ (p d = true → ge ρ2 = .ok (f d) ρ2)) →
    lcGo vs gt gtst ge items ρ0 acc = .ok (acc ++ (items.filter p).map f) ρ0
  | [], acc, _, _ => by simp [lcGo]
  | d :: ds, acc, hl, h => by
    obtain ⟨ρ2, h1, h2, h3, h4⟩ := h d List.mem_cons_self
    have hl' : acc.length + (ds.length + 1) ≤ lim := hl
    unfold lcGo
    rw [h1]
    simp only [h2]
    cases q : p d with
    | false =>
      simp only [h3]
      rw [lcGo_pure (by omega) fun d hd => h d (List.mem_cons_of_mem _ hd), List.filter_cons, q]
      rfl
    | true =>
      simp only [h4 q]
      rw [if_pos (by omega), h3, lcGo_pure (by rw [List.length_append, List.length_singleton]; omega) fun d hd => h d (List.mem_cons_of_mem _ hd), List.filter_cons, q]
      simp
theorem lcE_pure {vs : List Nat} {gi : GE (List D)} {gt : D → PEnv → Option PEnv} {gtst : GE Bool} {ge : GE D} (p : D → Bool) (f : D → D) {ρ ρ1 : PEnv} {items : List D} (hi : gi ρ = .ok items ρ1) (hno : noOwn ρ1 vs = true) (hl : items.length ≤ lim) (hr : restore ρ1 (wipeP ρ1 vs) vs = ρ1)
    (h : ∀ d ∈ items, ∃ ρ2, gt d (wipeP ρ1 vs) = some ρ2 ∧ gtst ρ2 = .ok (p d) ρ2 ∧ wipeP ρ2 vs = wipeP ρ1 vs ∧ (p d = true → ge ρ2 = .ok (f d) ρ2)) :
    lcE vs gi gt gtst ge ρ = .ok ((items.filter p).map f) ρ1 := by
  unfold lcE
  rw [hi]
  show (if noOwn ρ1 vs = true then _ else _) = _
  rw [if_pos hno, lcGo_pure (by simpa using hl) h]
  show R.ok _ (restore ρ1 (wipeP ρ1 vs) vs) = _
  rw [hr]
  rfl
end PL
end L2
namespace L2
namespace PL
open PySem PySem.Spec
theorem R.bind_ok {α β : Type} {a : α} {ρ : PEnv} {k : α → PEnv → R β} : (R.ok a ρ).bind k = k a ρ := rfl
theorem R.bind_er {α β : Type} {x : Exn} {ρ : PEnv} {k : α → PEnv → R β} : (R.er x ρ).bind k = .er x ρ := rfl
theorem R.bind_bad {α β : Type} {k : α → PEnv → R β} : (R.bad).bind k = .bad := rfl
theorem R.bindS_ok {α : Type} {a : α} {ρ : PEnv} {k : α → PEnv → FR} : (R.ok a ρ).bindS k = k a ρ := rfl
theorem R.bindS_er {α : Type} {x : Exn} {ρ : PEnv} {k : α → PEnv → FR} : (R.er x ρ).bindS k = .er x ρ := rfl
theorem R.bindS_bad {α : Type} {k : α → PEnv → FR} : (R.bad).bindS k = .bad := rfl
theorem varE_d {i : Nat} {ρ : PEnv} {d : D} (h : ρ[i]? = some (.d d)) : varE i ρ = .ok d ρ := by unfold varE; rw [h]
theorem cE_ok {d : D} {ρ : PEnv} : cE d ρ = .ok d ρ := rfl
theorem ofOpt_some {α : Type} {a : α} {ρ : PEnv} : ofOpt (some a) ρ = .ok a ρ := rfl
theorem binE_ok {f : D → D → Option D} {ga gb : GE D} {ρ ρ1 ρ2 : PEnv} {x y z : D} (ha : ga ρ = .ok x ρ1) (hb : gb ρ1 = .ok y ρ2) (h : f x y = some z) : binE f ga gb ρ = .ok z ρ2 := by
  unfold binE; rw [ha]; show ((gb ρ1).bind _) = _; rw [hb]; show ofOpt (f x y) ρ2 = _; rw [h]; rfl
theorem nilA_ok {ρ : PEnv} : nilA ρ = .ok [] ρ := rfl
theorem consA_ok {ga : GE D} {gr : GE (List D)} {ρ ρ1 ρ2 : PEnv} {x : D} {xs : List D} (ha : ga ρ = .ok x ρ1) (hr : gr ρ1 = .ok xs ρ2) : consA ga gr ρ = .ok (x :: xs) ρ2 := by
  unfold consA; rw [ha]; show ((gr ρ1).bind _) = _; rw [hr]; rfl
/-! values -/
section
variable {a b : Int} {x y : Str} {p q : Bool}
theorem gt_int : gtF (.int a) (.int b) = some (.bl (decide (b < a))) := rfl
theorem lt_int : ltF (.int a) (.int b) = some (.bl (decide (a < b))) := rfl
theorem le_int : leF (.int a) (.int b) = some (.bl (decide (a ≤ b))) := rfl
theorem ge_int : geF (.int a) (.int b) = some (.bl (decide (b ≤ a))) := rfl
theorem lt_str : ltF (.str x) (.str y) = some (.bl (sLt x y)) := rfl
theorem le_str : leF (.str x) (.str y) = some (.bl (!sLt y x)) := rfl
theorem add_int : addF (.int a) (.int b) = some (.int (a + b)) := rfl
theorem sub_int : subF (.int a) (.int b) = some (.int (a - b)) := rfl
theorem mod_int (h : 0 < b) : modF (.int a) (.int b) = some (.int (a % b)) := by unfold modF intsF; simp [h]
theorem fdiv_int (h : 0 < b ∧ b < 1073741824) : fdivF (.int a) (.int b) = some (.int (a / b)) := by unfold fdivF intsF; simp [h]
theorem mul_int (h : (small64b a || small64b b) = true) : mulF (.int a) (.int b) = some (.int (a * b)) := by unfold mulF orF intsF; simp [h]
theorem add_str (h : x.length + y.length ≤ lim) : addF (.str x) (.str y) = some (.str (x ++ y)) := by unfold addF orF intsF strsF; simp [h]
theorem eq_int : eqF (.int a) (.int b) = some (.bl (decide (a = b))) := rfl
theorem ne_int : neF (.int a) (.int b) = some (.bl (!decide (a = b))) := rfl
theorem eq_str : eqF (.str x) (.str y) = some (.bl (decide (x = y))) := rfl
theorem ne_str : neF (.str x) (.str y) = some (.bl (!decide (x = y))) := rfl
end
end PL
end L2
namespace L2
namespace PL
open PySem PySem.Spec
section
variable {α : Type} {x y : α} {l : List α} {n : Nat}
theorem ixN_0 : ixN (n + 1) 0 = some 0 := by unfold ixN; simp
theorem ixN_1 : ixN (n + 1 + 1) 1 = some 1 := by unfold ixN; simp; omega
theorem atI_0 : atI (x :: l) 0 = some x := by unfold atI; rw [List.length_cons, ixN_0]; rfl
theorem atI_1 : atI (x :: y :: l) 1 = some y := by unfold atI; rw [List.length_cons, List.length_cons, ixN_1]; rfl
end
end PL
end L2
set_option linter.all false
set_option maxRecDepth 100000
set_option maxHeartbeats 1000000
/-! PMb: repr of data told in 7 bits -/
namespace L2
namespace PL
open PySem PySem.Spec PySem.Builtin TL
def Asc (l : List Nat) : Prop := ∀ c ∈ l, c < 128
theorem Asc.app {a b : List Nat} (ha : Asc a) (hb : Asc b) : Asc (a ++ b) := fun c hc => by
  rcases List.mem_append.mp hc with h | h
  · exact ha c h
  · exact hb c h
theorem Asc.nil : Asc [] := fun c hc => by cases hc
def asc7 (l : List Nat) : Bool := l.all fun c => decide (c < 128)
theorem Asc.of {l : List Nat} (h : asc7 l = true) : Asc l := fun c hc => of_decide_eq_true (List.all_eq_true.mp h c hc)
mutual
def fine : PyData → Bool
  | .none | .bool _ => true
  | .int i => decide (-1 ≤ i ∧ i < 1000000)
  | .str x => decide (x.length ≤ 1000) && asc7 x.cps.toList
  | .list xs | .tuple xs => fineAll xs
  | .dict _ => false
def fineAll : List PyData → Bool
  | [] => true
  | x :: xs => fine x && fineAll xs
end
mutual
def cost : PyData → Nat
  | .none | .bool _ => 5
  | .int _ => 8
  | .str x => 10 * x.length + 2
  | .list xs | .tuple xs => costAll xs + 4
  | .dict _ => 0
def costAll : List PyData → Nat
  | [] => 0
  | x :: xs => cost x + 2 + costAll xs
end
theorem reprChar_asc {q c : Nat} (hq : q = 34 ∨ q = 39) (hc : c < 128) : Asc (Str.reprChar q c) := by
  have h1 : ∀ c : Nat, c < 128 → asc7 (Str.reprChar 34 c) = true ∧ asc7 (Str.reprChar 39 c) = true := by decide +kernel
  rcases hq with rfl | rfl
  · exact Asc.of (h1 c hc).1
  · exact Asc.of (h1 c hc).2
theorem quote_is (x : Str) : reprQuote x = 34 ∨ reprQuote x = 39 := by
  unfold reprQuote
  split
  · exact .inl rfl
  · exact .inr rfl
theorem reprFold_asc {q : Nat} (hq : q = 34 ∨ q = 39) : ∀ (l : List Nat) (acc : Array Nat), Asc l → Asc acc.toList → Asc (l.foldl (fun out c => out ++ (Str.reprChar q c).toArray) acc).toList
  | [], acc, _, h => h
  | c :: l, acc, hl, h => by
    rw [List.foldl_cons]
    refine reprFold_asc hq l _ (fun d hd => hl d (List.mem_cons_of_mem _ hd)) ?_
    rw [Array.toList_append]
    exact h.app (reprChar_asc hq (hl c List.mem_cons_self))
theorem reprText_asc {x : Str} (h : Asc (tl x)) : Asc (tl (reprText x)) := by
  have hq := quote_is x
  have hq' : Asc [reprQuote x] := fun c hc => by
    have : c = reprQuote x := by simpa using hc
    omega
  unfold reprText
  show Asc (Array.push (Array.foldl _ _ x.cps) _).toList
  rw [Array.toList_push, ← Array.foldl_toList]
  exact (reprFold_asc hq _ _ h hq').app hq'
theorem textFrom_asc : ∀ (ts : List Str) (k : Nat) (acc : Str), Asc (tl acc) → (∀ t ∈ ts, Asc (tl t)) → Asc (tl (textFrom k acc ts)) ∧ (textFrom k acc ts).length ≤ acc.length + (ts.map fun t => t.length + 2).sum
  | [], k, acc, h, _ => ⟨h, by simp [textFrom]⟩
  | t :: ts, k, acc, h, ht => by
    have e : tl (acc ++ (if k > 0 then ", " else "" : String) ++ t) = tl acc ++ (if k > 0 then [44, 32] else []) ++ tl t := by
      rw [tl_append, tl_append]
      split <;> rfl
    have a1 : Asc (tl (acc ++ (if k > 0 then ", " else "" : String) ++ t)) := by
      rw [e]
      refine (h.app ?_).app (ht t List.mem_cons_self)
      split
      · exact Asc.of rfl
      · exact Asc.nil
    obtain ⟨h1, h2⟩ := textFrom_asc ts (k + 1) _ a1 fun u hu => ht u (List.mem_cons_of_mem _ hu)
    refine ⟨h1, ?_⟩
    have l1 : (acc ++ (if k > 0 then ", " else "" : String) ++ t).length ≤ acc.length + 2 + t.length := by
      have := congrArg List.length e
      rw [List.length_append, List.length_append] at this
      have z : ∀ y : Str, (tl y).length = y.length := fun y => rfl
      rw [z, z, z] at this
      rw [this]
      split <;> simp <;> omega
    show (textFrom (k + 1) _ ts).length ≤ _
    rw [List.map_cons, List.sum_cons]
    omega
theorem listText_asc (ts : List Str) (ht : ∀ t ∈ ts, Asc (tl t)) : Asc (tl (listText ts)) ∧ (listText ts).length ≤ (ts.map fun t => t.length + 2).sum + 4 := by
  have a0 : Asc (tl ("[" : Str)) := Asc.of rfl
  obtain ⟨h1, h2⟩ := textFrom_asc ts 0 "[" a0 ht
  have e : tl (listText ts) = tl (textFrom 0 "[" ts) ++ [93] := by
    unfold listText
    rw [tl_append]
    rfl
  refine ⟨by rw [e]; exact h1.app (Asc.of rfl), ?_⟩
  have := congrArg List.length e
  rw [List.length_append] at this
  have z : ∀ y : Str, (tl y).length = y.length := fun y => rfl
  rw [z, z] at this
  have l1 : ("[" : Str).length = 1 := rfl
  rw [this]
  simp only [List.length_cons, List.length_nil]
  omega
theorem joinL_asc {s : List Nat} (hs : Asc s) : ∀ (ls : List (List Nat)), (∀ t ∈ ls, Asc t) → Asc (joinL s ls)
  | [], _ => Asc.nil
  | [p], h => h p List.mem_cons_self
  | p :: q :: r, h => (h p List.mem_cons_self).app (hs.app (joinL_asc hs (q :: r) fun t ht => h t (List.mem_cons_of_mem _ ht)))
theorem joinL_le (s : List Nat) : ∀ (ls : List (List Nat)), (joinL s ls).length ≤ (ls.map fun t => t.length + s.length).sum
  | [] => by simp [joinL]
  | [p] => by simp [joinL]
  | p :: q :: r => by
    have := joinL_le s (q :: r)
    show (p ++ (s ++ joinL s (q :: r))).length ≤ _
    rw [List.length_append, List.length_append, List.map_cons, List.sum_cons]
    omega
theorem tupleText_asc (ts : List Str) (ht : ∀ t ∈ ts, Asc (tl t)) : Asc (tl (tupleText ts)) ∧ (tupleText ts).length ≤ (ts.map fun t => t.length + 2).sum + 4 := by
  have e : tl (tupleText ts) = [40] ++ joinL [44, 32] (ts.map tl) ++ (if (ts.length == 1) = true then [44, 41] else [41]) := by
    unfold tupleText
    rw [tl_append, tl_append, tl_join]
    congr 1
    split <;> rfl
  have a1 : Asc (joinL [44, 32] (ts.map tl)) := joinL_asc (Asc.of rfl) _ fun t h => by
    obtain ⟨u, hu, rfl⟩ := List.mem_map.mp h
    exact ht u hu
  refine ⟨?_, ?_⟩
  · rw [e]
    refine ((Asc.of rfl : Asc [40]).app a1).app ?_
    split
    · exact Asc.of rfl
    · exact Asc.of rfl
  · have := congrArg List.length e
    rw [List.length_append, List.length_append] at this
    have z : ∀ y : Str, (tl y).length = y.length := fun y => rfl
    rw [z] at this
    have jl := joinL_le [44, 32] (ts.map tl)
    rw [List.map_map] at jl
    have e2 : ((fun t : List Nat => t.length + ([44, 32] : List Nat).length) ∘ tl) = fun t : Str => t.length + 2 := rfl
    rw [e2] at jl
    have e3 : (if (ts.length == 1) = true then ([44, 41] : List Nat) else [41]).length ≤ 2 := by split <;> simp
    rw [this]
    simp only [List.length_cons, List.length_nil]
    omega
structure Shows (p : PyData) : Prop where
  sh : p.showable = true
  nd : p.hasDict = false
  as : Asc (tl p.shown)
  le : p.shown.length ≤ cost p
structure ShowsAll (ps : List PyData) : Prop where
  sh : PyData.showableAll ps = true
  nd : PyData.hasDictAll ps = false
  as : ∀ t ∈ PyData.shownAll ps, Asc (tl t)
  le : ((PyData.shownAll ps).map fun t => t.length + 2).sum ≤ costAll ps
theorem shows_int {i : Int} (h : -1 ≤ i ∧ i < 1000000) : Shows (.int i) := by
  by_cases hi : i = -1
  · subst hi
    exact ⟨by decide, rfl, Asc.of (by decide), by decide⟩
  · obtain ⟨n, rfl⟩ : ∃ n : Nat, i = n := ⟨i.toNat, by omega⟩
    have e : tl (PyData.shown (.int (n : Int))) = numL n := tl_num n
    have hl : (numL n).length ≤ 6 := numL_len (by decide) (by omega)
    refine ⟨?_, rfl, ?_, ?_⟩
    · show decide ((n : Int).natAbs.log2 < 1920) = true
      rw [Int.natAbs_natCast]
      apply decide_eq_true
      by_cases h0 : n = 0
      · subst h0; decide
      · have : n.log2 < 20 := (Nat.log2_lt h0).mpr (by omega)
        omega
    · rw [e]
      intro c hc
      have := numL_digits n c hc
      omega
    · have : (PyData.shown (.int (n : Int))).length = (numL n).length := by rw [← e]; rfl
      rw [this]
      show _ ≤ 8
      omega
mutual
theorem shows : ∀ {p : PyData}, fine p = true → Shows p
  | .none, _ => ⟨rfl, rfl, Asc.of (by decide), by decide⟩
  | .bool b, _ => by
    cases b
    · exact ⟨rfl, rfl, Asc.of (by decide), by decide⟩
    · exact ⟨rfl, rfl, Asc.of (by decide), by decide⟩
  | .int i, h => shows_int (of_decide_eq_true h)
  | .str x, h => by
    obtain ⟨h1, h2⟩ := Bool.and_eq_true_iff.mp (show (decide (x.length ≤ 1000) && asc7 x.cps.toList) = true from h)
    have a : Asc (tl x) := Asc.of h2
    exact ⟨rfl, rfl, reprText_asc a, StrLaws.reprText_len x fun c hc => Nat.lt_trans (a c hc) (by decide)⟩
  | .list xs, h => by
    have s := showsAll (ps := xs) h
    obtain ⟨h1, h2⟩ := listText_asc (PyData.shownAll xs) s.as
    exact ⟨s.sh, s.nd, h1, Nat.le_trans h2 (Nat.add_le_add_right s.le 4)⟩
  | .tuple xs, h => by
    have s := showsAll (ps := xs) h
    obtain ⟨h1, h2⟩ := tupleText_asc (PyData.shownAll xs) s.as
    exact ⟨s.sh, s.nd, h1, Nat.le_trans h2 (Nat.add_le_add_right s.le 4)⟩
  | .dict _, h => by cases h
theorem showsAll : ∀ {ps : List PyData}, fineAll ps = true → ShowsAll ps
  | [], _ => ⟨rfl, rfl, (fun t ht => by cases ht), by decide⟩
  | p :: ps, h => by
    obtain ⟨h1, h2⟩ := Bool.and_eq_true_iff.mp (show (fine p && fineAll ps) = true from h)
    have a := shows h1
    have b := showsAll h2
    refine ⟨?_, ?_, ?_, ?_⟩
    · show (p.showable && PyData.showableAll ps) = true
      rw [a.sh, b.sh]; rfl
    · show (p.hasDict || PyData.hasDictAll ps) = false
      rw [a.nd, b.nd]; rfl
    · intro t ht
      rcases List.mem_cons.mp (show t ∈ p.shown :: PyData.shownAll ps from ht) with rfl | ht
      · exact a.as
      · exact b.as t ht
    · show (((p.shown :: PyData.shownAll ps).map fun t => t.length + 2).sum) ≤ cost p + 2 + costAll ps
      rw [List.map_cons, List.sum_cons]
      have := a.le
      have := b.le
      omega
end
/-- repr of fine data is some text told in 7 bits -/
theorem repr_fine {d : D} {p : PyData} (h : d.toP = some p) (hf : fine p = true) (hd : p.depth ≤ 60) (hc : cost p ≤ 100000) : ∃ r : Str, reprF [d] = some (.str r) ∧ Asc (tl r) ∧ r.length ≤ 100000 := by
  have s := shows hf
  have := s.le
  refine ⟨p.shown, ?_, s.as, by omega⟩
  show (match d.toP with | some p => _ | none => none) = _
  rw [h]
  show (if _ then _ else none) = _
  rw [if_pos]
  rw [s.sh, s.nd, decide_eq_true hd, decide_eq_true (by unfold lim; omega)]
  rfl
end PL
end L2
set_option linter.all false
set_option maxRecDepth 100000
set_option maxHeartbeats 1000000
/-! PMc: fine data by parts -/
namespace L2
namespace PL
open PySem PySem.Spec PySem.Builtin TL
def FD (d : D) (k c : Nat) : Prop := ∃ p, d.toP = some p ∧ fine p = true ∧ p.depth ≤ k ∧ cost p ≤ c
def FDs (ds : List D) (k c : Nat) : Prop := ∃ ps, D.toPs ds = some ps ∧ fineAll ps = true ∧ PyData.depthAll ps ≤ k ∧ costAll ps ≤ c
theorem FD.non {k : Nat} : FD .non k 5 := ⟨.none, rfl, rfl, Nat.zero_le _, by decide⟩
theorem FD.bl {b : Bool} {k : Nat} : FD (.bl b) k 5 := ⟨.bool b, rfl, rfl, Nat.zero_le _, Nat.le_refl _⟩
theorem FD.int {i : Int} {k : Nat} (h : -1 ≤ i ∧ i < 1000000) : FD (.int i) k 8 := ⟨.int i, rfl, decide_eq_true h, Nat.zero_le _, Nat.le_refl _⟩
theorem FD.str {x : Str} {k : Nat} (hl : x.length ≤ 1000) (ha : asc7 x.cps.toList = true) : FD (.str x) k (10 * x.length + 2) :=
  ⟨.str x, rfl, by show (decide (x.length ≤ 1000) && asc7 x.cps.toList) = true; rw [decide_eq_true hl, ha]; rfl, Nat.zero_le _, Nat.le_refl _⟩
theorem FDs.nil {k : Nat} : FDs [] k 0 := ⟨[], rfl, rfl, Nat.zero_le _, Nat.le_refl _⟩
theorem FDs.cons {d : D} {ds : List D} {k c c' : Nat} (h : FD d k c) (hs : FDs ds k c') : FDs (d :: ds) k (c + 2 + c') := by
  obtain ⟨p, h1, h2, h3, h4⟩ := h
  obtain ⟨ps, q1, q2, q3, q4⟩ := hs
  refine ⟨p :: ps, ?_, ?_, ?_, ?_⟩
  · show (match D.toP d, D.toPs ds with | some p, some ps => some (p :: ps) | _, _ => none) = _
    rw [h1, q1]
  · show (fine p && fineAll ps) = true
    rw [h2, q2]; rfl
  · show max (PyData.depth p) (PyData.depthAll ps) ≤ k
    omega
  · show cost p + 2 + costAll ps ≤ _
    omega
theorem FDs.lst {ds : List D} {k c : Nat} (h : FDs ds k c) : FD (.lst ds) (k + 1) (c + 4) := by
  obtain ⟨ps, q1, q2, q3, q4⟩ := h
  refine ⟨.list ps, ?_, q2, Nat.succ_le_succ q3, Nat.add_le_add_right q4 4⟩
  show (D.toPs ds).map _ = _
  rw [q1]
  rfl
theorem FDs.tup {ds : List D} {k c : Nat} (h : FDs ds k c) : FD (.tup ds) (k + 1) (c + 4) := by
  obtain ⟨ps, q1, q2, q3, q4⟩ := h
  refine ⟨.tuple ps, ?_, q2, Nat.succ_le_succ q3, Nat.add_le_add_right q4 4⟩
  show (D.toPs ds).map _ = _
  rw [q1]
  rfl
theorem FD.up {d : D} {k c k' c' : Nat} (h : FD d k c) (hk : k ≤ k') (hc : c ≤ c') : FD d k' c' := by
  obtain ⟨p, h1, h2, h3, h4⟩ := h
  exact ⟨p, h1, h2, by omega, by omega⟩
theorem FD.repr {d : D} {k c : Nat} (h : FD d k c) (hk : k ≤ 60) (hc : c ≤ 100000) : ∃ r : Str, reprF [d] = some (.str r) ∧ Asc (tl r) ∧ r.length ≤ 100000 := by
  obtain ⟨p, h1, h2, h3, h4⟩ := h
  exact repr_fine h1 h2 (by omega) (by omega)
theorem ne_same {ds : List D} {p : PyData} (h : (D.lst ds).toP = some p) (hs : SeqAt.shaped p = true) : neF (.lst ds) (.lst ds) = some (.bl false) := by
  show eqPF true (.lst ds) (.lst ds) = _
  have hc : p.canLay0 = true := (Bool.and_eq_true_iff.mp hs).1
  show (match (D.lst ds).toP, (D.lst ds).toP with | some p, some q => _ | _, _ => none) = _
  rw [h]
  show (if (SeqAt.shaped p && SeqAt.shaped p) = true then some (D.bl (!PyData.eqv p p)) else none) = _
  rw [hs, SeqAt.eqv_refl p hc]
  rfl
theorem strOk_asc {r : Str} (h : Asc (tl r)) : PyData.canLay0 (.str r) = true := by
  show r.cps.all (· < 0x110000) = true
  rw [← Array.all_toList, List.all_eq_true]
  intro c hc
  have := h c hc
  exact decide_eq_true (by omega)
end PL
end L2
set_option linter.all false
set_option maxRecDepth 100000
set_option maxHeartbeats 2000000
/-! PMd: plain facts of texts, numbers, names, slices (no program in sight) -/
namespace L2
namespace PL
open PySem PySem.Spec TL
open _root_.SX (S S_len S_cat S_tl S_inj split_S join_S num_S int_S)
theorem numL_len3 {n : Nat} (h : n < 1000) : 1 ≤ (numL n).length ∧ (numL n).length ≤ 3 := by
  have := numL_ne n
  refine ⟨?_, numL_len (by decide) (by omega)⟩
  cases e : numL n with
  | nil => exact absurd e this
  | cons a l => simp
theorem ofNum (n : Nat) : Str.ofString (toString ((n : Nat) : Int)) = S (numL n) := num_S n
theorem strI_ok (n : Nat) (h : n < 1000000) : strIF [.int n] = some (.str (S (numL n))) := by
  unfold strIF
  have hl : ((n : Int).natAbs).log2 < 1920 := by
    rw [Int.natAbs_natCast]
    by_cases h0 : n = 0
    · subst h0; decide
    · have : n.log2 < 20 := (Nat.log2_lt h0).mpr (Nat.lt_trans h (by decide))
      omega
  show (if _ then _ else _) = _
  rw [if_pos hl, ofNum]
theorem repS_c (c k : Nat) : repS (S [c]) k = S (List.replicate k c) := by
  unfold repS
  suffices ∀ acc : Array Nat, (List.replicate k (S [c]).cps).foldl (· ++ ·) acc = (acc.toList ++ List.replicate k c).toArray by
    rw [this #[]]
    rfl
  induction k with
  | zero => intro acc; simp
  | succ k ih =>
    intro acc
    rw [List.replicate_succ, List.foldl_cons, ih]
    simp [List.replicate_succ, S]
theorem mulS (c k : Nat) (h : 1 < k ∧ k ≤ 1000) : mulF (.str (S [c])) (.int k) = some (.str (S (List.replicate k c))) := by
  unfold mulF orF intsF strMulF
  have hl : (S [c]).length = 1 := rfl
  have a1 : ¬ ((k : Int) < 1 ∧ -(2 ^ 62) ≤ (k : Int)) := by omega
  have a2 : ¬ ((k : Int) = 1) := by omega
  have a3 : (1 : Int) < k ∧ 0 < (S [c]).length ∧ (S [c]).length * (k : Int).toNat ≤ lim ∧ (k : Int) ≤ lim := by
    rw [hl]
    unfold lim
    omega
  simp only [if_neg a1, if_neg a2]
  rw [if_pos a3, Int.toNat_natCast, repS_c]
theorem filt {α : Type} (l : List α) : l.filter (fun _ => true) = l := by simp
theorem intsOf_ints : ∀ l : List Int, intsOf (l.map D.int) = some l
  | [] => rfl
  | x :: l => by
    show (intsOf (l.map D.int)).map (x :: ·) = _
    rw [intsOf_ints l]
    rfl
theorem sum_ints (l : List Int) : sumF [.lst (l.map D.int)] = some (.int l.sum) := by
  show (intsOf (l.map D.int)).map _ = _
  rw [intsOf_ints l]
  rfl
theorem ord_one (c : Nat) : ordChF [.str ⟨#[c]⟩] = some (.int c) := rfl
def isInt : D → Bool | .int _ => true | _ => false
def within (d : D) (a b : Int) : Bool := match d with | .int i => decide (a ≤ i) && decide (i ≤ b) | _ => false
def isTup (d : D) (n : Nat) : Bool := match d with | .tup xs => decide (xs.length = n) | _ => false
def low (c : Nat) : Bool := decide (97 ≤ c) && decide (c ≤ 122)
def isName (a : List Nat) : Bool := decide (1 ≤ a.length) && decide (a.length ≤ 12) && a.all low
def isNameD : D → Bool | .str x => isName x.cps.toList | _ => false
theorem bls_map (p : Nat → Bool) : ∀ l : List Nat, blsOf (l.map fun c => D.bl (p c)) = some (l.map p)
  | [] => rfl
  | c :: l => by
    show (blsOf (l.map fun c => D.bl (p c))).map (p c :: ·) = _
    rw [bls_map p l]
    rfl
theorem all_map (p : Nat → Bool) (l : List Nat) : allF [.lst (l.map fun c => D.bl (p c))] = some (.bl (l.all p)) := by
  show (blsOf _).map _ = _
  rw [bls_map]
  show some (D.bl ((l.map p).all id)) = _
  rw [List.all_map]
  rfl
def chD (p : Nat → Bool) : D → D
  | .str x => .bl (p (x.cps.getD 0 0))
  | d => d
theorem signs_ch (p : Nat → Bool) (a : List Nat) : (((signs (S a)).filter fun _ => true).map (chD p)) = a.map fun c => D.bl (p c) := by
  unfold signs
  rw [filt, List.map_map]
  rfl
def sameS : D → D → Bool
  | .str x, .str y => decide (x = y)
  | _, _ => true
theorem ne_names {c d : D} (hn : isNameD c = true) (hm : isNameD d = true) : neF c d = some (.bl (!sameS c d)) := by
  cases c <;> first | cases hn | skip
  cases d <;> first | cases hm | skip
  rfl
theorem lt_one (c b : Nat) : sLt ⟨#[c]⟩ (S [b]) = decide (c < b) := by
  unfold sLt
  apply decide_eq_decide.mpr
  show ([c] : List Nat) < [b] ↔ c < b
  rw [List.cons_lt_cons_iff]
  constructor
  · rintro (h | ⟨_, h⟩)
    · exact h
    · cases h
  · exact fun h => .inl h
theorem lt_one' (c b : Nat) : sLt (S [b]) ⟨#[c]⟩ = decide (b < c) := by
  unfold sLt
  apply decide_eq_decide.mpr
  show ([b] : List Nat) < [c] ↔ b < c
  rw [List.cons_lt_cons_iff]
  constructor
  · rintro (h | ⟨_, h⟩)
    · exact h
    · cases h
  · exact fun h => .inl h
def asc (l : List Nat) : Bool := l.all fun c => decide (c < 128)
theorem toPs_strs : ∀ l : List Nat, D.toPs (l.map fun c => D.str ⟨#[c]⟩) = some (l.map fun c => PyData.str ⟨#[c]⟩)
  | [] => rfl
  | c :: l => by
    show (match D.toP (.str ⟨#[c]⟩), D.toPs (l.map fun c => D.str ⟨#[c]⟩) with | some p, some ps => some (p :: ps) | _, _ => none) = _
    rw [toPs_strs l]
    rfl
theorem depth_strs : ∀ l : List Nat, PyData.depthAll (l.map fun c => PyData.str ⟨#[c]⟩) = 0
  | [] => rfl
  | c :: l => by
    show max (PyData.depth (.str ⟨#[c]⟩)) (PyData.depthAll (l.map fun c => PyData.str ⟨#[c]⟩)) = 0
    rw [depth_strs l]
    rfl
theorem strOk_one {c : Nat} (h : c < 128) : PyData.canLay0 (.str ⟨#[c]⟩) = true := by
  have : ∀ c : Nat, c < 128 → PyData.canLay0 (.str ⟨#[c]⟩) = true := by decide +kernel
  exact this c h
theorem lay_strs : ∀ l : List Nat, asc l = true → PyData.canLayAll0 (l.map fun c => PyData.str ⟨#[c]⟩) = true
  | [], _ => rfl
  | c :: l, h => by
    have h' : (decide (c < 128) && asc l) = true := h
    obtain ⟨h1, h2⟩ := Bool.and_eq_true_iff.mp h'
    show (PyData.canLay0 (.str ⟨#[c]⟩) && PyData.canLayAll0 (l.map fun c => PyData.str ⟨#[c]⟩)) = true
    rw [strOk_one (of_decide_eq_true h1), lay_strs l h2]
    rfl
theorem ne_empty (l : List Nat) (h : asc l = true) : neF (.lst (l.map fun c => D.str ⟨#[c]⟩)) (.lst []) = some (.bl (!l.isEmpty)) := by
  have e : neF (.lst (l.map fun c => D.str ⟨#[c]⟩)) (.lst []) = eqPF true (.lst (l.map fun c => D.str ⟨#[c]⟩)) (.lst []) := rfl
  rw [e]
  have p1 : D.toP (.lst (l.map fun c => D.str ⟨#[c]⟩)) = some (.list (l.map fun c => PyData.str ⟨#[c]⟩)) := by
    show (D.toPs _).map _ = _
    rw [toPs_strs]
    rfl
  have s1 : SeqAt.shaped (.list (l.map fun c => PyData.str ⟨#[c]⟩)) = true := by
    show (PyData.canLayAll0 _ && decide (PyData.depthAll _ + 1 ≤ 64)) = true
    rw [lay_strs l h, depth_strs]
    rfl
  unfold eqPF
  rw [p1]
  have s2 : SeqAt.shaped (.list []) = true := by decide
  show (if (SeqAt.shaped (.list (l.map fun c => PyData.str ⟨#[c]⟩)) && SeqAt.shaped (.list [])) = true then _ else _) = _
  rw [s1, s2]
  cases l <;> rfl
def notLow : D → Bool
  | .str x => !low (x.cps.getD 0 0)
  | _ => false
theorem signs_notLow (a : List Nat) : ((signs (S a)).filter notLow).map id = (a.filter fun c => !low c).map fun c => D.str ⟨#[c]⟩ := by
  unfold signs
  rw [List.map_id, List.filter_map]
  rfl
theorem asc_filter {a : List Nat} (h : asc a = true) (p : Nat → Bool) : asc (a.filter p) = true := by
  unfold asc at h ⊢
  rw [List.all_eq_true] at h ⊢
  exact fun c hc => h c (List.mem_filter.mp hc).1
theorem empty_filter (a : List Nat) : (a.filter fun c => !low c).isEmpty = a.all low := by
  induction a with
  | nil => rfl
  | cons c a ih =>
    rw [List.filter_cons, List.all_cons]
    cases h : low c
    · rfl
    · simpa using ih
theorem S_eq (a b : List Nat) : decide (S a = S b) = decide (a = b) := by
  apply decide_eq_decide.mpr
  exact ⟨fun h => S_inj h, fun h => by rw [h]⟩
theorem S_beq (a b : List Nat) : (S a == S b) = decide (a = b) := by
  rw [← S_eq]
  rfl
def okStr (d : D) : Prop := ∀ x, d = .str x → x.length ≤ 1000 ∧ asc x.cps.toList = true
theorem cut_to1 (p : List Nat) (h : p.length ≤ 1000) : slF (.str (S p)) none (some 1) = some (.str (S (p.take 1))) := by
  show (if (S p).length ≤ lim then some (D.str (cutS (S p) none (some 1))) else none) = _
  rw [if_pos (by rw [S_len]; unfold lim; omega)]
  unfold cutS
  rw [S_len]
  have i1 : HT.sIx p.length p.length (some 1) = min 1 p.length := HT.sIx_nat p.length p.length 1
  have i0 : HT.sIx p.length 0 none = 0 := rfl
  rw [i1, i0]
  show some (D.str (S ((p.drop 0).take (min 1 p.length - 0)))) = _
  congr 3
  cases p with
  | nil => rfl
  | cons c r =>
    have : min 1 (c :: r).length = 1 := by rw [List.length_cons]; omega
    rw [this]
    rfl
theorem cut_from1 (p : List Nat) (h : p.length ≤ 1000) : slF (.str (S p)) (some 1) none = some (.str (S (p.drop 1))) := by
  show (if (S p).length ≤ lim then some (D.str (cutS (S p) (some 1) none)) else none) = _
  rw [if_pos (by rw [S_len]; unfold lim; omega)]
  unfold cutS
  rw [S_len]
  have i1 : HT.sIx p.length 0 (some 1) = min 1 p.length := HT.sIx_nat p.length 0 1
  have i0 : HT.sIx p.length p.length none = p.length := rfl
  rw [i1, i0]
  show some (D.str (S ((p.drop (min 1 p.length)).take (p.length - min 1 p.length)))) = _
  congr 3
  cases p with
  | nil => rfl
  | cons c r =>
    have : min 1 (c :: r).length = 1 := by rw [List.length_cons]; omega
    rw [this]
    show r.take (r.length + 1 - 1) = r
    rw [Nat.add_sub_cancel, List.take_length]
def dig (c : Nat) : Bool := decide (48 ≤ c) && decide (c ≤ 57)
def dashed (p : List Nat) : Bool := decide (p.take 1 = [45])
def core (p : List Nat) : List Nat := if dashed p then p.drop 1 else p
def okDig (q : List Nat) : Bool := !q.isEmpty && (decide (q.length ≤ 13) && q.all dig)
def lead (p q : List Nat) : Bool := decide (q.take 1 = [48]) && !decide (p = [48])
def numV (p : List Nat) : Int := if dashed p then -((NumText.digitsVal (core p) : Nat) : Int) else ((NumText.digitsVal (core p) : Nat) : Int)
theorem intF_num (p : List Nat) (h : okDig (core p) = true) (hl : p.length ≤ 640) : intF [.str (S p)] = some (.int (numV p)) := by
  obtain ⟨h1, h2⟩ := Bool.and_eq_true_iff.mp (show (!(core p).isEmpty && (decide ((core p).length ≤ 13) && (core p).all dig)) = true from h)
  obtain ⟨h2, h3⟩ := Bool.and_eq_true_iff.mp h2
  have hne : core p ≠ [] := fun z => by rw [z] at h1; cases h1
  have hd : NumText.AllDigits (core p) := fun c hc => by
    have := List.all_eq_true.mp h3 c hc
    obtain ⟨k1, k2⟩ := Bool.and_eq_true_iff.mp this
    exact ⟨of_decide_eq_true k1, of_decide_eq_true k2⟩
  have it : PySem.intText? (S p) = some (numV p) := by
    unfold numV
    cases e : dashed p
    · have ec : core p = p := by unfold core; rw [e]; rfl
      rw [ec] at hd hne ⊢
      exact intText_digits (x := S p) hd hne (by rw [S_len]; omega)
    · have ec : core p = p.drop 1 := by unfold core; rw [e]; rfl
      have hp : p = 45 :: core p := by
        have := of_decide_eq_true e
        rw [ec]
        cases p with
        | nil => cases this
        | cons c r =>
          have : [c] = [45] := this
          cases this
          rfl
      exact intText_neg (x := S p) (cs := core p) hp hd hne (by rw [S_len]; omega)
  show (match intIF [.str (S p)] with | some d => some d | none => intSF [.str (S p)]) = _
  show (if (S p).length ≤ 640 then (PySem.intText? (S p)).map D.int else none) = _
  rw [if_pos (by rw [S_len]; exact hl), it]
  rfl
def numOk (p : List Nat) : Bool := okDig (core p) && !lead p (core p)
def numD (p : List Nat) : D := if numOk p then .int (numV p) else .non
abbrev parts (a : List Nat) : List (List Nat) := TL.spl [32] 0 [] a
theorem split_ok (a : List Nat) (hl : a.length ≤ 1000) : splitF (.str (S a)) [.str (" " : Str)] = some (.lst ((parts a).map fun p => D.str (S p))) := by
  show (if _ then some (D.lst ((Txt.split (S a) (S [32])).map D.str)) else none) = _
  rw [if_pos ⟨rfl, by rw [S_len]; unfold lim; omega⟩, split_S (by simp) (by decide), List.map_map]
  rfl
theorem part_len {a p : List Nat} (h : p ∈ parts a) : p.length ≤ a.length := by
  have : S p ∈ Txt.split (S a) (S [32]) := by
    rw [split_S (by simp) (by decide)]
    exact List.mem_map.mpr ⟨p, h, rfl⟩
  have := PyProof.Rows.part_short this
  rw [S_len, S_len] at this
  exact this
theorem part_free {a p : List Nat} (h : p ∈ parts a) : 32 ∉ p := by
  have : S p ∈ Txt.split (S a) (S [32]) := by
    rw [split_S (by simp) (by decide)]
    exact List.mem_map.mpr ⟨p, h, rfl⟩
  exact PySem.StrLaws.split_free (S a) 32 (S p) this
theorem parts_join (a : List Nat) : joinL [32] (parts a) = a := by
  have h := PySem.StrLaws.join_split (S a) (S [32])
  rw [split_S (by simp) (by decide), ← TL.join_eq, join_S] at h
  exact S_inj h
theorem mem_joinL {c : Nat} {p s : List Nat} : ∀ {l : List (List Nat)}, p ∈ l → c ∈ p → c ∈ joinL s l
  | [], h, _ => absurd h List.not_mem_nil
  | [q], h, hc => by
    have : p = q := by simpa using h
    subst this
    exact hc
  | q :: r :: l, h, hc => by
    show c ∈ q ++ (s ++ joinL s (r :: l))
    rcases List.mem_cons.mp h with rfl | h
    · exact List.mem_append_left _ hc
    · exact List.mem_append_right _ (List.mem_append_right _ (mem_joinL h hc))
theorem part_asc {a p : List Nat} (ha : asc a = true) (h : p ∈ parts a) : asc p = true := by
  unfold asc at ha ⊢
  rw [List.all_eq_true] at ha ⊢
  intro c hc
  refine ha c ?_
  rw [← parts_join a]
  exact mem_joinL h hc
def val (p : List Nat) : Nat := NumText.digitsVal p
def num2 (p : List Nat) : Bool := !p.isEmpty && (p.all dig && (decide (p.length ≤ 2) && decide (p = numL (val p))))
theorem val2_lt {p : List Nat} (hd : p.all dig = true) (h2 : p.length ≤ 2) : val p < 100 := by
  unfold val
  have hb : ∀ c ∈ p, 48 ≤ c ∧ c ≤ 57 := fun c hc => by
    obtain ⟨k1, k2⟩ := Bool.and_eq_true_iff.mp (List.all_eq_true.mp hd c hc)
    exact ⟨of_decide_eq_true k1, of_decide_eq_true k2⟩
  match p, h2 with
  | [], _ => decide
  | [c], _ =>
    have := hb c (by simp)
    show (0 * 10 + (c - 48)) < 100
    omega
  | [c, d], _ =>
    have := hb c (by simp)
    have := hb d (by simp)
    show ((0 * 10 + (c - 48)) * 10 + (d - 48)) < 100
    omega
  | _ :: _ :: _ :: _, h => simp at h
def notDig : D → Bool
  | .str x => !dig (x.cps.getD 0 0)
  | _ => false
theorem signs_notDig (a : List Nat) : ((signs (S a)).filter notDig).map id = (a.filter fun c => !dig c).map fun c => D.str ⟨#[c]⟩ := by
  unfold signs
  rw [List.map_id, List.filter_map]
  rfl
theorem empty_notDig (a : List Nat) : (a.filter fun c => !dig c).isEmpty = a.all dig := by
  induction a with
  | nil => rfl
  | cons c a ih =>
    rw [List.filter_cons, List.all_cons]
    cases h : dig c
    · rfl
    · simpa using ih
theorem intF_dig {p : List Nat} (h0 : p ≠ []) (hd : p.all dig = true) (hl : p.length ≤ 2) : intF [.str (S p)] = some (.int (val p : Nat)) := by
  have it : PySem.intText? (S p) = some ((val p : Nat) : Int) := intText_digits (x := S p) (fun c hc => by
    obtain ⟨k1, k2⟩ := Bool.and_eq_true_iff.mp (List.all_eq_true.mp hd c hc)
    exact ⟨of_decide_eq_true k1, of_decide_eq_true k2⟩) h0 (by rw [S_len]; omega)
  show (if (S p).length ≤ 640 then (PySem.intText? (S p)).map D.int else none) = _
  rw [if_pos (by rw [S_len]; omega), it]
  rfl
theorem notin_digits (c : Nat) : notInF (.str ⟨#[c]⟩) (.str ("0123456789" : Str)) = some (.bl (!dig c)) := by
  show some (D.bl (!decide (c ∈ List.range' 48 10))) = _
  congr 3
  unfold dig
  rw [← Bool.decide_and]
  apply decide_eq_decide.mpr
  rw [List.mem_range'_1]
  omega
theorem within_num {d : D} {k : Nat} (h : within d 0 k = true) : ∃ n : Nat, d = .int n ∧ n ≤ k := by
  cases d with
  | int i =>
    obtain ⟨h1, h2⟩ := Bool.and_eq_true_iff.mp (show (decide (0 ≤ i) && decide (i ≤ (k : Int))) = true from h)
    have h1 := of_decide_eq_true h1
    have h2 := of_decide_eq_true h2
    exact ⟨i.toNat, by rw [Int.toNat_of_nonneg h1], by omega⟩
  | _ => cases h
theorem isName_len {p : List Nat} (h : isName p = true) : p.length ≤ 12 := by
  unfold isName at h
  simp only [Bool.and_eq_true, decide_eq_true_eq] at h
  exact h.1.2
theorem isName_free {p : List Nat} (h : isName p = true) : 32 ∉ p := by
  unfold isName at h
  simp only [Bool.and_eq_true, decide_eq_true_eq] at h
  intro hm
  have := List.all_eq_true.mp h.2 32 hm
  cases this
theorem numD_numL {n : Nat} (h : n ≤ 99) : numD (numL n) = .int n := by
  have : ∀ n : Nat, n < 100 → numOk (numL n) = true ∧ numV (numL n) = (n : Int) := by decide +kernel
  obtain ⟨h1, h2⟩ := this n (by omega)
  unfold numD
  rw [h1, h2]
  rfl
theorem num2_numL {n : Nat} (h : n ≤ 99) : num2 (numL n) = true := by
  have : ∀ n : Nat, n < 100 → num2 (numL n) = true := by decide +kernel
  exact this n (by omega)
theorem name_asc {p : List Nat} (h : isName p = true) : asc p = true := by
  unfold isName at h
  simp only [Bool.and_eq_true] at h
  unfold asc
  rw [List.all_eq_true] at *
  intro c hc
  have := h.2 c hc
  unfold low at this
  simp only [Bool.and_eq_true, decide_eq_true_eq] at this
  exact decide_eq_true (by omega)
theorem fdS {p : List Nat} {k : Nat} (hl : p.length ≤ 1000) (ha : asc p = true) : FD (.str (S p)) k (10 * p.length + 2) := by
  have := FD.str (k := k) (x := S p) (by rw [S_len]; exact hl) ha
  rw [S_len] at this
  exact this
theorem fdNat {n k : Nat} (h : n < 1000000) : FD (.int n) k 8 := FD.int ⟨by omega, by omega⟩
theorem seqIx_nat {j n : Nat} (h : j < n) : seqIndex? (j : Int) n = some j := by
  unfold seqIndex?
  have c1 : ¬ ((j : Int) < 0) := by omega
  have c2 : (0 : Int) ≤ (j : Int) := by omega
  have c3 : ((j : Int) < (n : Int)) := by omega
  simp [c1, c2, c3, h]
theorem popOwn_ok {i : Nat} {g : GE D} {ρ ρ1 : PEnv} {xs : List D} {j : Nat} {y : D} (h0 : isOwn ρ[i]? = true) (hg : g ρ = .ok (.int j) ρ1) (h1 : ρ1[i]? = some (.own xs)) (hj : xs[j]? = some y) (hl : j < 1000000) : popOwnE i g ρ = .ok y (ρ1.set i (.own (xs.eraseIdx j))) := by
  have hi : j < xs.length := by
    by_cases q : j < xs.length
    · exact q
    · rw [List.getElem?_eq_none (by omega)] at hj
      cases hj
  unfold popOwnE
  rw [if_pos h0, hg, R.bind_ok, h1]
  have si := seqIx_nat hi
  have c4 : -(2 ^ 63) ≤ (j : Int) ∧ (j : Int) < 2 ^ 63 := ⟨by omega, by omega⟩
  generalize (2 : Int) ^ 63 = B at c4 ⊢
  simp only [si, hj]
  rw [if_pos c4]
theorem range1_nat {gs : GE (List D)} {ρ ρ1 : PEnv} {n : Nat} (h : gs ρ = .ok [.int n] ρ1) (hn : n ≤ 1000000) : range1I gs ρ = .ok ((List.range n).map fun (i : Nat) => D.int i) ρ1 := by
  have c : -(2 ^ 62) ≤ (n : Int) ∧ (n : Int) < 2 ^ 62 := ⟨by omega, by omega⟩
  unfold range1I
  rw [h, R.bind_ok]
  generalize (2 : Int) ^ 62 = B at c ⊢
  simp only []
  rw [if_pos c, Int.toNat_natCast]
  unfold rangeL
  congr 2
  funext i
  rw [Int.zero_add]
theorem asc_app {a b : List Nat} (ha : asc a = true) (hb : asc b = true) : asc (a ++ b) = true := by
  unfold asc at *
  rw [List.all_append, ha, hb]
  rfl
theorem asc_one {c : Nat} {l : List Nat} (hl : asc l = true) (h : c ∈ l) : asc [c] = true := by
  unfold asc at *
  rw [List.all_eq_true] at hl
  have := hl c h
  simpa using this
theorem numL_asc (n : Nat) : asc (numL n) = true := by
  unfold asc
  rw [List.all_eq_true]
  intro c hc
  have := numL_digits n c hc
  exact decide_eq_true (by omega)
theorem join_asc {s : List Nat} (hs : asc s = true) : ∀ {l : List (List Nat)}, (∀ p ∈ l, asc p = true) → asc (joinL s l) = true
  | [], _ => rfl
  | [p], h => h p List.mem_cons_self
  | p :: q :: r, h => asc_app (h p List.mem_cons_self) (asc_app hs (join_asc hs fun t ht => h t (List.mem_cons_of_mem _ ht)))
def c' (s : String) : List Nat := s.toList.map Char.toNat
theorem cut_any (p : List Nat) (lo hi : Option Int) (hl : p.length ≤ 1000) (ha : asc p = true) : ∃ q, slF (.str (S p)) lo hi = some (.str (S q)) ∧ q.length ≤ p.length ∧ asc q = true := by
  refine ⟨(p.drop (HT.sIx p.length 0 lo)).take (HT.sIx p.length p.length hi - HT.sIx p.length 0 lo), ?_, ?_, ?_⟩
  · show (if (S p).length ≤ lim then some (D.str (cutS (S p) lo hi)) else none) = _
    rw [if_pos (by rw [S_len]; unfold lim; omega)]
    unfold cutS
    rw [S_len]
  · rw [List.length_take, List.length_drop]
    omega
  · unfold asc at *
    rw [List.all_eq_true] at *
    exact fun c hc => ha c (List.mem_of_mem_drop (List.mem_of_mem_take hc))
theorem ix_str (p : List Nat) (i : Nat) (h : i < p.length) (hl : p.length ≤ 1000) : ixF (.str (S p)) (.int i) = some (.str (S [p[i]])) := by
  show (if (S p).length ≤ lim then (atI (S p).cps.toList i).map fun c => D.str ⟨#[c]⟩ else none) = _
  rw [if_pos (by rw [S_len]; unfold lim; omega)]
  show (atI p i).map _ = _
  unfold atI ixN
  rw [if_pos (by omega), if_pos (by omega)]
  simp [h]
theorem add_len (a b : List Nat) (h : a.length + b.length ≤ 2000) : addF (.str (S a)) (.str (S b)) = some (.str (S (a ++ b))) := by
  rw [add_str (by rw [S_len, S_len]; unfold lim; omega), S_cat]
theorem FDs.all {k c : Nat} : ∀ {ds : List D}, (∀ d ∈ ds, FD d k c) → FDs ds k ((c + 2) * ds.length)
  | [], _ => FDs.nil
  | d :: ds, h => by
    have := FDs.cons (h d List.mem_cons_self) (FDs.all fun e he => h e (List.mem_cons_of_mem _ he))
    rw [List.length_cons, Nat.mul_add, Nat.mul_one, Nat.add_comm]
    exact this
theorem sl_to (xs : List D) (i : Nat) (h : i ≤ xs.length) : slF (.tup xs) none (some (i : Int)) = some (.tup (xs.take i)) := by
  show some (D.tup (cutD xs none (some (i : Int)))) = _
  unfold cutD
  rw [HT.sIx_nat]
  have e : HT.sIx xs.length 0 none = 0 := rfl
  rw [e, Nat.min_eq_left h]
  rfl
theorem sl_from (xs : List D) (i : Nat) (h : i < xs.length) : slF (.tup xs) (some ((i : Int) + 1)) none = some (.tup (xs.drop (i + 1))) := by
  show some (D.tup (cutD xs (some ((i : Int) + 1)) none)) = _
  unfold cutD
  have e : HT.sIx xs.length xs.length none = xs.length := rfl
  have e2 : HT.sIx xs.length 0 (some ((i : Int) + 1)) = i + 1 := (HT.sIx_nat xs.length 0 (i + 1)).trans (Nat.min_eq_left (by omega))
  rw [e, e2, List.take_of_length_le (by rw [List.length_drop]; exact Nat.le_refl _)]
theorem add_tup {xs ys : List D} (h : xs.length + ys.length ≤ 100) : addF (.tup xs) (.tup ys) = some (.tup (xs ++ ys)) := by
  have z : tupAddF (.tup xs) (.tup ys) = some (.tup (xs ++ ys)) := by
    show (if xs.length + ys.length ≤ lim then some (D.tup (xs ++ ys)) else none) = _
    rw [if_pos (by unfold lim; omega)]
  unfold addF orF intsF strsF
  simp only [z]
theorem joinL_ones : ∀ cs : List Nat, joinL [] (cs.map fun c => [c]) = cs
  | [] => rfl
  | [c] => rfl
  | c :: d :: cs => by
    show [c] ++ ([] ++ joinL [] ((d :: cs).map fun c => [c])) = _
    rw [joinL_ones (d :: cs)]
    rfl
theorem seqS_as (g h k : GS) : seqS g (seqS h k) = seqS (seqS g h) k := by
  funext ρ
  unfold seqS
  cases g ρ <;> rfl
theorem seqS_nx {g h : GS} {ρ ρ1 : PEnv} (e : g ρ = .nx ρ1) : seqS g h ρ = h ρ1 := by
  unfold seqS
  rw [e]
theorem eraseIdx_map {α β : Type} (f : α → β) : ∀ (l : List α) (i : Nat), (l.map f).eraseIdx i = (l.eraseIdx i).map f
  | [], i => by simp
  | x :: l, 0 => rfl
  | x :: l, i + 1 => by
    show f x :: (l.map f).eraseIdx i = f x :: (l.eraseIdx i).map f
    rw [eraseIdx_map f l i]
theorem mem_nat {l : List Nat} {d : D} (h : d ∈ l.map fun (n : Nat) => D.int n) : ∃ n : Nat, n ∈ l ∧ d = .int n := by
  obtain ⟨n, h1, rfl⟩ := List.mem_map.mp h
  exact ⟨n, h1, rfl⟩
def ixAt (xs : List D) (i : Nat) (d : D) (h : xs[i]? = some d) (hi : i < xs.length) : ixF (.lst xs) (.int i) = some d := by
  show atI xs (i : Int) = _
  unfold atI ixN
  rw [if_pos (by omega), if_pos (by omega)]
  simpa using h
end PL
end L2
set_option Elab.async false
set_option linter.all false
set_option maxRecDepth 100000
set_option maxHeartbeats 2000000
namespace L2
namespace K12
open PySem PySem.Spec PyProof.Rows PL
def topS (i : Nat) : Stmt := PySem.Challenge.pw_contesthouse_k12_events_as_texts_of_any.main.body.getD i (.Pass ⟨0, 0, 0, 0⟩)
abbrev s_is_integer : Stmt := topS 1
def n_is_integer : List Str := ["value"]
theorem sc_is_integer : FnScope n_is_integer ["value"] (defScope s_is_integer) := ⟨rfl, rfl, rfl, by decide +kernel, rfl, by decide +kernel, by decide +kernel⟩
abbrev s_is_within : Stmt := topS 2
def n_is_within : List Str := ["value", "least", "most"]
theorem sc_is_within : FnScope n_is_within ["value", "least", "most"] (defScope s_is_within) := ⟨rfl, rfl, rfl, by decide +kernel, rfl, by decide +kernel, by decide +kernel⟩
abbrev s_is_name_value : Stmt := topS 14
def n_is_name_value : List Str := ["value", "sign"]
theorem sc_is_name_value : FnScope n_is_name_value ["value"] (defScope s_is_name_value) := ⟨rfl, rfl, rfl, by decide +kernel, rfl, by decide +kernel, by decide +kernel⟩
abbrev s_number_in : Stmt := topS 15
def n_number_in : List Str := ["token", "digits", "sign"]
theorem sc_number_in : FnScope n_number_in ["token"] (defScope s_number_in) := ⟨rfl, rfl, rfl, by decide +kernel, rfl, by decide +kernel, by decide +kernel⟩
abbrev s_are_two : Stmt := topS 23
def n_are_two : List Str := ["one", "other"]
theorem sc_are_two : FnScope n_are_two ["one", "other"] (defScope s_are_two) := ⟨rfl, rfl, rfl, by decide +kernel, rfl, by decide +kernel, by decide +kernel⟩
abbrev s_is_event_form : Stmt := topS 24
def n_is_event_form : List Str := ["value"]
theorem sc_is_event_form : FnScope n_is_event_form ["value"] (defScope s_is_event_form) := ⟨rfl, rfl, rfl, by decide +kernel, rfl, by decide +kernel, by decide +kernel⟩
abbrev s_event_told : Stmt := topS 25
def n_event_told : List Str := ["event", "told"]
theorem sc_event_told : FnScope n_event_told ["event"] (defScope s_event_told) := ⟨rfl, rfl, rfl, by decide +kernel, rfl, by decide +kernel, by decide +kernel⟩
abbrev s_event_by : Stmt := topS 26
def n_event_by : List Str := ["parts", "found"]
theorem sc_event_by : FnScope n_event_by ["parts"] (defScope s_event_by) := ⟨rfl, rfl, rfl, by decide +kernel, rfl, by decide +kernel, by decide +kernel⟩
abbrev s_can_be_name : Stmt := topS 27
def n_can_be_name : List Str := ["token", "sign"]
theorem sc_can_be_name : FnScope n_can_be_name ["token"] (defScope s_can_be_name) := ⟨rfl, rfl, rfl, by decide +kernel, rfl, by decide +kernel, by decide +kernel⟩
abbrev s_can_be_round : Stmt := topS 28
def n_can_be_round : List Str := ["token"]
theorem sc_can_be_round : FnScope n_can_be_round ["token"] (defScope s_can_be_round) := ⟨rfl, rfl, rfl, by decide +kernel, rfl, by decide +kernel, by decide +kernel⟩
abbrev s_can_be_verb : Stmt := topS 29
def n_can_be_verb : List Str := ["token", "words", "word"]
theorem sc_can_be_verb : FnScope n_can_be_verb ["token", "words"] (defScope s_can_be_verb) := ⟨rfl, rfl, rfl, by decide +kernel, rfl, by decide +kernel, by decide +kernel⟩
abbrev s_can_be_game : Stmt := topS 30
def n_can_be_game : List Str := ["parts", "is_whole"]
theorem sc_can_be_game : FnScope n_can_be_game ["parts"] (defScope s_can_be_game) := ⟨rfl, rfl, rfl, by decide +kernel, rfl, by decide +kernel, by decide +kernel⟩
abbrev s_can_begin : Stmt := topS 31
def n_can_begin : List Str := ["text", "parts"]
theorem sc_can_begin : FnScope n_can_begin ["text"] (defScope s_can_begin) := ⟨rfl, rfl, rfl, by decide +kernel, rfl, by decide +kernel, by decide +kernel⟩
abbrev s_event_in : Stmt := topS 32
def n_event_in : List Str := ["text"]
theorem sc_event_in : FnScope n_event_in ["text"] (defScope s_event_in) := ⟨rfl, rfl, rfl, by decide +kernel, rfl, by decide +kernel, by decide +kernel⟩
abbrev s_unread_at : Stmt := topS 33
def n_unread_at : List Str := ["text", "at"]
theorem sc_unread_at : FnScope n_unread_at ["text"] (defScope s_unread_at) := ⟨rfl, rfl, rfl, by decide +kernel, rfl, by decide +kernel, by decide +kernel⟩
abbrev s_event_text : Stmt := topS 34
def n_event_text : List Str := ["event"]
theorem sc_event_text : FnScope n_event_text ["event"] (defScope s_event_text) := ⟨rfl, rfl, rfl, by decide +kernel, rfl, by decide +kernel, by decide +kernel⟩
abbrev s_event_of_text : Stmt := topS 35
def n_event_of_text : List Str := ["text", "found"]
theorem sc_event_of_text : FnScope n_event_of_text ["text"] (defScope s_event_of_text) := ⟨rfl, rfl, rfl, by decide +kernel, rfl, by decide +kernel, by decide +kernel⟩
abbrev s_is_event_text : Stmt := topS 36
def n_is_event_text : List Str := ["value"]
theorem sc_is_event_text : FnScope n_is_event_text ["value"] (defScope s_is_event_text) := ⟨rfl, rfl, rfl, by decide +kernel, rfl, by decide +kernel, by decide +kernel⟩
abbrev s_l_pot : Stmt := topS 38
def n_l_pot : List Str := ["script", "k", "cell"]
theorem sc_l_pot : FnScope n_l_pot ["script", "k"] (defScope s_l_pot) := ⟨rfl, rfl, rfl, by decide +kernel, rfl, by decide +kernel, by decide +kernel⟩
abbrev s_l_draw : Stmt := topS 39
def n_l_draw : List Str := ["pot", "many", "digit"]
theorem sc_l_draw : FnScope n_l_draw ["pot", "many"] (defScope s_l_draw) := ⟨rfl, rfl, rfl, by decide +kernel, rfl, by decide +kernel, by decide +kernel⟩
abbrev s_l_pick : Stmt := topS 40
def n_l_pick : List Str := ["pot", "some"]
theorem sc_l_pick : FnScope n_l_pick ["pot", "some"] (defScope s_l_pick) := ⟨rfl, rfl, rfl, by decide +kernel, rfl, by decide +kernel, by decide +kernel⟩
abbrev s_l_is_name : Stmt := topS 41
def n_l_is_name : List Str := ["text", "sign"]
theorem sc_l_is_name : FnScope n_l_is_name ["text"] (defScope s_l_is_name) := ⟨rfl, rfl, rfl, by decide +kernel, rfl, by decide +kernel, by decide +kernel⟩
abbrev s_l_is_event : Stmt := topS 42
def n_l_is_event : List Str := ["value", "number", "one", "most"]
theorem sc_l_is_event : FnScope n_l_is_event ["value"] (defScope s_l_is_event) := ⟨rfl, rfl, rfl, by decide +kernel, rfl, by decide +kernel, by decide +kernel⟩
abbrev s_l_text : Stmt := topS 43
def n_l_text : List Str := ["event", "verb"]
theorem sc_l_text : FnScope n_l_text ["event"] (defScope s_l_text) := ⟨rfl, rfl, rfl, by decide +kernel, rfl, by decide +kernel, by decide +kernel⟩
abbrev s_l_event : Stmt := topS 44
def n_l_event : List Str := ["text", "parts", "word", "number", "found", "one"]
theorem sc_l_event : FnScope n_l_event ["text"] (defScope s_l_event) := ⟨rfl, rfl, rfl, by decide +kernel, rfl, by decide +kernel, by decide +kernel⟩
abbrev s_l_can_be_told : Stmt := topS 46
def n_l_can_be_told : List Str := ["parts", "verbs", "verb"]
theorem sc_l_can_be_told : FnScope n_l_can_be_told ["parts", "verbs"] (defScope s_l_can_be_told) := ⟨rfl, rfl, rfl, by decide +kernel, rfl, by decide +kernel, by decide +kernel⟩
abbrev s_l_can_begin : Stmt := topS 45
def n_l_can_begin : List Str := ["text", "parts", "one"]
theorem sc_l_can_begin : FnScope n_l_can_begin ["text"] (defScope s_l_can_begin) := ⟨rfl, rfl, rfl, by decide +kernel, rfl, by decide +kernel, by decide +kernel⟩
abbrev s_l_unread : Stmt := topS 47
def n_l_unread : List Str := ["text", "size"]
theorem sc_l_unread : FnScope n_l_unread ["text"] (defScope s_l_unread) := ⟨rfl, rfl, rfl, by decide +kernel, rfl, by decide +kernel, by decide +kernel⟩
abbrev s_l_heard : Stmt := topS 48
def n_l_heard : List Str := ["call", "told", "e"]
theorem sc_l_heard : FnScope n_l_heard ["call"] (defScope s_l_heard) := ⟨rfl, rfl, rfl, by decide +kernel, rfl, by decide +kernel, by decide +kernel⟩
abbrev s_l_name : Stmt := topS 49
def n_l_name : List Str := ["pot"]
theorem sc_l_name : FnScope n_l_name ["pot"] (defScope s_l_name) := ⟨rfl, rfl, rfl, by decide +kernel, rfl, by decide +kernel, by decide +kernel⟩
abbrev s_l_drawn : Stmt := topS 50
def n_l_drawn : List Str := ["pot", "one", "other", "way"]
theorem sc_l_drawn : FnScope n_l_drawn ["pot"] (defScope s_l_drawn) := ⟨rfl, rfl, rfl, by decide +kernel, rfl, by decide +kernel, by decide +kernel⟩
abbrev s_l_bent : Stmt := topS 51
def n_l_bent : List Str := ["pot", "text", "at", "way", "sign"]
theorem sc_l_bent : FnScope n_l_bent ["pot", "text"] (defScope s_l_bent) := ⟨rfl, rfl, rfl, by decide +kernel, rfl, by decide +kernel, by decide +kernel⟩
abbrev s_l_text_right : Stmt := topS 52
def n_l_text_right : List Str := ["text", "event", "due", "calls", "call"]
theorem sc_l_text_right : FnScope n_l_text_right ["text"] (defScope s_l_text_right) := ⟨rfl, rfl, rfl, by decide +kernel, rfl, by decide +kernel, by decide +kernel⟩
abbrev s_l_event_right : Stmt := topS 53
def n_l_event_right : List Str := ["pot", "event", "text", "at", "part", "odd", "due"]
theorem sc_l_event_right : FnScope n_l_event_right ["pot", "event"] (defScope s_l_event_right) := ⟨rfl, rfl, rfl, by decide +kernel, rfl, by decide +kernel, by decide +kernel⟩
abbrev s_law : Stmt := topS 54
def n_law : List Str := ["script", "texts", "k", "odds", "pot", "turn", "event", "text", "odd"]
theorem sc_law : FnScope n_law ["script"] (defScope s_law) := ⟨rfl, rfl, rfl, by decide +kernel, rfl, by decide +kernel, by decide +kernel⟩
abbrev s_init : Stmt := inClass (topS 4) 0
abbrev s_init_UnreadEvent : Stmt := inClass (topS 7) 0
theorem sc_init_UnreadEvent : FnScope ["self", "position"] ["self", "position"] (defScope s_init_UnreadEvent) := ⟨rfl, rfl, rfl, by decide +kernel, rfl, by decide +kernel, by decide +kernel⟩
theorem sc_init : FnScope ["self", "value"] ["self", "value"] (defScope s_init) := ⟨rfl, rfl, rfl, by decide +kernel, rfl, by decide +kernel, by decide +kernel⟩
def c_LETTERS : D := .str "abcdefghijklmnopqrstuvwxyz"
def c_DIGITS : D := .str "0123456789"
def c_MINUS : D := .str "-"
def c_MOST_NAME : D := .int (12)
def c_MOST_DIGITS : D := .int (13)
def c_TOLD : D := .str "told"
def c_FIX : D := .str "fix"
def c_LEAVE : D := .str "leave"
def c_LEAVES : D := .str "leaves"
def c_VERBS : D := .tup [.str "yields", .str "draws", .str "beats"]
def ss_VERBS : List Str := ["yields", "draws", "beats"]
def c_MOST_ROUND : D := .int (99)
theorem boot_abs' : bootBuiltins "abs" = some (.builtin "abs") := by decide +kernel
theorem boot_all' : bootBuiltins "all" = some (.builtin "all") := by decide +kernel
theorem boot_any' : bootBuiltins "any" = some (.builtin "any") := by decide +kernel
theorem boot_bool' : bootBuiltins "bool" = some (.type "bool") := by decide +kernel
theorem boot_divmod' : bootBuiltins "divmod" = some (.builtin "divmod") := by decide +kernel
theorem boot_int' : bootBuiltins "int" = some (.type "int") := by decide +kernel
theorem boot_isinstance' : bootBuiltins "isinstance" = some (.builtin "isinstance") := by decide +kernel
theorem boot_len' : bootBuiltins "len" = some (.builtin "len") := by decide +kernel
theorem boot_list' : bootBuiltins "list" = some (.type "list") := by decide +kernel
theorem boot_max' : bootBuiltins "max" = some (.builtin "max") := by decide +kernel
theorem boot_range' : bootBuiltins "range" = some (.type "range") := by decide +kernel
theorem boot_repr' : bootBuiltins "repr" = some (.builtin "repr") := by decide +kernel
theorem boot_str' : bootBuiltins "str" = some (.type "str") := by decide +kernel
theorem boot_tuple' : bootBuiltins "tuple" = some (.type "tuple") := by decide +kernel
structure Tx (K : PySem.W.Frag) (mg : Str → Option Value) where
  tabs : List (Addr × Str)
  cc_l_event_right : Addr
  pp_l_event_right : Addr
  tm_l_event_right : (pp_l_event_right, ("_law_event_right" : Str) ++ ".<locals>." ++ "<lambda>") ∈ tabs
  tu_l_event_right : ∀ p ∈ tabs, p.1 = pp_l_event_right → p.2 = ("_law_event_right" : Str) ++ ".<locals>." ++ "<lambda>"
  cc_l_text_right : Addr
  pp_l_text_right : Addr
  tm_l_text_right : (pp_l_text_right, ("_law_text_right" : Str) ++ ".<locals>." ++ "<lambda>") ∈ tabs
  tu_l_text_right : ∀ p ∈ tabs, p.1 = pp_l_text_right → p.2 = ("_law_text_right" : Str) ++ ".<locals>." ++ "<lambda>"
  cc_law : Addr
  pp_law : Addr
  tm_law : (pp_law, ("law" : Str) ++ ".<locals>." ++ "<lambda>") ∈ tabs
  tu_law : ∀ p ∈ tabs, p.1 = pp_law → p.2 = ("law" : Str) ++ ".<locals>." ++ "<lambda>"
  a_is_integer : Addr
  fd_is_integer : FuncData
  F_is_integer : Fun K "is_integer" "is_integer" s_is_integer a_is_integer fd_is_integer
  g_is_integer : mg "is_integer" = some (.ref a_is_integer)
  b_is_integer : Binds K fd_is_integer ["value"] []
  bk_is_integer : BindsKw K fd_is_integer ["value"]
  a_is_within : Addr
  fd_is_within : FuncData
  F_is_within : Fun K "is_within" "is_within" s_is_within a_is_within fd_is_within
  g_is_within : mg "is_within" = some (.ref a_is_within)
  b_is_within : Binds K fd_is_within ["value", "least", "most"] []
  bk_is_within : BindsKw K fd_is_within ["value", "least", "most"]
  a_is_name_value : Addr
  fd_is_name_value : FuncData
  F_is_name_value : Fun K "is_name_value" "is_name_value" s_is_name_value a_is_name_value fd_is_name_value
  g_is_name_value : mg "is_name_value" = some (.ref a_is_name_value)
  b_is_name_value : Binds K fd_is_name_value ["value"] []
  bk_is_name_value : BindsKw K fd_is_name_value ["value"]
  a_number_in : Addr
  fd_number_in : FuncData
  F_number_in : Fun K "number_in" "number_in" s_number_in a_number_in fd_number_in
  g_number_in : mg "number_in" = some (.ref a_number_in)
  b_number_in : Binds K fd_number_in ["token"] []
  bk_number_in : BindsKw K fd_number_in ["token"]
  a_are_two : Addr
  fd_are_two : FuncData
  F_are_two : Fun K "are_two" "are_two" s_are_two a_are_two fd_are_two
  g_are_two : mg "are_two" = some (.ref a_are_two)
  b_are_two : Binds K fd_are_two ["one", "other"] []
  bk_are_two : BindsKw K fd_are_two ["one", "other"]
  a_is_event_form : Addr
  fd_is_event_form : FuncData
  F_is_event_form : Fun K "is_event_form" "is_event_form" s_is_event_form a_is_event_form fd_is_event_form
  g_is_event_form : mg "is_event_form" = some (.ref a_is_event_form)
  b_is_event_form : Binds K fd_is_event_form ["value"] []
  bk_is_event_form : BindsKw K fd_is_event_form ["value"]
  a_event_told : Addr
  fd_event_told : FuncData
  F_event_told : Fun K "event_told" "event_told" s_event_told a_event_told fd_event_told
  g_event_told : mg "event_told" = some (.ref a_event_told)
  b_event_told : Binds K fd_event_told ["event"] []
  bk_event_told : BindsKw K fd_event_told ["event"]
  a_event_by : Addr
  fd_event_by : FuncData
  F_event_by : Fun K "event_by" "event_by" s_event_by a_event_by fd_event_by
  g_event_by : mg "event_by" = some (.ref a_event_by)
  b_event_by : Binds K fd_event_by ["parts"] []
  bk_event_by : BindsKw K fd_event_by ["parts"]
  a_can_be_name : Addr
  fd_can_be_name : FuncData
  F_can_be_name : Fun K "can_be_name" "can_be_name" s_can_be_name a_can_be_name fd_can_be_name
  g_can_be_name : mg "can_be_name" = some (.ref a_can_be_name)
  b_can_be_name : Binds K fd_can_be_name ["token"] []
  bk_can_be_name : BindsKw K fd_can_be_name ["token"]
  a_can_be_round : Addr
  fd_can_be_round : FuncData
  F_can_be_round : Fun K "can_be_round" "can_be_round" s_can_be_round a_can_be_round fd_can_be_round
  g_can_be_round : mg "can_be_round" = some (.ref a_can_be_round)
  b_can_be_round : Binds K fd_can_be_round ["token"] []
  bk_can_be_round : BindsKw K fd_can_be_round ["token"]
  a_can_be_verb : Addr
  fd_can_be_verb : FuncData
  F_can_be_verb : Fun K "can_be_verb" "can_be_verb" s_can_be_verb a_can_be_verb fd_can_be_verb
  g_can_be_verb : mg "can_be_verb" = some (.ref a_can_be_verb)
  b_can_be_verb : Binds K fd_can_be_verb ["token", "words"] []
  bk_can_be_verb : BindsKw K fd_can_be_verb ["token", "words"]
  a_can_be_game : Addr
  fd_can_be_game : FuncData
  F_can_be_game : Fun K "can_be_game" "can_be_game" s_can_be_game a_can_be_game fd_can_be_game
  g_can_be_game : mg "can_be_game" = some (.ref a_can_be_game)
  b_can_be_game : Binds K fd_can_be_game ["parts"] []
  bk_can_be_game : BindsKw K fd_can_be_game ["parts"]
  a_can_begin : Addr
  fd_can_begin : FuncData
  F_can_begin : Fun K "can_begin" "can_begin" s_can_begin a_can_begin fd_can_begin
  g_can_begin : mg "can_begin" = some (.ref a_can_begin)
  b_can_begin : Binds K fd_can_begin ["text"] []
  bk_can_begin : BindsKw K fd_can_begin ["text"]
  a_event_in : Addr
  fd_event_in : FuncData
  F_event_in : Fun K "event_in" "event_in" s_event_in a_event_in fd_event_in
  g_event_in : mg "event_in" = some (.ref a_event_in)
  b_event_in : Binds K fd_event_in ["text"] []
  bk_event_in : BindsKw K fd_event_in ["text"]
  a_unread_at : Addr
  fd_unread_at : FuncData
  F_unread_at : Fun K "unread_at" "unread_at" s_unread_at a_unread_at fd_unread_at
  g_unread_at : mg "unread_at" = some (.ref a_unread_at)
  b_unread_at : Binds K fd_unread_at ["text"] []
  bk_unread_at : BindsKw K fd_unread_at ["text"]
  a_event_text : Addr
  fd_event_text : FuncData
  F_event_text : Fun K "event_text" "event_text" s_event_text a_event_text fd_event_text
  g_event_text : mg "event_text" = some (.ref a_event_text)
  b_event_text : Binds K fd_event_text ["event"] []
  bk_event_text : BindsKw K fd_event_text ["event"]
  a_event_of_text : Addr
  fd_event_of_text : FuncData
  F_event_of_text : Fun K "event_of_text" "event_of_text" s_event_of_text a_event_of_text fd_event_of_text
  g_event_of_text : mg "event_of_text" = some (.ref a_event_of_text)
  b_event_of_text : Binds K fd_event_of_text ["text"] []
  bk_event_of_text : BindsKw K fd_event_of_text ["text"]
  a_is_event_text : Addr
  fd_is_event_text : FuncData
  F_is_event_text : Fun K "is_event_text" "is_event_text" s_is_event_text a_is_event_text fd_is_event_text
  g_is_event_text : mg "is_event_text" = some (.ref a_is_event_text)
  b_is_event_text : Binds K fd_is_event_text ["value"] []
  bk_is_event_text : BindsKw K fd_is_event_text ["value"]
  a_l_pot : Addr
  fd_l_pot : FuncData
  F_l_pot : Fun K "_law_pot" "_law_pot" s_l_pot a_l_pot fd_l_pot
  g_l_pot : mg "_law_pot" = some (.ref a_l_pot)
  b_l_pot : Binds K fd_l_pot ["script", "k"] []
  bk_l_pot : BindsKw K fd_l_pot ["script", "k"]
  a_l_draw : Addr
  fd_l_draw : FuncData
  F_l_draw : Fun K "_law_draw" "_law_draw" s_l_draw a_l_draw fd_l_draw
  g_l_draw : mg "_law_draw" = some (.ref a_l_draw)
  b_l_draw : Binds K fd_l_draw ["pot", "many"] []
  bk_l_draw : BindsKw K fd_l_draw ["pot", "many"]
  a_l_pick : Addr
  fd_l_pick : FuncData
  F_l_pick : Fun K "_law_pick" "_law_pick" s_l_pick a_l_pick fd_l_pick
  g_l_pick : mg "_law_pick" = some (.ref a_l_pick)
  b_l_pick : Binds K fd_l_pick ["pot", "some"] []
  bk_l_pick : BindsKw K fd_l_pick ["pot", "some"]
  a_l_is_name : Addr
  fd_l_is_name : FuncData
  F_l_is_name : Fun K "_law_is_name" "_law_is_name" s_l_is_name a_l_is_name fd_l_is_name
  g_l_is_name : mg "_law_is_name" = some (.ref a_l_is_name)
  b_l_is_name : Binds K fd_l_is_name ["text"] []
  bk_l_is_name : BindsKw K fd_l_is_name ["text"]
  a_l_is_event : Addr
  fd_l_is_event : FuncData
  F_l_is_event : Fun K "_law_is_event" "_law_is_event" s_l_is_event a_l_is_event fd_l_is_event
  g_l_is_event : mg "_law_is_event" = some (.ref a_l_is_event)
  b_l_is_event : Binds K fd_l_is_event ["value"] []
  bk_l_is_event : BindsKw K fd_l_is_event ["value"]
  a_l_text : Addr
  fd_l_text : FuncData
  F_l_text : Fun K "_law_text" "_law_text" s_l_text a_l_text fd_l_text
  g_l_text : mg "_law_text" = some (.ref a_l_text)
  b_l_text : Binds K fd_l_text ["event"] []
  bk_l_text : BindsKw K fd_l_text ["event"]
  a_l_event : Addr
  fd_l_event : FuncData
  F_l_event : Fun K "_law_event" "_law_event" s_l_event a_l_event fd_l_event
  g_l_event : mg "_law_event" = some (.ref a_l_event)
  b_l_event : Binds K fd_l_event ["text"] []
  bk_l_event : BindsKw K fd_l_event ["text"]
  a_l_can_be_told : Addr
  fd_l_can_be_told : FuncData
  F_l_can_be_told : Fun K "_law_can_be_told" "_law_can_be_told" s_l_can_be_told a_l_can_be_told fd_l_can_be_told
  g_l_can_be_told : mg "_law_can_be_told" = some (.ref a_l_can_be_told)
  b_l_can_be_told : Binds K fd_l_can_be_told ["parts", "verbs"] []
  bk_l_can_be_told : BindsKw K fd_l_can_be_told ["parts", "verbs"]
  a_l_can_begin : Addr
  fd_l_can_begin : FuncData
  F_l_can_begin : Fun K "_law_can_begin" "_law_can_begin" s_l_can_begin a_l_can_begin fd_l_can_begin
  g_l_can_begin : mg "_law_can_begin" = some (.ref a_l_can_begin)
  b_l_can_begin : Binds K fd_l_can_begin ["text"] []
  bk_l_can_begin : BindsKw K fd_l_can_begin ["text"]
  a_l_unread : Addr
  fd_l_unread : FuncData
  F_l_unread : Fun K "_law_unread" "_law_unread" s_l_unread a_l_unread fd_l_unread
  g_l_unread : mg "_law_unread" = some (.ref a_l_unread)
  b_l_unread : Binds K fd_l_unread ["text"] []
  bk_l_unread : BindsKw K fd_l_unread ["text"]
  a_l_heard : Addr
  fd_l_heard : FuncData
  F_l_heard : Fun K "_law_heard" "_law_heard" s_l_heard a_l_heard fd_l_heard
  g_l_heard : mg "_law_heard" = some (.ref a_l_heard)
  b_l_heard : Binds K fd_l_heard ["call"] []
  bk_l_heard : BindsKw K fd_l_heard ["call"]
  a_l_name : Addr
  fd_l_name : FuncData
  F_l_name : Fun K "_law_name" "_law_name" s_l_name a_l_name fd_l_name
  g_l_name : mg "_law_name" = some (.ref a_l_name)
  b_l_name : Binds K fd_l_name ["pot"] []
  bk_l_name : BindsKw K fd_l_name ["pot"]
  a_l_drawn : Addr
  fd_l_drawn : FuncData
  F_l_drawn : Fun K "_law_drawn" "_law_drawn" s_l_drawn a_l_drawn fd_l_drawn
  g_l_drawn : mg "_law_drawn" = some (.ref a_l_drawn)
  b_l_drawn : Binds K fd_l_drawn ["pot"] []
  bk_l_drawn : BindsKw K fd_l_drawn ["pot"]
  a_l_bent : Addr
  fd_l_bent : FuncData
  F_l_bent : Fun K "_law_bent" "_law_bent" s_l_bent a_l_bent fd_l_bent
  g_l_bent : mg "_law_bent" = some (.ref a_l_bent)
  b_l_bent : Binds K fd_l_bent ["pot", "text"] []
  bk_l_bent : BindsKw K fd_l_bent ["pot", "text"]
  a_l_text_right : Addr
  fd_l_text_right : FuncData
  F_l_text_right : FunL K "_law_text_right" "_law_text_right" s_l_text_right a_l_text_right fd_l_text_right cc_l_text_right
  g_l_text_right : mg "_law_text_right" = some (.ref a_l_text_right)
  b_l_text_right : Binds K fd_l_text_right ["text"] []
  bk_l_text_right : BindsKw K fd_l_text_right ["text"]
  a_l_event_right : Addr
  fd_l_event_right : FuncData
  F_l_event_right : FunL K "_law_event_right" "_law_event_right" s_l_event_right a_l_event_right fd_l_event_right cc_l_event_right
  g_l_event_right : mg "_law_event_right" = some (.ref a_l_event_right)
  b_l_event_right : Binds K fd_l_event_right ["pot", "event"] []
  bk_l_event_right : BindsKw K fd_l_event_right ["pot", "event"]
  a_law : Addr
  fd_law : FuncData
  F_law : FunL K "law" "law" s_law a_law fd_law cc_law
  g_law : mg "law" = some (.ref a_law)
  b_law : Binds K fd_law ["script"] []
  bk_law : BindsKw K fd_law ["script"]
  n_abs : mg "abs" = none
  n_all : mg "all" = none
  n_any : mg "any" = none
  n_bool : mg "bool" = none
  n_divmod : mg "divmod" = none
  n_int : mg "int" = none
  n_isinstance : mg "isinstance" = none
  n_len : mg "len" = none
  n_list : mg "list" = none
  n_max : mg "max" = none
  n_range : mg "range" = none
  n_repr : mg "repr" = none
  n_str : mg "str" = none
  n_tuple : mg "tuple" = none
  g_LETTERS : ∃ t, mg "LETTERS" = some (.str "abcdefghijklmnopqrstuvwxyz" t)
  g_DIGITS : ∃ t, mg "DIGITS" = some (.str "0123456789" t)
  g_MINUS : ∃ t, mg "MINUS" = some (.str "-" t)
  g_MOST_NAME : ∃ t, mg "MOST_NAME" = some (.int 12 t)
  g_MOST_DIGITS : ∃ t, mg "MOST_DIGITS" = some (.int 13 t)
  g_TOLD : ∃ t, mg "TOLD" = some (.str "told" t)
  g_FIX : ∃ t, mg "FIX" = some (.str "fix" t)
  g_LEAVE : ∃ t, mg "LEAVE" = some (.str "leave" t)
  g_LEAVES : ∃ t, mg "LEAVES" = some (.str "leaves" t)
  u_VERBS : Addr
  g_VERBS : mg "VERBS" = some (.ref u_VERBS)
  s_VERBS : ∀ H : Hp, SqT K H u_VERBS (ss_VERBS.map V.str)
  t_VERBS : ∃ o, K.lookup u_VERBS = some o ∧ o.cls = .type "tuple" ∧ o.dict = none
  g_MOST_ROUND : ∃ t, mg "MOST_ROUND" = some (.int 99 t)
  a_init : Addr
  fd_init : FuncData
  F_init : FunD K "__init__" "ContestError.__init__" (defArgs s_init) (defBody s_init) (defScope s_init) [.non] [] a_init fd_init
  xb : Binds K fd_init ["self", "value"] []
  xt : PySem.W.typeIn K (.ref a_init) = some (.type "function")
  a_init_UnreadEvent : Addr
  fd_init_UnreadEvent : FuncData
  F_init_UnreadEvent : Fun K "__init__" "UnreadEvent.__init__" s_init_UnreadEvent a_init_UnreadEvent fd_init_UnreadEvent
  xb_UnreadEvent : Binds K fd_init_UnreadEvent ["self", "position"] []
  xt_UnreadEvent : PySem.W.typeIn K (.ref a_init_UnreadEvent) = some (.type "function")
  C_InvalidText : Addr
  x_InvalidText : OexC K C_InvalidText
  xf_InvalidText : PySem.W.findIn K (.ref C_InvalidText) "value" = some none
  xi_InvalidText : PySem.W.findIn K (.ref C_InvalidText) "__init__" = some (some (.ref a_init))
  xm_InvalidText : mg "InvalidText" = some (.ref C_InvalidText)
  C_InvalidEvent : Addr
  x_InvalidEvent : OexC K C_InvalidEvent
  xf_InvalidEvent : PySem.W.findIn K (.ref C_InvalidEvent) "value" = some none
  xi_InvalidEvent : PySem.W.findIn K (.ref C_InvalidEvent) "__init__" = some (some (.ref a_init))
  xm_InvalidEvent : mg "InvalidEvent" = some (.ref C_InvalidEvent)
  C_UnreadEvent : Addr
  x_UnreadEvent : OexC K C_UnreadEvent
  xf_UnreadEvent : PySem.W.findIn K (.ref C_UnreadEvent) "position" = some none
  xi_UnreadEvent : PySem.W.findIn K (.ref C_UnreadEvent) "__init__" = some (some (.ref a_init_UnreadEvent))
  xm_UnreadEvent : mg "UnreadEvent" = some (.ref C_UnreadEvent)
  C_ContestError : Addr
  xm_ContestError : mg "ContestError" = some (.ref C_ContestError)
  xx_UnreadEvent : XfC K C_UnreadEvent
  xx_InvalidEvent : XfC K C_InvalidEvent
  xx_InvalidText : XfC K C_InvalidText
  xn_InvalidEvent_value : PySem.W.findIn K (.ref C_InvalidEvent) "value" = some none
  xn_InvalidText_value : PySem.W.findIn K (.ref C_InvalidText) "value" = some none
  xn_UnreadEvent_position : PySem.W.findIn K (.ref C_UnreadEvent) "position" = some none
  xi_InvalidEvent_ContestError : PySem.W.isIn K (.ref C_InvalidEvent) C_ContestError = true
  xi_InvalidText_ContestError : PySem.W.isIn K (.ref C_InvalidText) C_ContestError = true
  xi_UnreadEvent_ContestError : PySem.W.isIn K (.ref C_UnreadEvent) C_ContestError = true
  xe_UnreadEvent_UnreadEvent : PySem.W.exmOne K (.ref C_UnreadEvent) (.ref C_UnreadEvent) = some true
  xe_UnreadEvent_InvalidEvent : PySem.W.exmOne K (.ref C_UnreadEvent) (.ref C_InvalidEvent) = some false
  xe_UnreadEvent_InvalidText : PySem.W.exmOne K (.ref C_UnreadEvent) (.ref C_InvalidText) = some false
  xe_InvalidEvent_UnreadEvent : PySem.W.exmOne K (.ref C_InvalidEvent) (.ref C_UnreadEvent) = some false
  xe_InvalidEvent_InvalidEvent : PySem.W.exmOne K (.ref C_InvalidEvent) (.ref C_InvalidEvent) = some true
  xe_InvalidEvent_InvalidText : PySem.W.exmOne K (.ref C_InvalidEvent) (.ref C_InvalidText) = some false
  xe_InvalidText_UnreadEvent : PySem.W.exmOne K (.ref C_InvalidText) (.ref C_UnreadEvent) = some false
  xe_InvalidText_InvalidEvent : PySem.W.exmOne K (.ref C_InvalidText) (.ref C_InvalidEvent) = some false
  xe_InvalidText_InvalidText : PySem.W.exmOne K (.ref C_InvalidText) (.ref C_InvalidText) = some true
section
variable {P : Program} {w : World} {K : PySem.W.Frag} {mg : Str → Option Value} {base : Heap}
theorem Tx.k_is_integer (T : Tx K mg) : PySem.W.keepIn K (.ref T.a_is_integer) = true := T.F_is_integer.kp
theorem Tx.k_is_within (T : Tx K mg) : PySem.W.keepIn K (.ref T.a_is_within) = true := T.F_is_within.kp
theorem Tx.k_is_name_value (T : Tx K mg) : PySem.W.keepIn K (.ref T.a_is_name_value) = true := T.F_is_name_value.kp
theorem Tx.k_number_in (T : Tx K mg) : PySem.W.keepIn K (.ref T.a_number_in) = true := T.F_number_in.kp
theorem Tx.k_are_two (T : Tx K mg) : PySem.W.keepIn K (.ref T.a_are_two) = true := T.F_are_two.kp
theorem Tx.k_is_event_form (T : Tx K mg) : PySem.W.keepIn K (.ref T.a_is_event_form) = true := T.F_is_event_form.kp
theorem Tx.k_event_told (T : Tx K mg) : PySem.W.keepIn K (.ref T.a_event_told) = true := T.F_event_told.kp
theorem Tx.k_event_by (T : Tx K mg) : PySem.W.keepIn K (.ref T.a_event_by) = true := T.F_event_by.kp
theorem Tx.k_can_be_name (T : Tx K mg) : PySem.W.keepIn K (.ref T.a_can_be_name) = true := T.F_can_be_name.kp
theorem Tx.k_can_be_round (T : Tx K mg) : PySem.W.keepIn K (.ref T.a_can_be_round) = true := T.F_can_be_round.kp
theorem Tx.k_can_be_verb (T : Tx K mg) : PySem.W.keepIn K (.ref T.a_can_be_verb) = true := T.F_can_be_verb.kp
theorem Tx.k_can_be_game (T : Tx K mg) : PySem.W.keepIn K (.ref T.a_can_be_game) = true := T.F_can_be_game.kp
theorem Tx.k_can_begin (T : Tx K mg) : PySem.W.keepIn K (.ref T.a_can_begin) = true := T.F_can_begin.kp
theorem Tx.k_event_in (T : Tx K mg) : PySem.W.keepIn K (.ref T.a_event_in) = true := T.F_event_in.kp
theorem Tx.k_unread_at (T : Tx K mg) : PySem.W.keepIn K (.ref T.a_unread_at) = true := T.F_unread_at.kp
theorem Tx.k_event_text (T : Tx K mg) : PySem.W.keepIn K (.ref T.a_event_text) = true := T.F_event_text.kp
theorem Tx.k_event_of_text (T : Tx K mg) : PySem.W.keepIn K (.ref T.a_event_of_text) = true := T.F_event_of_text.kp
theorem Tx.k_is_event_text (T : Tx K mg) : PySem.W.keepIn K (.ref T.a_is_event_text) = true := T.F_is_event_text.kp
theorem Tx.k_l_pot (T : Tx K mg) : PySem.W.keepIn K (.ref T.a_l_pot) = true := T.F_l_pot.kp
theorem Tx.k_l_draw (T : Tx K mg) : PySem.W.keepIn K (.ref T.a_l_draw) = true := T.F_l_draw.kp
theorem Tx.k_l_pick (T : Tx K mg) : PySem.W.keepIn K (.ref T.a_l_pick) = true := T.F_l_pick.kp
theorem Tx.k_l_is_name (T : Tx K mg) : PySem.W.keepIn K (.ref T.a_l_is_name) = true := T.F_l_is_name.kp
theorem Tx.k_l_is_event (T : Tx K mg) : PySem.W.keepIn K (.ref T.a_l_is_event) = true := T.F_l_is_event.kp
theorem Tx.k_l_text (T : Tx K mg) : PySem.W.keepIn K (.ref T.a_l_text) = true := T.F_l_text.kp
theorem Tx.k_l_event (T : Tx K mg) : PySem.W.keepIn K (.ref T.a_l_event) = true := T.F_l_event.kp
theorem Tx.k_l_can_be_told (T : Tx K mg) : PySem.W.keepIn K (.ref T.a_l_can_be_told) = true := T.F_l_can_be_told.kp
theorem Tx.k_l_can_begin (T : Tx K mg) : PySem.W.keepIn K (.ref T.a_l_can_begin) = true := T.F_l_can_begin.kp
theorem Tx.k_l_unread (T : Tx K mg) : PySem.W.keepIn K (.ref T.a_l_unread) = true := T.F_l_unread.kp
theorem Tx.k_l_heard (T : Tx K mg) : PySem.W.keepIn K (.ref T.a_l_heard) = true := T.F_l_heard.kp
theorem Tx.k_l_name (T : Tx K mg) : PySem.W.keepIn K (.ref T.a_l_name) = true := T.F_l_name.kp
theorem Tx.k_l_drawn (T : Tx K mg) : PySem.W.keepIn K (.ref T.a_l_drawn) = true := T.F_l_drawn.kp
theorem Tx.k_l_bent (T : Tx K mg) : PySem.W.keepIn K (.ref T.a_l_bent) = true := T.F_l_bent.kp
theorem Tx.k_l_text_right (T : Tx K mg) : PySem.W.keepIn K (.ref T.a_l_text_right) = true := T.F_l_text_right.kp
theorem Tx.k_l_event_right (T : Tx K mg) : PySem.W.keepIn K (.ref T.a_l_event_right) = true := T.F_l_event_right.kp
theorem Tx.k_law (T : Tx K mg) : PySem.W.keepIn K (.ref T.a_law) = true := T.F_law.kp
theorem Tx.r_VERBS (T : Tx K mg) (G : Hp) : Rep K G (.ref T.u_VERBS) c_VERBS := .tup (T.s_VERBS G) (Reps.of_strs ss_VERBS)
structure Bx (T : Tx K mg) (base : Heap) : Prop where
  b_l_event_right : LamX.TabB base mg T.cc_l_event_right T.pp_l_event_right
  b_l_text_right : LamX.TabB base mg T.cc_l_text_right T.pp_l_text_right
  b_law : LamX.TabB base mg T.cc_law T.pp_law
def hd_l : List (Str × (Exn → Option D)) := [("UnreadEvent", (itL (itCons (itC (.str "unread")) (itCons (itF "position") (itCons (itC (.bl true)) itNil))))), ("InvalidEvent", (itL (itCons (itC (.str "no event")) (itCons (itR (itF "value")) (itCons (itC (.bl true)) itNil))))), ("InvalidText", (itL (itCons (itC (.str "no text")) (itCons (itR (itF "value")) (itCons (itC (.bl true)) itNil)))))]
def Tx.cl (T : Tx K mg) : List Cl := [("UnreadEvent", T.C_UnreadEvent, (itL (itCons (itC (.str "unread")) (itCons (itF "position") (itCons (itC (.bl true)) itNil))))), ("InvalidEvent", T.C_InvalidEvent, (itL (itCons (itC (.str "no event")) (itCons (itR (itF "value")) (itCons (itC (.bl true)) itNil))))), ("InvalidText", T.C_InvalidText, (itL (itCons (itC (.str "no text")) (itCons (itR (itF "value")) (itCons (itC (.bl true)) itNil)))))]
theorem Tx.clm (T : Tx K mg) : ∀ a ∈ T.cl, mg a.1 = some (.ref a.2.1) := List.forall_mem_cons.mpr ⟨T.xm_UnreadEvent, List.forall_mem_cons.mpr ⟨T.xm_InvalidEvent, List.forall_mem_cons.mpr ⟨T.xm_InvalidText, fun _ h => nomatch h⟩⟩⟩
theorem Tx.exm (T : Tx K mg) : ExM K T.cl := List.forall_mem_cons.mpr ⟨List.forall_mem_cons.mpr ⟨T.xe_UnreadEvent_UnreadEvent, List.forall_mem_cons.mpr ⟨T.xe_UnreadEvent_InvalidEvent, List.forall_mem_cons.mpr ⟨T.xe_UnreadEvent_InvalidText, fun _ h => nomatch h⟩⟩⟩, List.forall_mem_cons.mpr ⟨List.forall_mem_cons.mpr ⟨T.xe_InvalidEvent_UnreadEvent, List.forall_mem_cons.mpr ⟨T.xe_InvalidEvent_InvalidEvent, List.forall_mem_cons.mpr ⟨T.xe_InvalidEvent_InvalidText, fun _ h => nomatch h⟩⟩⟩, List.forall_mem_cons.mpr ⟨List.forall_mem_cons.mpr ⟨T.xe_InvalidText_UnreadEvent, List.forall_mem_cons.mpr ⟨T.xe_InvalidText_InvalidEvent, List.forall_mem_cons.mpr ⟨T.xe_InvalidText_InvalidText, fun _ h => nomatch h⟩⟩⟩, fun _ h => nomatch h⟩⟩⟩
theorem ok_init (T : Tx K mg) : FnOk P w K mg base CX0 1 T.a_init T.fd_init ["self", "value"] (spInit K "value") := init_ok T.F_init sc_init rfl rfl rfl rfl rfl (.inl rfl) (.inl rfl) rfl rfl
theorem ok_init_UnreadEvent (T : Tx K mg) : FnOk P w K mg base CX0 1 T.a_init_UnreadEvent T.fd_init_UnreadEvent ["self", "position"] (spInit K "position") := init_ok (funD_of T.F_init_UnreadEvent) sc_init_UnreadEvent rfl rfl rfl rfl rfl (.inl rfl) (.inl rfl) rfl rfl
/-! is_integer -/
def g_is_integer : GS := (retS (andE (unE (isiF "int") (varE 0)) (notE (unE (isiF "bool") (varE 0)))))
def f_is_integer := runP g_is_integer 0
theorem ok_is_integer (T : Tx K mg) : FnOk P w K mg base (L2.CX P w) 1 T.a_is_integer T.fd_is_integer ["value"] (spP K mg T.tabs 1 f_is_integer) :=
  pure_Ok T.F_is_integer sc_is_integer rfl rfl fun cdv A outer s H E hr => by
    have hu := hr.units
    exact ((SXs.one (SX.ret (EX.and (EX.isi T.n_isinstance T.n_int boot_int' (EX.var ioP (pv 0))) (EX.one (EX.not (EX.isi T.n_isinstance T.n_bool boot_bool' (EX.var ioP (pv 0)))))))))
/-! is_within -/
def g_is_within : GS := (retS (andE (callE 1 f_is_integer (consA (varE 0) nilA)) (chainE leF leF (varE 1) (varE 0) (varE 2))))
def f_is_within := runP g_is_within 0
theorem ok_is_within (T : Tx K mg) : FnOk P w K mg base (L2.CX P w) 2 T.a_is_within T.fd_is_within ["value", "least", "most"] (spP K mg T.tabs 3 f_is_within) :=
  pure_Ok T.F_is_within sc_is_within rfl rfl fun cdv A outer s H E hr => by
    have hu := hr.units
    exact ((SXs.one (SX.ret (EX.and (EX.callN (ok_is_integer T) (hr.mono (by decide)) T.g_is_integer T.k_is_integer T.b_is_integer pass_cx (AX.cons (EX.var ioP (pv 0)) AX.nil)) (EX.one (EX.chain (o2_ord _ _) op_leP (o2_ord _ _) op_leP (EX.var ioP (pv 1)) (EX.var ioP (pv 0)) (EX.var ioP (pv 2))))))))
/-! is_name_value -/
def g_is_name_value : GS := (retS (andE (unE (isiF "str") (varE 0)) (andE (chainE leF leF (cE (.int 1)) (appE lenF (consA (varE 0) nilA)) (cE c_MOST_NAME)) (appE allF (consA (lstE (lcE [1] (seqI (varE 0)) (nameT 1) yesT (binE inF (varE 1) (cE c_LETTERS)))) nilA)))))
def f_is_name_value := runP g_is_name_value 1
theorem ok_is_name_value (T : Tx K mg) : FnOk P w K mg base (L2.CX P w) 1 T.a_is_name_value T.fd_is_name_value ["value"] (spP K mg T.tabs 1 f_is_name_value) :=
  pure_Ok T.F_is_name_value sc_is_name_value rfl rfl fun cdv A outer s H E hr => by
    have hu := hr.units
    exact ((SXs.one (SX.ret (EX.and (EX.isi T.n_isinstance T.n_str boot_str' (EX.var ioP (pv 0))) (EX.and (EX.chain (o2_ord _ _) op_leP (o2_ord _ _) op_leP EX.int (EX.callB ol_len cr_lenP T.n_len boot_len' (AX.cons (EX.var ioP (pv 0)) AX.nil)) (EX.gint T.g_MOST_NAME)) (EX.one (EX.callB ol_all (cr_all rfl) T.n_all boot_all' (AX.cons (LX.ex (LX.lc (own := [("sign", 1)]) rfl sc_is_name_value.nd (IX.seq (EX.var ioP (pv 0))) (blkOk_by (N := n_is_name_value) (sc := (defScope s_is_name_value)) (by decide +kernel)) ioPs (by decide) (fun _ _ _ _ _ => (TGX.name ioP (pg_name (i := 1) sc_is_name_value.nd rfl (by first | exact Or.inl rfl | exact Or.inr rfl)))) (fun _ _ _ _ _ => TXS.nil) (fun _ _ _ _ _ => (EX.cmp o2_in op_inP (EX.var ioP (pv 1)) (EX.gstr T.g_LETTERS))))) AX.nil))))))))
/-! number_in -/
def g_number_in : GS := (seqS (asgS (ifE (boolE (binE eqF (slE (varE 0) noO (someO (cE (.int 1)))) (cE c_MINUS))) (slE (varE 0) (someO (cE (.int 1))) noO) (varE 0)) (nameT 1))
    (seqS (ifS (orT (boolE (binE eqF (varE 1) (cE (.str "")))) (orT (boolE (binE gtF (appE lenF (consA (varE 1) nilA)) (cE c_MOST_DIGITS))) (notT (boolE (appE allF (consA (lstE (lcE [2] (seqI (varE 1)) (nameT 2) yesT (binE inF (varE 2) (cE c_DIGITS)))) nilA)))))) (retS (cE .non)) nopS)
    (seqS (ifS (andT (boolE (binE eqF (binE ixF (varE 1) (cE (.int 0))) (cE (.str "0")))) (boolE (binE neF (varE 0) (cE (.str "0"))))) (retS (cE .non)) nopS)
    (retS (appE intF (consA (varE 0) nilA))))))
def f_number_in := runP g_number_in 2
theorem ok_number_in (T : Tx K mg) : FnOk P w K mg base (L2.CX P w) 1 T.a_number_in T.fd_number_in ["token"] (spP K mg T.tabs 1 f_number_in) :=
  pure_Ok T.F_number_in sc_number_in rfl rfl fun cdv A outer s H E hr => by
    have hu := hr.units
    exact ((SXs.cons (SX.set (EX.ifE (TX.cmp o2_eq (op_eqP hu) (EX.slice (EX.var ioP (pv 0)) OX.none (OX.some EX.int)) (EX.gstr T.g_MINUS)) (EX.slice (EX.var ioP (pv 0)) (OX.some EX.int) OX.none) (EX.var ioP (pv 0))) ioP (fun _ h => ps_set (i := 1) sc_number_in.nd rfl (Or.inl rfl) h))
    (SXs.cons (SX.ifS (TX.w (WX.or (TX.cmp o2_eq (op_eqP hu) (EX.var ioP (pv 1)) EX.str) (WX.or (TX.cmp (o2_ord _ _) op_gtP (EX.callB ol_len cr_lenP T.n_len boot_len' (AX.cons (EX.var ioP (pv 1)) AX.nil)) (EX.gint T.g_MOST_DIGITS)) (WX.or1 (TX.not (TX.val (EX.callB ol_all (cr_all rfl) T.n_all boot_all' (AX.cons (LX.ex (LX.lc (own := [("sign", 2)]) rfl sc_number_in.nd (IX.seq (EX.var ioP (pv 1))) (blkOk_by (N := n_number_in) (sc := (defScope s_number_in)) (by decide +kernel)) ioPs (by decide) (fun _ _ _ _ _ => (TGX.name ioP (pg_name (i := 2) sc_number_in.nd rfl (by first | exact Or.inl rfl | exact Or.inr rfl)))) (fun _ _ _ _ _ => TXS.nil) (fun _ _ _ _ _ => (EX.cmp o2_in op_inP (EX.var ioP (pv 2)) (EX.gstr T.g_DIGITS))))) AX.nil)))))))) (SXs.one (SX.ret EX.non)) SXs.nil)
    (SXs.cons (SX.ifS (TX.w (WX.and (TX.cmp o2_eq (op_eqP hu) (EX.ix o2_ix ix_seq (EX.var ioP (pv 1)) EX.int) EX.str) (WX.and1 (TX.cmp o2_ne (op_neP hu) (EX.var ioP (pv 0)) EX.str)))) (SXs.one (SX.ret EX.non)) SXs.nil)
    (SXs.one (SX.ret (EX.callTy ol_int cr_intP T.n_int boot_int' (AX.cons (EX.var ioP (pv 0)) AX.nil))))))))
/-! are_two -/
def g_are_two : GS := (retS (andE (callE 1 f_is_name_value (consA (varE 0) nilA)) (andE (callE 1 f_is_name_value (consA (varE 1) nilA)) (binE neF (varE 0) (varE 1)))))
def f_are_two := runP g_are_two 0
theorem ok_are_two (T : Tx K mg) : FnOk P w K mg base (L2.CX P w) 2 T.a_are_two T.fd_are_two ["one", "other"] (spP K mg T.tabs 2 f_are_two) :=
  pure_Ok T.F_are_two sc_are_two rfl rfl fun cdv A outer s H E hr => by
    have hu := hr.units
    exact ((SXs.one (SX.ret (EX.and (EX.callN (ok_is_name_value T) (hr.mono (by decide)) T.g_is_name_value T.k_is_name_value T.b_is_name_value pass_cx (AX.cons (EX.var ioP (pv 0)) AX.nil)) (EX.and (EX.callN (ok_is_name_value T) (hr.mono (by decide)) T.g_is_name_value T.k_is_name_value T.b_is_name_value pass_cx (AX.cons (EX.var ioP (pv 1)) AX.nil)) (EX.one (EX.cmp o2_ne (op_neP hu) (EX.var ioP (pv 0)) (EX.var ioP (pv 1)))))))))
/-! is_event_form -/
def g_is_event_form : GS := (seqS (ifS (orT (notT (boolE (unE (isiF "tuple") (varE 0)))) (orT (boolE (binE ltF (appE lenF (consA (varE 0) nilA)) (cE (.int 2)))) (notT (boolE (unE (isiF "str") (binE ixF (varE 0) (cE (.int 0)))))))) (retS (cE (.bl false))) nopS)
    (seqS (ifS (boolE (binE eqF (binE ixF (varE 0) (cE (.int 0))) (cE c_LEAVE))) (retS (andE (binE eqF (appE lenF (consA (varE 0) nilA)) (cE (.int 2))) (callE 1 f_is_name_value (consA (binE ixF (varE 0) (cE (.int 1))) nilA)))) nopS)
    (seqS (ifS (boolE (binE eqF (binE ixF (varE 0) (cE (.int 0))) (cE c_TOLD))) (retS (andE (binE eqF (appE lenF (consA (varE 0) nilA)) (cE (.int 4))) (andE (callE 2 f_are_two (consA (binE ixF (varE 0) (cE (.int 1))) (consA (binE ixF (varE 0) (cE (.int 2))) nilA))) (callE 3 f_is_within (consA (binE ixF (varE 0) (cE (.int 3))) (consA (cE (.int 0)) (consA (cE (.int 2)) nilA))))))) nopS)
    (seqS (ifS (orT (boolE (binE neF (binE ixF (varE 0) (cE (.int 0))) (cE c_FIX))) (orT (boolE (binE neF (appE lenF (consA (varE 0) nilA)) (cE (.int 5)))) (notT (boolE (callE 3 f_is_within (consA (binE ixF (varE 0) (cE (.int 1))) (consA (cE (.int 0)) (consA (cE c_MOST_ROUND) nilA)))))))) (retS (cE (.bl false))) nopS)
    (retS (andE (callE 2 f_are_two (consA (binE ixF (varE 0) (cE (.int 2))) (consA (binE ixF (varE 0) (cE (.int 3))) nilA))) (callE 3 f_is_within (consA (binE ixF (varE 0) (cE (.int 4))) (consA (cE (.int 0)) (consA (cE (.int 2)) nilA))))))))))
def f_is_event_form := runP g_is_event_form 0
theorem ok_is_event_form (T : Tx K mg) : FnOk P w K mg base (L2.CX P w) 3 T.a_is_event_form T.fd_is_event_form ["value"] (spP K mg T.tabs 1 f_is_event_form) :=
  pure_Ok T.F_is_event_form sc_is_event_form rfl rfl fun cdv A outer s H E hr => by
    have hu := hr.units
    exact ((SXs.cons (SX.ifS (TX.w (WX.or (TX.not (TX.val (EX.isi T.n_isinstance T.n_tuple boot_tuple' (EX.var ioP (pv 0))))) (WX.or (TX.cmp (o2_ord _ _) op_ltP (EX.callB ol_len cr_lenP T.n_len boot_len' (AX.cons (EX.var ioP (pv 0)) AX.nil)) EX.int) (WX.or1 (TX.not (TX.val (EX.isi T.n_isinstance T.n_str boot_str' (EX.ix o2_ix ix_seq (EX.var ioP (pv 0)) EX.int)))))))) (SXs.one (SX.ret EX.bl)) SXs.nil)
    (SXs.cons (SX.ifS (TX.cmp o2_eq (op_eqP hu) (EX.ix o2_ix ix_seq (EX.var ioP (pv 0)) EX.int) (EX.gstr T.g_LEAVE)) (SXs.one (SX.ret (EX.and (EX.cmp o2_eq (op_eqP hu) (EX.callB ol_len cr_lenP T.n_len boot_len' (AX.cons (EX.var ioP (pv 0)) AX.nil)) EX.int) (EX.one (EX.callN (ok_is_name_value T) (hr.mono (by decide)) T.g_is_name_value T.k_is_name_value T.b_is_name_value pass_cx (AX.cons (EX.ix o2_ix ix_seq (EX.var ioP (pv 0)) EX.int) AX.nil)))))) SXs.nil)
    (SXs.cons (SX.ifS (TX.cmp o2_eq (op_eqP hu) (EX.ix o2_ix ix_seq (EX.var ioP (pv 0)) EX.int) (EX.gstr T.g_TOLD)) (SXs.one (SX.ret (EX.and (EX.cmp o2_eq (op_eqP hu) (EX.callB ol_len cr_lenP T.n_len boot_len' (AX.cons (EX.var ioP (pv 0)) AX.nil)) EX.int) (EX.and (EX.callN (ok_are_two T) (hr.mono (by decide)) T.g_are_two T.k_are_two T.b_are_two pass_cx (AX.cons (EX.ix o2_ix ix_seq (EX.var ioP (pv 0)) EX.int) (AX.cons (EX.ix o2_ix ix_seq (EX.var ioP (pv 0)) EX.int) AX.nil))) (EX.one (EX.callN (ok_is_within T) (hr.mono (by decide)) T.g_is_within T.k_is_within T.b_is_within pass_cx (AX.cons (EX.ix o2_ix ix_seq (EX.var ioP (pv 0)) EX.int) (AX.cons EX.int (AX.cons EX.int AX.nil))))))))) SXs.nil)
    (SXs.cons (SX.ifS (TX.w (WX.or (TX.cmp o2_ne (op_neP hu) (EX.ix o2_ix ix_seq (EX.var ioP (pv 0)) EX.int) (EX.gstr T.g_FIX)) (WX.or (TX.cmp o2_ne (op_neP hu) (EX.callB ol_len cr_lenP T.n_len boot_len' (AX.cons (EX.var ioP (pv 0)) AX.nil)) EX.int) (WX.or1 (TX.not (TX.val (EX.callN (ok_is_within T) (hr.mono (by decide)) T.g_is_within T.k_is_within T.b_is_within pass_cx (AX.cons (EX.ix o2_ix ix_seq (EX.var ioP (pv 0)) EX.int) (AX.cons EX.int (AX.cons (EX.gint T.g_MOST_ROUND) AX.nil)))))))))) (SXs.one (SX.ret EX.bl)) SXs.nil)
    (SXs.one (SX.ret (EX.and (EX.callN (ok_are_two T) (hr.mono (by decide)) T.g_are_two T.k_are_two T.b_are_two pass_cx (AX.cons (EX.ix o2_ix ix_seq (EX.var ioP (pv 0)) EX.int) (AX.cons (EX.ix o2_ix ix_seq (EX.var ioP (pv 0)) EX.int) AX.nil))) (EX.one (EX.callN (ok_is_within T) (hr.mono (by decide)) T.g_is_within T.k_is_within T.b_is_within pass_cx (AX.cons (EX.ix o2_ix ix_seq (EX.var ioP (pv 0)) EX.int) (AX.cons EX.int (AX.cons EX.int AX.nil)))))))))))))
/-! event_told -/
def g_event_told : GS := (seqS (ifS (boolE (binE eqF (binE ixF (varE 0) (cE (.int 0))) (cE c_LEAVE))) (retS (binE addF (binE addF (binE ixF (varE 0) (cE (.int 1))) (cE (.str " "))) (cE c_LEAVES))) nopS)
    (seqS (asgS (binE addF (binE addF (binE addF (binE addF (binE ixF (varE 0) (unE negF (cE (.int 3)))) (cE (.str " "))) (binE ixF (cE c_VERBS) (binE ixF (varE 0) (unE negF (cE (.int 1)))))) (cE (.str " "))) (binE ixF (varE 0) (unE negF (cE (.int 2))))) (nameT 1))
    (retS (ifE (boolE (binE eqF (binE ixF (varE 0) (cE (.int 0))) (cE c_TOLD))) (varE 1) (binE addF (binE addF (binE addF (binE addF (cE c_FIX) (cE (.str " "))) (appE strIF (consA (binE ixF (varE 0) (cE (.int 1))) nilA))) (cE (.str " "))) (varE 1))))))
def f_event_told := runP g_event_told 1
theorem ok_event_told (T : Tx K mg) : FnOk P w K mg base (L2.CX P w) 1 T.a_event_told T.fd_event_told ["event"] (spP K mg T.tabs 1 f_event_told) :=
  pure_Ok T.F_event_told sc_event_told rfl rfl fun cdv A outer s H E hr => by
    have hu := hr.units
    exact ((SXs.cons (SX.ifS (TX.cmp o2_eq (op_eqP hu) (EX.ix o2_ix ix_seq (EX.var ioP (pv 0)) EX.int) (EX.gstr T.g_LEAVE)) (SXs.one (SX.ret (EX.bin o2_add op_addP (EX.bin o2_add op_addP (EX.ix o2_ix ix_seq (EX.var ioP (pv 0)) EX.int) EX.str) (EX.gstr T.g_LEAVES)))) SXs.nil)
    (SXs.cons (SX.set (EX.bin o2_add op_addP (EX.bin o2_add op_addP (EX.bin o2_add op_addP (EX.bin o2_add op_addP (EX.ix o2_ix ix_seq (EX.var ioP (pv 0)) (EX.un o1_neg un_neg EX.int)) EX.str) (EX.ix o2_ix ix_seq (EX.gref T.g_VERBS T.r_VERBS) (EX.ix o2_ix ix_seq (EX.var ioP (pv 0)) (EX.un o1_neg un_neg EX.int)))) EX.str) (EX.ix o2_ix ix_seq (EX.var ioP (pv 0)) (EX.un o1_neg un_neg EX.int))) ioP (fun _ h => ps_set (i := 1) sc_event_told.nd rfl (Or.inl rfl) h))
    (SXs.one (SX.ret (EX.ifE (TX.cmp o2_eq (op_eqP hu) (EX.ix o2_ix ix_seq (EX.var ioP (pv 0)) EX.int) (EX.gstr T.g_TOLD)) (EX.var ioP (pv 1)) (EX.bin o2_add op_addP (EX.bin o2_add op_addP (EX.bin o2_add op_addP (EX.bin o2_add op_addP (EX.gstr T.g_FIX) EX.str) (EX.callTy ol_str call_str_int T.n_str boot_str' (AX.cons (EX.ix o2_ix ix_seq (EX.var ioP (pv 0)) EX.int) AX.nil))) EX.str) (EX.var ioP (pv 1)))))))))
/-! event_by -/
def g_event_by : GS := (seqS (asgS (cE .non) (nameT 1))
    (seqS (ifS (andT (boolE (binE eqF (appE lenF (consA (varE 0) nilA)) (cE (.int 2)))) (boolE (binE eqF (binE ixF (varE 0) (cE (.int 1))) (cE c_LEAVES)))) (asgS (appE tupF (consA (cE c_LEAVE) (consA (binE ixF (varE 0) (cE (.int 0))) nilA))) (nameT 1)) (ifS (andT (boolE (binE inF (appE lenF (consA (varE 0) nilA)) (appE tupF (consA (cE (.int 3)) (consA (cE (.int 5)) nilA))))) (boolE (binE inF (binE ixF (varE 0) (unE negF (cE (.int 2)))) (cE c_VERBS)))) (seqS (asgS (appE tupF (consA (cE c_TOLD) (consA (binE ixF (varE 0) (unE negF (cE (.int 3)))) (consA (binE ixF (varE 0) (unE negF (cE (.int 1)))) (consA (appE (indexF ss_VERBS) (consA (binE ixF (varE 0) (unE negF (cE (.int 2)))) nilA)) nilA))))) (nameT 1))
    (ifS (boolE (binE eqF (appE lenF (consA (varE 0) nilA)) (cE (.int 5)))) (asgS (ifE (boolE (binE eqF (binE ixF (varE 0) (cE (.int 0))) (cE c_FIX))) (binE addF (appE tupF (consA (cE c_FIX) (consA (callE 1 f_number_in (consA (binE ixF (varE 0) (cE (.int 1))) nilA)) nilA))) (slE (varE 1) (someO (cE (.int 1))) noO)) (cE .non)) (nameT 1)) nopS)) nopS))
    (retS (ifE (andT (boolE (binE isNotF (varE 1) (cE .non))) (boolE (callE 1 f_is_event_form (consA (varE 1) nilA)))) (varE 1) (cE .non)))))
def f_event_by := runP g_event_by 1
theorem ok_event_by (T : Tx K mg) : FnOk P w K mg base (L2.CX P w) 4 T.a_event_by T.fd_event_by ["parts"] (spP K mg T.tabs 1 f_event_by) :=
  pure_Ok T.F_event_by sc_event_by rfl rfl fun cdv A outer s H E hr => by
    have hu := hr.units
    exact ((SXs.cons (SX.set EX.non ioP (fun _ h => ps_set (i := 1) sc_event_by.nd rfl (Or.inl rfl) h))
    (SXs.cons (SX.ifS (TX.w (WX.and (TX.cmp o2_eq (op_eqP hu) (EX.callB ol_len cr_lenP T.n_len boot_len' (AX.cons (EX.var ioP (pv 0)) AX.nil)) EX.int) (WX.and1 (TX.cmp o2_eq (op_eqP hu) (EX.ix o2_ix ix_seq (EX.var ioP (pv 0)) EX.int) (EX.gstr T.g_LEAVES))))) (SXs.one (SX.set (EX.tup (AX.cons (EX.gstr T.g_LEAVE) (AX.cons (EX.ix o2_ix ix_seq (EX.var ioP (pv 0)) EX.int) AX.nil))) ioP (fun _ h => ps_set (i := 1) sc_event_by.nd rfl (Or.inl rfl) h))) (SXs.one (SX.ifS (TX.w (WX.and (TX.cmp o2_in op_inP (EX.callB ol_len cr_lenP T.n_len boot_len' (AX.cons (EX.var ioP (pv 0)) AX.nil)) (EX.tup (AX.cons EX.int (AX.cons EX.int AX.nil)))) (WX.and1 (TX.cmp o2_in op_inP (EX.ix o2_ix ix_seq (EX.var ioP (pv 0)) (EX.un o1_neg un_neg EX.int)) (EX.gref T.g_VERBS T.r_VERBS))))) (SXs.cons (SX.set (EX.tup (AX.cons (EX.gstr T.g_TOLD) (AX.cons (EX.ix o2_ix ix_seq (EX.var ioP (pv 0)) (EX.un o1_neg un_neg EX.int)) (AX.cons (EX.ix o2_ix ix_seq (EX.var ioP (pv 0)) (EX.un o1_neg un_neg EX.int)) (AX.cons (EX.tupIndex T.s_VERBS T.t_VERBS (pe_glob (v := .ref T.u_VERBS) rfl T.g_VERBS rfl) (AX.cons (EX.ix o2_ix ix_seq (EX.var ioP (pv 0)) (EX.un o1_neg un_neg EX.int)) AX.nil)) AX.nil))))) ioP (fun _ h => ps_set (i := 1) sc_event_by.nd rfl (Or.inl rfl) h))
    (SXs.one (SX.ifS (TX.cmp o2_eq (op_eqP hu) (EX.callB ol_len cr_lenP T.n_len boot_len' (AX.cons (EX.var ioP (pv 0)) AX.nil)) EX.int) (SXs.one (SX.set (EX.ifE (TX.cmp o2_eq (op_eqP hu) (EX.ix o2_ix ix_seq (EX.var ioP (pv 0)) EX.int) (EX.gstr T.g_FIX)) (EX.bin o2_add op_addP (EX.tup (AX.cons (EX.gstr T.g_FIX) (AX.cons (EX.callN (ok_number_in T) (hr.mono (by decide)) T.g_number_in T.k_number_in T.b_number_in pass_cx (AX.cons (EX.ix o2_ix ix_seq (EX.var ioP (pv 0)) EX.int) AX.nil)) AX.nil))) (EX.slice (EX.var ioP (pv 1)) (OX.some EX.int) OX.none)) EX.non) ioP (fun _ h => ps_set (i := 1) sc_event_by.nd rfl (Or.inl rfl) h))) SXs.nil))) SXs.nil)))
    (SXs.one (SX.ret (EX.ifE (TX.w (WX.and (TX.cmp o2_isNot op_isNotP (EX.var ioP (pv 1)) EX.non) (WX.and1 (TX.val (EX.callN (ok_is_event_form T) (hr.mono (by decide)) T.g_is_event_form T.k_is_event_form T.b_is_event_form pass_cx (AX.cons (EX.var ioP (pv 1)) AX.nil)))))) (EX.var ioP (pv 1)) EX.non))))))
/-! can_be_name -/
def g_can_be_name : GS := (retS (andE (binE leF (appE lenF (consA (varE 0) nilA)) (cE c_MOST_NAME)) (appE allF (consA (lstE (lcE [1] (seqI (varE 0)) (nameT 1) yesT (binE inF (varE 1) (cE c_LETTERS)))) nilA))))
def f_can_be_name := runP g_can_be_name 1
theorem ok_can_be_name (T : Tx K mg) : FnOk P w K mg base (L2.CX P w) 1 T.a_can_be_name T.fd_can_be_name ["token"] (spP K mg T.tabs 1 f_can_be_name) :=
  pure_Ok T.F_can_be_name sc_can_be_name rfl rfl fun cdv A outer s H E hr => by
    have hu := hr.units
    exact ((SXs.one (SX.ret (EX.and (EX.cmp (o2_ord _ _) op_leP (EX.callB ol_len cr_lenP T.n_len boot_len' (AX.cons (EX.var ioP (pv 0)) AX.nil)) (EX.gint T.g_MOST_NAME)) (EX.one (EX.callB ol_all (cr_all rfl) T.n_all boot_all' (AX.cons (LX.ex (LX.lc (own := [("sign", 1)]) rfl sc_can_be_name.nd (IX.seq (EX.var ioP (pv 0))) (blkOk_by (N := n_can_be_name) (sc := (defScope s_can_be_name)) (by decide +kernel)) ioPs (by decide) (fun _ _ _ _ _ => (TGX.name ioP (pg_name (i := 1) sc_can_be_name.nd rfl (by first | exact Or.inl rfl | exact Or.inr rfl)))) (fun _ _ _ _ _ => TXS.nil) (fun _ _ _ _ _ => (EX.cmp o2_in op_inP (EX.var ioP (pv 1)) (EX.gstr T.g_LETTERS))))) AX.nil)))))))
/-! can_be_round -/
def g_can_be_round : GS := (retS (orE (binE eqF (varE 0) (cE (.str ""))) (callE 3 f_is_within (consA (callE 1 f_number_in (consA (varE 0) nilA)) (consA (cE (.int 0)) (consA (cE c_MOST_ROUND) nilA))))))
def f_can_be_round := runP g_can_be_round 0
theorem ok_can_be_round (T : Tx K mg) : FnOk P w K mg base (L2.CX P w) 3 T.a_can_be_round T.fd_can_be_round ["token"] (spP K mg T.tabs 1 f_can_be_round) :=
  pure_Ok T.F_can_be_round sc_can_be_round rfl rfl fun cdv A outer s H E hr => by
    have hu := hr.units
    exact ((SXs.one (SX.ret (EX.or (EX.cmp o2_eq (op_eqP hu) (EX.var ioP (pv 0)) EX.str) (EX.one (EX.callN (ok_is_within T) (hr.mono (by decide)) T.g_is_within T.k_is_within T.b_is_within pass_cx (AX.cons (EX.callN (ok_number_in T) (hr.mono (by decide)) T.g_number_in T.k_number_in T.b_number_in pass_cx (AX.cons (EX.var ioP (pv 0)) AX.nil)) (AX.cons EX.int (AX.cons (EX.gint T.g_MOST_ROUND) AX.nil)))))))))
/-! can_be_verb -/
def g_can_be_verb : GS := (retS (appE anyF (consA (lstE (lcE [2] (seqI (varE 1)) (nameT 2) yesT (binE eqF (slE (varE 2) noO (someO (appE lenF (consA (varE 0) nilA)))) (varE 0)))) nilA)))
def f_can_be_verb := runP g_can_be_verb 1
theorem ok_can_be_verb (T : Tx K mg) : FnOk P w K mg base (L2.CX P w) 1 T.a_can_be_verb T.fd_can_be_verb ["token", "words"] (spP K mg T.tabs 2 f_can_be_verb) :=
  pure_Ok T.F_can_be_verb sc_can_be_verb rfl rfl fun cdv A outer s H E hr => by
    have hu := hr.units
    exact ((SXs.one (SX.ret (EX.callB ol_any (cr_any rfl) T.n_any boot_any' (AX.cons (LX.ex (LX.lc (own := [("word", 2)]) rfl sc_can_be_verb.nd (IX.seq (EX.var ioP (pv 1))) (blkOk_by (N := n_can_be_verb) (sc := (defScope s_can_be_verb)) (by decide +kernel)) ioPs (by decide) (fun _ _ _ _ _ => (TGX.name ioP (pg_name (i := 2) sc_can_be_verb.nd rfl (by first | exact Or.inl rfl | exact Or.inr rfl)))) (fun _ _ _ _ _ => TXS.nil) (fun _ _ _ _ _ => (EX.cmp o2_eq (op_eqP hu) (EX.slice (EX.var ioP (pv 2)) OX.none (OX.some (EX.callB ol_len cr_lenP T.n_len boot_len' (AX.cons (EX.var ioP (pv 0)) AX.nil)))) (EX.var ioP (pv 0)))))) AX.nil)))))
/-! can_be_game -/
def g_can_be_game : GS := (seqS (ifS (boolE (binE eqF (appE lenF (consA (varE 0) nilA)) (cE (.int 1)))) (retS (callE 1 f_can_be_name (consA (binE ixF (varE 0) (cE (.int 0))) nilA))) nopS)
    (seqS (ifS (orT (notT (boolE (callE 1 f_is_name_value (consA (binE ixF (varE 0) (cE (.int 0))) nilA)))) (boolE (binE gtF (appE lenF (consA (varE 0) nilA)) (cE (.int 3))))) (retS (cE (.bl false))) nopS)
    (seqS (ifS (boolE (binE eqF (appE lenF (consA (varE 0) nilA)) (cE (.int 2)))) (retS (callE 2 f_can_be_verb (consA (binE ixF (varE 0) (cE (.int 1))) (consA (cE c_VERBS) nilA)))) nopS)
    (seqS (asgS (andE (binE eqF (appE lenF (consA (binE ixF (varE 0) (cE (.int 2))) nilA)) (cE c_MOST_NAME)) (binE eqF (binE ixF (varE 0) (cE (.int 2))) (binE ixF (varE 0) (cE (.int 0))))) (nameT 1))
    (retS (andE (binE inF (binE ixF (varE 0) (cE (.int 1))) (cE c_VERBS)) (andE (callE 1 f_can_be_name (consA (binE ixF (varE 0) (cE (.int 2))) nilA)) (notE (varE 1)))))))))
def f_can_be_game := runP g_can_be_game 1
theorem ok_can_be_game (T : Tx K mg) : FnOk P w K mg base (L2.CX P w) 2 T.a_can_be_game T.fd_can_be_game ["parts"] (spP K mg T.tabs 1 f_can_be_game) :=
  pure_Ok T.F_can_be_game sc_can_be_game rfl rfl fun cdv A outer s H E hr => by
    have hu := hr.units
    exact ((SXs.cons (SX.ifS (TX.cmp o2_eq (op_eqP hu) (EX.callB ol_len cr_lenP T.n_len boot_len' (AX.cons (EX.var ioP (pv 0)) AX.nil)) EX.int) (SXs.one (SX.ret (EX.callN (ok_can_be_name T) (hr.mono (by decide)) T.g_can_be_name T.k_can_be_name T.b_can_be_name pass_cx (AX.cons (EX.ix o2_ix ix_seq (EX.var ioP (pv 0)) EX.int) AX.nil)))) SXs.nil)
    (SXs.cons (SX.ifS (TX.w (WX.or (TX.not (TX.val (EX.callN (ok_is_name_value T) (hr.mono (by decide)) T.g_is_name_value T.k_is_name_value T.b_is_name_value pass_cx (AX.cons (EX.ix o2_ix ix_seq (EX.var ioP (pv 0)) EX.int) AX.nil)))) (WX.or1 (TX.cmp (o2_ord _ _) op_gtP (EX.callB ol_len cr_lenP T.n_len boot_len' (AX.cons (EX.var ioP (pv 0)) AX.nil)) EX.int)))) (SXs.one (SX.ret EX.bl)) SXs.nil)
    (SXs.cons (SX.ifS (TX.cmp o2_eq (op_eqP hu) (EX.callB ol_len cr_lenP T.n_len boot_len' (AX.cons (EX.var ioP (pv 0)) AX.nil)) EX.int) (SXs.one (SX.ret (EX.callN (ok_can_be_verb T) (hr.mono (by decide)) T.g_can_be_verb T.k_can_be_verb T.b_can_be_verb pass_cx (AX.cons (EX.ix o2_ix ix_seq (EX.var ioP (pv 0)) EX.int) (AX.cons (EX.gref T.g_VERBS T.r_VERBS) AX.nil))))) SXs.nil)
    (SXs.cons (SX.set (EX.and (EX.cmp o2_eq (op_eqP hu) (EX.callB ol_len cr_lenP T.n_len boot_len' (AX.cons (EX.ix o2_ix ix_seq (EX.var ioP (pv 0)) EX.int) AX.nil)) (EX.gint T.g_MOST_NAME)) (EX.one (EX.cmp o2_eq (op_eqP hu) (EX.ix o2_ix ix_seq (EX.var ioP (pv 0)) EX.int) (EX.ix o2_ix ix_seq (EX.var ioP (pv 0)) EX.int)))) ioP (fun _ h => ps_set (i := 1) sc_can_be_game.nd rfl (Or.inl rfl) h))
    (SXs.one (SX.ret (EX.and (EX.cmp o2_in op_inP (EX.ix o2_ix ix_seq (EX.var ioP (pv 0)) EX.int) (EX.gref T.g_VERBS T.r_VERBS)) (EX.and (EX.callN (ok_can_be_name T) (hr.mono (by decide)) T.g_can_be_name T.k_can_be_name T.b_can_be_name pass_cx (AX.cons (EX.ix o2_ix ix_seq (EX.var ioP (pv 0)) EX.int) AX.nil)) (EX.one (EX.not (EX.var ioP (pv 1)))))))))))))
/-! can_begin -/
def g_can_begin : GS := (seqS (asgS (methE splitF (varE 0) (consA (cE (.str " ")) nilA)) (nameT 1))
    (seqS (ifS (boolE (callE 1 f_can_be_game (consA (varE 1) nilA))) (retS (cE (.bl true))) nopS)
    (seqS (ifS (andT (boolE (binE eqF (appE lenF (consA (varE 1) nilA)) (cE (.int 2)))) (andT (boolE (callE 1 f_is_name_value (consA (binE ixF (varE 1) (cE (.int 0))) nilA))) (boolE (callE 2 f_can_be_verb (consA (binE ixF (varE 1) (cE (.int 1))) (consA (appE tupF (consA (cE c_LEAVES) nilA)) nilA)))))) (retS (cE (.bl true))) nopS)
    (seqS (ifS (orT (boolE (binE ltF (appE lenF (consA (varE 1) nilA)) (cE (.int 2)))) (boolE (binE neF (binE ixF (varE 1) (cE (.int 0))) (cE c_FIX)))) (retS (cE (.bl false))) nopS)
    (seqS (ifS (boolE (binE eqF (appE lenF (consA (varE 1) nilA)) (cE (.int 2)))) (retS (callE 1 f_can_be_round (consA (binE ixF (varE 1) (cE (.int 1))) nilA))) nopS)
    (retS (andE (binE neF (binE ixF (varE 1) (cE (.int 1))) (cE (.str ""))) (andE (callE 1 f_can_be_round (consA (binE ixF (varE 1) (cE (.int 1))) nilA)) (callE 1 f_can_be_game (consA (slE (varE 1) (someO (cE (.int 2))) noO) nilA))))))))))
def f_can_begin := runP g_can_begin 1
theorem ok_can_begin (T : Tx K mg) : FnOk P w K mg base (L2.CX P w) 4 T.a_can_begin T.fd_can_begin ["text"] (spP K mg T.tabs 1 f_can_begin) :=
  pure_Ok T.F_can_begin sc_can_begin rfl rfl fun cdv A outer s H E hr => by
    have hu := hr.units
    exact ((SXs.cons (SX.set (EX.methS om_split PySem.F.plainAttrs_str PySem.F.slot_str_split PySem.F.type_str_split mt_split (EX.var ioP (pv 0)) (AX.cons EX.str AX.nil)) ioP (fun _ h => ps_set (i := 1) sc_can_begin.nd rfl (Or.inl rfl) h))
    (SXs.cons (SX.ifS (TX.val (EX.callN (ok_can_be_game T) (hr.mono (by decide)) T.g_can_be_game T.k_can_be_game T.b_can_be_game pass_cx (AX.cons (EX.var ioP (pv 1)) AX.nil))) (SXs.one (SX.ret EX.bl)) SXs.nil)
    (SXs.cons (SX.ifS (TX.w (WX.and (TX.cmp o2_eq (op_eqP hu) (EX.callB ol_len cr_lenP T.n_len boot_len' (AX.cons (EX.var ioP (pv 1)) AX.nil)) EX.int) (WX.and (TX.val (EX.callN (ok_is_name_value T) (hr.mono (by decide)) T.g_is_name_value T.k_is_name_value T.b_is_name_value pass_cx (AX.cons (EX.ix o2_ix ix_seq (EX.var ioP (pv 1)) EX.int) AX.nil))) (WX.and1 (TX.val (EX.callN (ok_can_be_verb T) (hr.mono (by decide)) T.g_can_be_verb T.k_can_be_verb T.b_can_be_verb pass_cx (AX.cons (EX.ix o2_ix ix_seq (EX.var ioP (pv 1)) EX.int) (AX.cons (EX.tup (AX.cons (EX.gstr T.g_LEAVES) AX.nil)) AX.nil)))))))) (SXs.one (SX.ret EX.bl)) SXs.nil)
    (SXs.cons (SX.ifS (TX.w (WX.or (TX.cmp (o2_ord _ _) op_ltP (EX.callB ol_len cr_lenP T.n_len boot_len' (AX.cons (EX.var ioP (pv 1)) AX.nil)) EX.int) (WX.or1 (TX.cmp o2_ne (op_neP hu) (EX.ix o2_ix ix_seq (EX.var ioP (pv 1)) EX.int) (EX.gstr T.g_FIX))))) (SXs.one (SX.ret EX.bl)) SXs.nil)
    (SXs.cons (SX.ifS (TX.cmp o2_eq (op_eqP hu) (EX.callB ol_len cr_lenP T.n_len boot_len' (AX.cons (EX.var ioP (pv 1)) AX.nil)) EX.int) (SXs.one (SX.ret (EX.callN (ok_can_be_round T) (hr.mono (by decide)) T.g_can_be_round T.k_can_be_round T.b_can_be_round pass_cx (AX.cons (EX.ix o2_ix ix_seq (EX.var ioP (pv 1)) EX.int) AX.nil)))) SXs.nil)
    (SXs.one (SX.ret (EX.and (EX.cmp o2_ne (op_neP hu) (EX.ix o2_ix ix_seq (EX.var ioP (pv 1)) EX.int) EX.str) (EX.and (EX.callN (ok_can_be_round T) (hr.mono (by decide)) T.g_can_be_round T.k_can_be_round T.b_can_be_round pass_cx (AX.cons (EX.ix o2_ix ix_seq (EX.var ioP (pv 1)) EX.int) AX.nil)) (EX.one (EX.callN (ok_can_be_game T) (hr.mono (by decide)) T.g_can_be_game T.k_can_be_game T.b_can_be_game pass_cx (AX.cons (EX.slice (EX.var ioP (pv 1)) (OX.some EX.int) OX.none) AX.nil)))))))))))))
/-! event_in -/
def g_event_in : GS := (retS (callE 1 f_event_by (consA (methE splitF (varE 0) (consA (cE (.str " ")) nilA)) nilA)))
def f_event_in := runP g_event_in 0
theorem ok_event_in (T : Tx K mg) : FnOk P w K mg base (L2.CX P w) 5 T.a_event_in T.fd_event_in ["text"] (spP K mg T.tabs 1 f_event_in) :=
  pure_Ok T.F_event_in sc_event_in rfl rfl fun cdv A outer s H E hr => by
    have hu := hr.units
    exact ((SXs.one (SX.ret (EX.callN (ok_event_by T) (hr.mono (by decide)) T.g_event_by T.k_event_by T.b_event_by pass_cx (AX.cons (EX.methS om_split PySem.F.plainAttrs_str PySem.F.slot_str_split PySem.F.type_str_split mt_split (EX.var ioP (pv 0)) (AX.cons EX.str AX.nil)) AX.nil)))))
/-! unread_at -/
def g_unread_at : GS := (seqS (forS (range1I (consA (appE lenF (consA (varE 0) nilA)) nilA)) (nameT 1) (ifS (notT (boolE (callE 1 f_can_begin (consA (slE (varE 0) noO (someO (binE addF (varE 1) (cE (.int 1))))) nilA)))) (retS (varE 1)) nopS))
    (retS (appE lenF (consA (varE 0) nilA))))
def f_unread_at := runP g_unread_at 1
theorem ok_unread_at (T : Tx K mg) : FnOk P w K mg base (L2.CX P w) 5 T.a_unread_at T.fd_unread_at ["text"] (spP K mg T.tabs 1 f_unread_at) :=
  pure_Ok T.F_unread_at sc_unread_at rfl rfl fun cdv A outer s H E hr => by
    have hu := hr.units
    exact ((SXs.cons (SX.for own_cx rfl (IX.range1 (AX.cons (EX.callB ol_len cr_lenP T.n_len boot_len' (AX.cons (EX.var ioP (pv 0)) AX.nil)) AX.nil) T.n_range) (TGX.name ioP (pg_name (i := 1) sc_unread_at.nd rfl (Or.inl rfl))) (SXs.one (SX.ifS (TX.not (TX.val (EX.callN (ok_can_begin T) (hr.mono (by decide)) T.g_can_begin T.k_can_begin T.b_can_begin pass_cx (AX.cons (EX.slice (EX.var ioP (pv 0)) OX.none (OX.some (EX.bin o2_add op_addP (EX.var ioP (pv 1)) EX.int))) AX.nil)))) (SXs.one (SX.ret (EX.var ioP (pv 1)))) SXs.nil)))
    (SXs.one (SX.ret (EX.callB ol_len cr_lenP T.n_len boot_len' (AX.cons (EX.var ioP (pv 0)) AX.nil))))))
/-! event_text -/
def g_event_text : GS := (seqS (ifS (notT (boolE (callE 1 f_is_event_form (consA (varE 0) nilA)))) (raiseS "InvalidEvent" "value" (varE 0)) nopS)
    (retS (callE 1 f_event_told (consA (varE 0) nilA))))
def f_event_text := runP g_event_text 0
theorem ok_event_text (T : Tx K mg) : FnOk P w K mg base (L2.CX P w) 4 T.a_event_text T.fd_event_text ["event"] (spP K mg T.tabs 1 f_event_text) :=
  pure_Ok T.F_event_text sc_event_text rfl rfl fun cdv A outer s H E hr => by
    have hu := hr.units
    exact ((SXs.cons (SX.ifS (TX.not (TX.val (EX.callN (ok_is_event_form T) (hr.mono (by decide)) T.g_is_event_form T.k_is_event_form T.b_is_event_form pass_cx (AX.cons (EX.var ioP (pv 0)) AX.nil)))) (SXs.one (SX.raise rfl takes_cx T.x_InvalidEvent T.xf_InvalidEvent T.xi_InvalidEvent T.xt (ok_init T) (hr.mono (by decide)) T.xb T.xm_InvalidEvent (EX.var ioP (pv 0)))) SXs.nil)
    (SXs.one (SX.ret (EX.callN (ok_event_told T) (hr.mono (by decide)) T.g_event_told T.k_event_told T.b_event_told pass_cx (AX.cons (EX.var ioP (pv 0)) AX.nil))))))
/-! event_of_text -/
def g_event_of_text : GS := (seqS (ifS (notT (boolE (unE (isiF "str") (varE 0)))) (raiseS "InvalidText" "value" (varE 0)) nopS)
    (seqS (asgS (callE 1 f_event_in (consA (varE 0) nilA)) (nameT 1))
    (seqS (ifS (boolE (binE isF (varE 1) (cE .non))) (raiseS "UnreadEvent" "position" (callE 1 f_unread_at (consA (varE 0) nilA))) nopS)
    (retS (varE 1)))))
def f_event_of_text := runP g_event_of_text 1
theorem ok_event_of_text (T : Tx K mg) : FnOk P w K mg base (L2.CX P w) 6 T.a_event_of_text T.fd_event_of_text ["text"] (spP K mg T.tabs 1 f_event_of_text) :=
  pure_Ok T.F_event_of_text sc_event_of_text rfl rfl fun cdv A outer s H E hr => by
    have hu := hr.units
    exact ((SXs.cons (SX.ifS (TX.not (TX.val (EX.isi T.n_isinstance T.n_str boot_str' (EX.var ioP (pv 0))))) (SXs.one (SX.raise rfl takes_cx T.x_InvalidText T.xf_InvalidText T.xi_InvalidText T.xt (ok_init T) (hr.mono (by decide)) T.xb T.xm_InvalidText (EX.var ioP (pv 0)))) SXs.nil)
    (SXs.cons (SX.set (EX.callN (ok_event_in T) (hr.mono (by decide)) T.g_event_in T.k_event_in T.b_event_in pass_cx (AX.cons (EX.var ioP (pv 0)) AX.nil)) ioP (fun _ h => ps_set (i := 1) sc_event_of_text.nd rfl (Or.inl rfl) h))
    (SXs.cons (SX.ifS (TX.cmp o2_is op_isP (EX.var ioP (pv 1)) EX.non) (SXs.one (SX.raise rfl takes_cx T.x_UnreadEvent T.xf_UnreadEvent T.xi_UnreadEvent T.xt_UnreadEvent (ok_init_UnreadEvent T) (hr.mono (by decide)) T.xb_UnreadEvent T.xm_UnreadEvent (EX.callN (ok_unread_at T) (hr.mono (by decide)) T.g_unread_at T.k_unread_at T.b_unread_at pass_cx (AX.cons (EX.var ioP (pv 0)) AX.nil)))) SXs.nil)
    (SXs.one (SX.ret (EX.var ioP (pv 1))))))))
/-! is_event_text -/
def g_is_event_text : GS := (retS (andE (unE (isiF "str") (varE 0)) (binE isNotF (callE 1 f_event_in (consA (varE 0) nilA)) (cE .non))))
def f_is_event_text := runP g_is_event_text 0
theorem ok_is_event_text (T : Tx K mg) : FnOk P w K mg base (L2.CX P w) 6 T.a_is_event_text T.fd_is_event_text ["value"] (spP K mg T.tabs 1 f_is_event_text) :=
  pure_Ok T.F_is_event_text sc_is_event_text rfl rfl fun cdv A outer s H E hr => by
    have hu := hr.units
    exact ((SXs.one (SX.ret (EX.and (EX.isi T.n_isinstance T.n_str boot_str' (EX.var ioP (pv 0))) (EX.one (EX.cmp o2_isNot op_isNotP (EX.callN (ok_event_in T) (hr.mono (by decide)) T.g_event_in T.k_event_in T.b_event_in pass_cx (AX.cons (EX.var ioP (pv 0)) AX.nil)) EX.non))))))
/-! _law_pot -/
def g_l_pot : GE (List D) := (seqL (asgS (ifE (boolE (binE ltF (varE 1) (appE lenF (consA (varE 0) nilA)))) (appE absF (consA (binE ixF (varE 0) (varE 1)) nilA)) (binE addF (binE mulF (cE (.int 4129)) (varE 1)) (cE (.int 2405)))) (nameT 2)) (lstF (consA (appE max2F (consA (cE (.int 0)) (consA (binE subF (varE 2) (binE powF (cE (.int 10)) (cE (.int 18)))) nilA))) (consA (binE addF (binE modF (appE intF (consA (binE addF (binE addF (binE mulF (binE modF (appE intF (consA (varE 2) nilA)) (cE (.int 2147483549))) (cE (.int 42277))) (binE mulF (cE (.int 4129)) (varE 1))) (cE (.int 2405))) nilA)) (cE (.int 2147483563))) (cE (.int 1))) nilA))))
def f_l_pot := runL g_l_pot 1
theorem ok_l_pot (T : Tx K mg) : FnG P w K mg base 1 T.a_l_pot T.fd_l_pot ["script", "k"] (spL K T.tabs 2 f_l_pot) :=
  pure_L T.F_l_pot sc_l_pot rfl rfl fun cdv A outer s H E hr hgd => by
    have hu := hr.units
    have hur := room100 hr
    exact ((SXL.cons (SX.set (EX.ifE (TX.cmp (o2_ord _ _) op_ltP (EX.var ioP (pv 1)) (EX.callB ol_len cr_lenP T.n_len boot_len' (AX.cons (EX.var ioP (pv 0)) AX.nil))) (EX.callB ol_abs call_abs T.n_abs boot_abs' (AX.cons (EX.ix o2_ix ix_seq (EX.var ioP (pv 0)) (EX.var ioP (pv 1))) AX.nil)) (EX.bin o2_add op_addP (EX.bin o2_mul op_mulP EX.int (EX.var ioP (pv 1))) EX.int)) ioP (fun _ h => ps_set (i := 2) sc_l_pot.nd rfl (Or.inl rfl) h))
    (SXL.ret (LX.lst (AX.cons (EX.callB ol_max2 (call_max2 rfl) T.n_max boot_max' (AX.cons EX.int (AX.cons (EX.bin o2_sub op_sub (EX.var ioP (pv 2)) (EX.bin o2_pow op_pow EX.int EX.int)) AX.nil))) (AX.cons (EX.bin o2_add op_addP (EX.bin o2_mod op_mod (EX.callTy ol_int cr_intP T.n_int boot_int' (AX.cons (EX.bin o2_add op_addP (EX.bin o2_add op_addP (EX.bin o2_mul op_mulP (EX.bin o2_mod op_mod (EX.callTy ol_int cr_intP T.n_int boot_int' (AX.cons (EX.var ioP (pv 2)) AX.nil)) EX.int) EX.int) (EX.bin o2_mul op_mulP EX.int (EX.var ioP (pv 1)))) EX.int) AX.nil)) EX.int) EX.int) AX.nil))))))
/-! _law_draw -/
def g_l_draw : GS := (seqS (ifS (boolE (binE gtF (ixOwnE 0 (cE (.int 0))) (cE (.int 0)))) (seqS (asgS (appE divmodF (consA (ixOwnE 0 (cE (.int 0))) (consA (varE 1) nilA))) (tupT (consT (ownIxT 0 0) (consT (nameT 2) nilT))))
    (retS (varE 2))) nopS)
    (seqS (asgS (binE modF (appE intF (consA (binE addF (binE mulF (ixOwnE 0 (cE (.int 1))) (cE (.int 48255))) (cE (.int 2405))) nilA)) (cE (.int 2147483563))) (ownIxT 0 1))
    (retS (binE modF (appE intF (consA (binE fdivF (binE modF (appE intF (consA (binE mulF (ixOwnE 0 (cE (.int 1))) (ixOwnE 0 (cE (.int 1)))) nilA)) (cE (.int 2147483549))) (cE (.int 29))) nilA)) (varE 1)))))
def f_l_draw := runIO g_l_draw 1
theorem ok_l_draw (T : Tx K mg) : FnG P w K mg base 1 T.a_l_draw T.fd_l_draw ["pot", "many"] (spIO K mg T.tabs 2 f_l_draw) :=
  io_G T.F_l_draw sc_l_draw rfl rfl fun cdv A outer s H E a hr hgd => by
    have hu := hr.units
    have hur := room100 hr
    exact ((SXs.cons (SX.ifS (TX.cmp (o2_ord _ _) op_gtP (EX.ixOwn (pv 0) EX.int) EX.int) (SXs.cons (SX.asg (EX.callB ol_divmod call_divmod T.n_divmod boot_divmod' (AX.cons (EX.ixOwn (pv 0) EX.int) (AX.cons (EX.var (ioX (by decide)) (pv 1)) AX.nil))) (TGX.tup rfl (TGXs.cons (TGX.ownIx (pv 0) pe_int) (TGXs.cons (TGX.name (ioX (by decide)) (pg_name (i := 2) sc_l_draw.nd rfl (Or.inl rfl))) TGXs.nil)) (consT_len (consT_len nilT_len))))
    (SXs.one (SX.ret (EX.var (ioX (by decide)) (pv 2))))) SXs.nil)
    (SXs.cons (SX.asg (EX.bin o2_mod op_mod (EX.callTy ol_int cr_intP T.n_int boot_int' (AX.cons (EX.bin o2_add op_addP (EX.bin o2_mul op_mulP (EX.ixOwn (pv 0) EX.int) EX.int) EX.int) AX.nil)) EX.int) (TGX.ownIx (pv 0) pe_int))
    (SXs.one (SX.ret (EX.bin o2_mod op_mod (EX.callTy ol_int cr_intP T.n_int boot_int' (AX.cons (EX.bin o2_fdiv op_fdiv (EX.bin o2_mod op_mod (EX.callTy ol_int cr_intP T.n_int boot_int' (AX.cons (EX.bin o2_mul op_mulP (EX.ixOwn (pv 0) EX.int) (EX.ixOwn (pv 0) EX.int)) AX.nil)) EX.int) EX.int) AX.nil)) (EX.var (ioX (by decide)) (pv 1))))))))
/-! _law_pick -/
def g_l_pick : GS := (retS (binE ixF (varE 1) (callIO 0 2 f_l_draw (consA (appE lenF (consA (varE 1) nilA)) nilA))))
def f_l_pick := runIO g_l_pick 0
theorem ok_l_pick (T : Tx K mg) : FnG P w K mg base 2 T.a_l_pick T.fd_l_pick ["pot", "some"] (spIO K mg T.tabs 2 f_l_pick) :=
  io_G T.F_l_pick sc_l_pick rfl rfl fun cdv A outer s H E a hr hgd => by
    have hu := hr.units
    have hur := room100 hr
    exact ((SXs.one (SX.ret (EX.ix o2_ix ix_seq (EX.var (ioX (by decide)) (pv 1)) (EX.callIO (ok_l_draw T) (hr.mono (by decide)) hgd T.g_l_draw T.k_l_draw T.b_l_draw pass_cx (pv 0) (AX.cons (EX.callB ol_len cr_lenP T.n_len boot_len' (AX.cons (EX.var (ioX (by decide)) (pv 1)) AX.nil)) AX.nil))))))
/-! _law_is_name -/
def g_l_is_name : GS := (retS (andE (unE (isiF "str") (varE 0)) (andE (chainE leF leF (cE (.int 1)) (appE lenF (consA (varE 0) nilA)) (cE (.int 12))) (binE eqF (lstE (lcE [1] (seqI (varE 0)) (nameT 1) (notT (boolE (chainE leF leF (cE (.str "a")) (varE 1) (cE (.str "z"))))) (varE 1))) (lstE (lstF nilA))))))
def f_l_is_name := runP g_l_is_name 1
theorem ok_l_is_name (T : Tx K mg) : FnG P w K mg base 1 T.a_l_is_name T.fd_l_is_name ["text"] (spP K mg T.tabs 1 f_l_is_name) :=
  pure_G T.F_l_is_name sc_l_is_name rfl rfl fun cdv A outer s H E hr hgd => by
    have hu := hr.units
    have hur := room100 hr
    exact ((SXs.one (SX.ret (EX.and (EX.isi T.n_isinstance T.n_str boot_str' (EX.var ioP (pv 0))) (EX.and (EX.chain (o2_ord _ _) op_leP (o2_ord _ _) op_leP EX.int (EX.callB ol_len cr_lenP T.n_len boot_len' (AX.cons (EX.var ioP (pv 0)) AX.nil)) EX.int) (EX.one (EX.cmp o2_eq (op_eqP hu) (LX.ex (LX.lc (own := [("sign", 1)]) rfl sc_l_is_name.nd (IX.seq (EX.var ioP (pv 0))) (blkOk_by (N := n_l_is_name) (sc := (defScope s_l_is_name)) (by decide +kernel)) ioPs (by decide) (fun _ _ _ _ _ => (TGX.name ioP (pg_name (i := 1) sc_l_is_name.nd rfl (by first | exact Or.inl rfl | exact Or.inr rfl)))) (fun _ _ _ _ _ => (TXS.one (TX.not (TX.chain (o2_ord _ _) op_leP (o2_ord _ _) op_leP EX.str (EX.var ioP (pv 1)) EX.str)))) (fun _ _ _ _ _ => (EX.var ioP (pv 1))))) (LX.ex (LX.lst AX.nil)))))))))
/-! _law_is_event -/
def g_l_is_event : GS := (seqS (ifS (orT (notT (boolE (unE (isiF "tuple") (varE 0)))) (orT (boolE (binE eqF (varE 0) (appE tupF nilA))) (notT (boolE (unE (isiF "str") (binE ixF (varE 0) (cE (.int 0)))))))) (retS (cE (.bl false))) nopS)
    (seqS (ifS (boolE (binE eqF (binE ixF (varE 0) (cE (.int 0))) (cE (.str "leave")))) (retS (andE (binE eqF (appE lenF (consA (varE 0) nilA)) (cE (.int 2))) (callE 1 f_l_is_name (consA (binE ixF (varE 0) (cE (.int 1))) nilA)))) nopS)
    (seqS (ifS (orT (boolE (binE notInF (binE ixF (varE 0) (cE (.int 0))) (appE tupF (consA (cE (.str "told")) (consA (cE (.str "fix")) nilA))))) (boolE (binE neF (appE lenF (consA (varE 0) nilA)) (ifE (boolE (binE eqF (binE ixF (varE 0) (cE (.int 0))) (cE (.str "told")))) (cE (.int 4)) (cE (.int 5)))))) (retS (cE (.bl false))) nopS)
    (seqS (asgS (ifE (boolE (binE eqF (binE ixF (varE 0) (cE (.int 0))) (cE (.str "fix")))) (binE ixF (varE 0) (cE (.int 1))) (cE (.int 0))) (nameT 1))
    (seqS (forS (seqI (appE tupF (consA (appE tupF (consA (varE 1) (consA (cE (.int 99)) nilA))) (consA (appE tupF (consA (binE ixF (varE 0) (unE negF (cE (.int 1)))) (consA (cE (.int 2)) nilA))) nilA)))) (tupT (consT (nameT 2) (consT (nameT 3) nilT))) (ifS (orT (notT (boolE (unE (isiF "int") (varE 2)))) (orT (boolE (unE (isiF "bool") (varE 2))) (notT (boolE (chainE leF leF (cE (.int 0)) (varE 2) (varE 3)))))) (retS (cE (.bl false))) nopS))
    (retS (andE (callE 1 f_l_is_name (consA (binE ixF (varE 0) (unE negF (cE (.int 3)))) nilA)) (andE (callE 1 f_l_is_name (consA (binE ixF (varE 0) (unE negF (cE (.int 2)))) nilA)) (binE neF (binE ixF (varE 0) (unE negF (cE (.int 3)))) (binE ixF (varE 0) (unE negF (cE (.int 2)))))))))))))
def f_l_is_event := runP g_l_is_event 3
theorem ok_l_is_event (T : Tx K mg) : FnG P w K mg base 2 T.a_l_is_event T.fd_l_is_event ["value"] (spP K mg T.tabs 1 f_l_is_event) :=
  pure_G T.F_l_is_event sc_l_is_event rfl rfl fun cdv A outer s H E hr hgd => by
    have hu := hr.units
    have hur := room100 hr
    exact ((SXs.cons (SX.ifS (TX.w (WX.or (TX.not (TX.val (EX.isi T.n_isinstance T.n_tuple boot_tuple' (EX.var ioP (pv 0))))) (WX.or (TX.cmp o2_eq (op_eqP hu) (EX.var ioP (pv 0)) (EX.tup AX.nil)) (WX.or1 (TX.not (TX.val (EX.isi T.n_isinstance T.n_str boot_str' (EX.ix o2_ix ix_seq (EX.var ioP (pv 0)) EX.int)))))))) (SXs.one (SX.ret EX.bl)) SXs.nil)
    (SXs.cons (SX.ifS (TX.cmp o2_eq (op_eqP hu) (EX.ix o2_ix ix_seq (EX.var ioP (pv 0)) EX.int) EX.str) (SXs.one (SX.ret (EX.and (EX.cmp o2_eq (op_eqP hu) (EX.callB ol_len cr_lenP T.n_len boot_len' (AX.cons (EX.var ioP (pv 0)) AX.nil)) EX.int) (EX.one (EX.call (ok_l_is_name T) (hr.mono (by decide)) hgd T.g_l_is_name T.k_l_is_name T.b_l_is_name pass_cx (AX.cons (EX.ix o2_ix ix_seq (EX.var ioP (pv 0)) EX.int) AX.nil)))))) SXs.nil)
    (SXs.cons (SX.ifS (TX.w (WX.or (TX.cmp o2_notIn op_notInP (EX.ix o2_ix ix_seq (EX.var ioP (pv 0)) EX.int) (EX.tup (AX.cons EX.str (AX.cons EX.str AX.nil)))) (WX.or1 (TX.cmp o2_ne (op_neP hu) (EX.callB ol_len cr_lenP T.n_len boot_len' (AX.cons (EX.var ioP (pv 0)) AX.nil)) (EX.ifE (TX.cmp o2_eq (op_eqP hu) (EX.ix o2_ix ix_seq (EX.var ioP (pv 0)) EX.int) EX.str) EX.int EX.int))))) (SXs.one (SX.ret EX.bl)) SXs.nil)
    (SXs.cons (SX.set (EX.ifE (TX.cmp o2_eq (op_eqP hu) (EX.ix o2_ix ix_seq (EX.var ioP (pv 0)) EX.int) EX.str) (EX.ix o2_ix ix_seq (EX.var ioP (pv 0)) EX.int) EX.int) ioP (fun _ h => ps_set (i := 1) sc_l_is_event.nd rfl (Or.inl rfl) h))
    (SXs.cons (SX.for own_cx rfl (IX.seq (EX.tup (AX.cons (EX.tup (AX.cons (EX.var ioP (pv 1)) (AX.cons EX.int AX.nil))) (AX.cons (EX.tup (AX.cons (EX.ix o2_ix ix_seq (EX.var ioP (pv 0)) (EX.un o1_neg un_neg EX.int)) (AX.cons EX.int AX.nil))) AX.nil)))) (TGX.tup rfl (TGXs.cons (TGX.name ioP (pg_name (i := 2) sc_l_is_event.nd rfl (Or.inl rfl))) (TGXs.cons (TGX.name ioP (pg_name (i := 3) sc_l_is_event.nd rfl (Or.inl rfl))) TGXs.nil)) (consT_len (consT_len nilT_len))) (SXs.one (SX.ifS (TX.w (WX.or (TX.not (TX.val (EX.isi T.n_isinstance T.n_int boot_int' (EX.var ioP (pv 2))))) (WX.or (TX.val (EX.isi T.n_isinstance T.n_bool boot_bool' (EX.var ioP (pv 2)))) (WX.or1 (TX.not (TX.chain (o2_ord _ _) op_leP (o2_ord _ _) op_leP EX.int (EX.var ioP (pv 2)) (EX.var ioP (pv 3)))))))) (SXs.one (SX.ret EX.bl)) SXs.nil)))
    (SXs.one (SX.ret (EX.and (EX.call (ok_l_is_name T) (hr.mono (by decide)) hgd T.g_l_is_name T.k_l_is_name T.b_l_is_name pass_cx (AX.cons (EX.ix o2_ix ix_seq (EX.var ioP (pv 0)) (EX.un o1_neg un_neg EX.int)) AX.nil)) (EX.and (EX.call (ok_l_is_name T) (hr.mono (by decide)) hgd T.g_l_is_name T.k_l_is_name T.b_l_is_name pass_cx (AX.cons (EX.ix o2_ix ix_seq (EX.var ioP (pv 0)) (EX.un o1_neg un_neg EX.int)) AX.nil)) (EX.one (EX.cmp o2_ne (op_neP hu) (EX.ix o2_ix ix_seq (EX.var ioP (pv 0)) (EX.un o1_neg un_neg EX.int)) (EX.ix o2_ix ix_seq (EX.var ioP (pv 0)) (EX.un o1_neg un_neg EX.int))))))))))))))
/-! _law_text -/
def g_l_text : GS := (seqS (ifS (boolE (binE eqF (binE ixF (varE 0) (cE (.int 0))) (cE (.str "leave")))) (retS (binE addF (binE ixF (varE 0) (cE (.int 1))) (cE (.str " leaves")))) nopS)
    (seqS (asgS (binE ixF (lstE (lstF (consA (cE (.str "yields")) (consA (cE (.str "draws")) (consA (cE (.str "beats")) nilA))))) (binE ixF (varE 0) (unE negF (cE (.int 1))))) (nameT 1))
    (retS (binE addF (binE addF (binE addF (binE addF (binE addF (ifE (boolE (binE eqF (binE ixF (varE 0) (cE (.int 0))) (cE (.str "fix")))) (binE addF (binE addF (cE (.str "fix ")) (appE strIF (consA (binE ixF (varE 0) (cE (.int 1))) nilA))) (cE (.str " "))) (cE (.str ""))) (binE ixF (varE 0) (unE negF (cE (.int 3))))) (cE (.str " "))) (varE 1)) (cE (.str " "))) (binE ixF (varE 0) (unE negF (cE (.int 2))))))))
def f_l_text := runP g_l_text 1
theorem ok_l_text (T : Tx K mg) : FnG P w K mg base 1 T.a_l_text T.fd_l_text ["event"] (spP K mg T.tabs 1 f_l_text) :=
  pure_G T.F_l_text sc_l_text rfl rfl fun cdv A outer s H E hr hgd => by
    have hu := hr.units
    have hur := room100 hr
    exact ((SXs.cons (SX.ifS (TX.cmp o2_eq (op_eqP hu) (EX.ix o2_ix ix_seq (EX.var ioP (pv 0)) EX.int) EX.str) (SXs.one (SX.ret (EX.bin o2_add op_addP (EX.ix o2_ix ix_seq (EX.var ioP (pv 0)) EX.int) EX.str))) SXs.nil)
    (SXs.cons (SX.set (EX.ix o2_ix ix_seq (LX.ex (LX.lst (AX.cons EX.str (AX.cons EX.str (AX.cons EX.str AX.nil))))) (EX.ix o2_ix ix_seq (EX.var ioP (pv 0)) (EX.un o1_neg un_neg EX.int))) ioP (fun _ h => ps_set (i := 1) sc_l_text.nd rfl (Or.inl rfl) h))
    (SXs.one (SX.ret (EX.bin o2_add op_addP (EX.bin o2_add op_addP (EX.bin o2_add op_addP (EX.bin o2_add op_addP (EX.bin o2_add op_addP (EX.ifE (TX.cmp o2_eq (op_eqP hu) (EX.ix o2_ix ix_seq (EX.var ioP (pv 0)) EX.int) EX.str) (EX.bin o2_add op_addP (EX.bin o2_add op_addP EX.str (EX.callTy ol_str call_str_int T.n_str boot_str' (AX.cons (EX.ix o2_ix ix_seq (EX.var ioP (pv 0)) EX.int) AX.nil))) EX.str) EX.str) (EX.ix o2_ix ix_seq (EX.var ioP (pv 0)) (EX.un o1_neg un_neg EX.int))) EX.str) (EX.var ioP (pv 1))) EX.str) (EX.ix o2_ix ix_seq (EX.var ioP (pv 0)) (EX.un o1_neg un_neg EX.int))))))))
/-! _law_event -/
def g_l_event : GS := (seqS (par3S 1 2 3 (methE splitF (varE 0) (consA (cE (.str " ")) nilA)) (cE (.str "told")) (appE tupF nilA))
    (seqS (ifS (andT (boolE (binE eqF (appE lenF (consA (varE 1) nilA)) (cE (.int 2)))) (boolE (binE eqF (binE ixF (varE 1) (cE (.int 1))) (cE (.str "leaves"))))) (retS (ifE (boolE (callE 1 f_l_is_name (consA (binE ixF (varE 1) (cE (.int 0))) nilA))) (appE tupF (consA (cE (.str "leave")) (consA (binE ixF (varE 1) (cE (.int 0))) nilA))) (cE .non))) nopS)
    (seqS (ifS (andT (boolE (binE eqF (appE lenF (consA (varE 1) nilA)) (cE (.int 5)))) (boolE (binE eqF (binE ixF (varE 1) (cE (.int 0))) (cE (.str "fix"))))) (seqS (ifS (boolE (binE notInF (binE ixF (varE 1) (cE (.int 1))) (lstE (lcE [5] (range1I (consA (cE (.int 100)) nilA)) (nameT 5) yesT (appE strIF (consA (varE 5) nilA)))))) (retS (cE .non)) nopS)
    (par3S 1 2 3 (slE (varE 1) (someO (cE (.int 2))) noO) (cE (.str "fix")) (appE tupF (consA (appE intF (consA (binE ixF (varE 1) (cE (.int 1))) nilA)) nilA)))) nopS)
    (seqS (ifS (orT (boolE (binE neF (appE lenF (consA (varE 1) nilA)) (cE (.int 3)))) (boolE (binE notInF (binE ixF (varE 1) (cE (.int 1))) (appE tupF (consA (cE (.str "beats")) (consA (cE (.str "draws")) (consA (cE (.str "yields")) nilA))))))) (retS (cE .non)) nopS)
    (seqS (asgS (binE addF (binE addF (appE tupF (consA (varE 2) nilA)) (varE 3)) (appE tupF (consA (binE ixF (varE 1) (cE (.int 0))) (consA (binE ixF (varE 1) (cE (.int 2))) (consA (unE (dictF [("beats", 2), ("draws", 1), ("yields", 0)]) (binE ixF (varE 1) (cE (.int 1)))) nilA))))) (nameT 4))
    (retS (ifE (boolE (callE 1 f_l_is_event (consA (varE 4) nilA))) (varE 4) (cE .non))))))))
def f_l_event := runP g_l_event 5
theorem ok_l_event (T : Tx K mg) : FnG P w K mg base 3 T.a_l_event T.fd_l_event ["text"] (spP K mg T.tabs 1 f_l_event) :=
  pure_G T.F_l_event sc_l_event rfl rfl fun cdv A outer s H E hr hgd => by
    have hu := hr.units
    have hur := room100 hr
    exact ((SXs.cons (SX.par3 ioP ioP ioP (fun _ h => ps_par3 (i := 1) (j := 2) (l := 3) rfl sc_l_event.nd rfl rfl rfl (by decide) (by decide) (by decide) rfl rfl rfl h rfl) (EX.methS om_split PySem.F.plainAttrs_str PySem.F.slot_str_split PySem.F.type_str_split mt_split (EX.var ioP (pv 0)) (AX.cons EX.str AX.nil)) EX.str (EX.tup AX.nil))
    (SXs.cons (SX.ifS (TX.w (WX.and (TX.cmp o2_eq (op_eqP hu) (EX.callB ol_len cr_lenP T.n_len boot_len' (AX.cons (EX.var ioP (pv 1)) AX.nil)) EX.int) (WX.and1 (TX.cmp o2_eq (op_eqP hu) (EX.ix o2_ix ix_seq (EX.var ioP (pv 1)) EX.int) EX.str)))) (SXs.one (SX.ret (EX.ifE (TX.val (EX.call (ok_l_is_name T) (hr.mono (by decide)) hgd T.g_l_is_name T.k_l_is_name T.b_l_is_name pass_cx (AX.cons (EX.ix o2_ix ix_seq (EX.var ioP (pv 1)) EX.int) AX.nil))) (EX.tup (AX.cons EX.str (AX.cons (EX.ix o2_ix ix_seq (EX.var ioP (pv 1)) EX.int) AX.nil))) EX.non))) SXs.nil)
    (SXs.cons (SX.ifS (TX.w (WX.and (TX.cmp o2_eq (op_eqP hu) (EX.callB ol_len cr_lenP T.n_len boot_len' (AX.cons (EX.var ioP (pv 1)) AX.nil)) EX.int) (WX.and1 (TX.cmp o2_eq (op_eqP hu) (EX.ix o2_ix ix_seq (EX.var ioP (pv 1)) EX.int) EX.str)))) (SXs.cons (SX.ifS (TX.cmp o2_notIn op_notInP (EX.ix o2_ix ix_seq (EX.var ioP (pv 1)) EX.int) (LX.ex (LX.lc (own := [("one", 5)]) rfl sc_l_event.nd (IX.range1 (AX.cons EX.int AX.nil) T.n_range) (blkOk_by (N := n_l_event) (sc := (defScope s_l_event)) (by decide +kernel)) ioPs (by decide) (fun _ _ _ _ _ => (TGX.name ioP (pg_name (i := 5) sc_l_event.nd rfl (by first | exact Or.inl rfl | exact Or.inr rfl)))) (fun _ _ _ _ _ => TXS.nil) (fun _ _ _ _ _ => (EX.callTy ol_str call_str_int T.n_str boot_str' (AX.cons (EX.var ioP (pv 5)) AX.nil)))))) (SXs.one (SX.ret EX.non)) SXs.nil)
    (SXs.one (SX.par3 ioP ioP ioP (fun _ h => ps_par3 (i := 1) (j := 2) (l := 3) rfl sc_l_event.nd rfl rfl rfl (by decide) (by decide) (by decide) rfl rfl rfl h rfl) (EX.slice (EX.var ioP (pv 1)) (OX.some EX.int) OX.none) EX.str (EX.tup (AX.cons (EX.callTy ol_int cr_intP T.n_int boot_int' (AX.cons (EX.ix o2_ix ix_seq (EX.var ioP (pv 1)) EX.int) AX.nil)) AX.nil))))) SXs.nil)
    (SXs.cons (SX.ifS (TX.w (WX.or (TX.cmp o2_ne (op_neP hu) (EX.callB ol_len cr_lenP T.n_len boot_len' (AX.cons (EX.var ioP (pv 1)) AX.nil)) EX.int) (WX.or1 (TX.cmp o2_notIn op_notInP (EX.ix o2_ix ix_seq (EX.var ioP (pv 1)) EX.int) (EX.tup (AX.cons EX.str (AX.cons EX.str (AX.cons EX.str AX.nil)))))))) (SXs.one (SX.ret EX.non)) SXs.nil)
    (SXs.cons (SX.set (EX.bin o2_add op_addP (EX.bin o2_add op_addP (EX.tup (AX.cons (EX.var ioP (pv 2)) AX.nil)) (EX.var ioP (pv 3))) (EX.tup (AX.cons (EX.ix o2_ix ix_seq (EX.var ioP (pv 1)) EX.int) (AX.cons (EX.ix o2_ix ix_seq (EX.var ioP (pv 1)) EX.int) (AX.cons (EX.dictIx (kvs := [("beats", 2), ("draws", 1), ("yields", 0)]) hu (pps_cons pe_str pe_int (pps_cons pe_str pe_int (pps_cons pe_str pe_int pps_nil))) (by decide) rfl rfl (List.cons_ne_nil _ _) (by decide) (EX.ix o2_ix ix_seq (EX.var ioP (pv 1)) EX.int)) AX.nil))))) ioP (fun _ h => ps_set (i := 4) sc_l_event.nd rfl (Or.inl rfl) h))
    (SXs.one (SX.ret (EX.ifE (TX.val (EX.call (ok_l_is_event T) (hr.mono (by decide)) hgd T.g_l_is_event T.k_l_is_event T.b_l_is_event pass_cx (AX.cons (EX.var ioP (pv 4)) AX.nil))) (EX.var ioP (pv 4)) EX.non)))))))))
/-! _law_can_be_told -/
def g_l_can_be_told : GS := (seqS (ifS (orT (boolE (binE gtF (appE lenF (consA (varE 0) nilA)) (cE (.int 3)))) (orT (andT (boolE (binE neF (binE ixF (varE 0) (cE (.int 0))) (cE (.str "")))) (notT (boolE (callE 1 f_l_is_name (consA (binE ixF (varE 0) (cE (.int 0))) nilA))))) (andT (boolE (binE eqF (binE ixF (varE 0) (cE (.int 0))) (cE (.str "")))) (boolE (binE gtF (appE lenF (consA (varE 0) nilA)) (cE (.int 1))))))) (retS (cE (.bl false))) nopS)
    (seqS (ifS (boolE (binE eqF (appE lenF (consA (varE 0) nilA)) (cE (.int 1)))) (retS (cE (.bl true))) nopS)
    (seqS (ifS (boolE (binE eqF (appE lenF (consA (varE 0) nilA)) (cE (.int 2)))) (retS (binE neF (lstE (lcE [2] (seqI (varE 1)) (nameT 2) (boolE (binE eqF (slE (varE 2) noO (someO (appE lenF (consA (binE ixF (varE 0) (cE (.int 1))) nilA)))) (binE ixF (varE 0) (cE (.int 1))))) (varE 2))) (lstE (lstF nilA)))) nopS)
    (seqS (ifS (orT (boolE (binE notInF (binE ixF (varE 0) (cE (.int 1))) (varE 1))) (boolE (binE eqF (binE ixF (varE 0) (cE (.int 1))) (cE (.str "leaves"))))) (retS (cE (.bl false))) nopS)
    (seqS (ifS (boolE (binE eqF (binE ixF (varE 0) (cE (.int 2))) (cE (.str "")))) (retS (cE (.bl true))) nopS)
    (retS (andE (callE 1 f_l_is_name (consA (binE ixF (varE 0) (cE (.int 2))) nilA)) (orE (binE neF (binE ixF (varE 0) (cE (.int 2))) (binE ixF (varE 0) (cE (.int 0)))) (binE ltF (appE lenF (consA (binE ixF (varE 0) (cE (.int 2))) nilA)) (cE (.int 12)))))))))))
def f_l_can_be_told := runP g_l_can_be_told 1
theorem ok_l_can_be_told (T : Tx K mg) : FnG P w K mg base 2 T.a_l_can_be_told T.fd_l_can_be_told ["parts", "verbs"] (spP K mg T.tabs 2 f_l_can_be_told) :=
  pure_G T.F_l_can_be_told sc_l_can_be_told rfl rfl fun cdv A outer s H E hr hgd => by
    have hu := hr.units
    have hur := room100 hr
    exact ((SXs.cons (SX.ifS (TX.w (WX.or (TX.cmp (o2_ord _ _) op_gtP (EX.callB ol_len cr_lenP T.n_len boot_len' (AX.cons (EX.var ioP (pv 0)) AX.nil)) EX.int) (WX.or (TX.w (WX.and (TX.cmp o2_ne (op_neP hu) (EX.ix o2_ix ix_seq (EX.var ioP (pv 0)) EX.int) EX.str) (WX.and1 (TX.not (TX.val (EX.call (ok_l_is_name T) (hr.mono (by decide)) hgd T.g_l_is_name T.k_l_is_name T.b_l_is_name pass_cx (AX.cons (EX.ix o2_ix ix_seq (EX.var ioP (pv 0)) EX.int) AX.nil))))))) (WX.or1 (TX.w (WX.and (TX.cmp o2_eq (op_eqP hu) (EX.ix o2_ix ix_seq (EX.var ioP (pv 0)) EX.int) EX.str) (WX.and1 (TX.cmp (o2_ord _ _) op_gtP (EX.callB ol_len cr_lenP T.n_len boot_len' (AX.cons (EX.var ioP (pv 0)) AX.nil)) EX.int)))))))) (SXs.one (SX.ret EX.bl)) SXs.nil)
    (SXs.cons (SX.ifS (TX.cmp o2_eq (op_eqP hu) (EX.callB ol_len cr_lenP T.n_len boot_len' (AX.cons (EX.var ioP (pv 0)) AX.nil)) EX.int) (SXs.one (SX.ret EX.bl)) SXs.nil)
    (SXs.cons (SX.ifS (TX.cmp o2_eq (op_eqP hu) (EX.callB ol_len cr_lenP T.n_len boot_len' (AX.cons (EX.var ioP (pv 0)) AX.nil)) EX.int) (SXs.one (SX.ret (EX.cmp o2_ne (op_neP hu) (LX.ex (LX.lc (own := [("verb", 2)]) rfl sc_l_can_be_told.nd (IX.seq (EX.var ioP (pv 1))) (blkOk_by (N := n_l_can_be_told) (sc := (defScope s_l_can_be_told)) (by decide +kernel)) ioPs (by decide) (fun _ _ _ _ _ => (TGX.name ioP (pg_name (i := 2) sc_l_can_be_told.nd rfl (by first | exact Or.inl rfl | exact Or.inr rfl)))) (fun _ _ _ _ _ => (TXS.one (TX.cmp o2_eq (op_eqP hu) (EX.slice (EX.var ioP (pv 2)) OX.none (OX.some (EX.callB ol_len cr_lenP T.n_len boot_len' (AX.cons (EX.ix o2_ix ix_seq (EX.var ioP (pv 0)) EX.int) AX.nil)))) (EX.ix o2_ix ix_seq (EX.var ioP (pv 0)) EX.int)))) (fun _ _ _ _ _ => (EX.var ioP (pv 2))))) (LX.ex (LX.lst AX.nil))))) SXs.nil)
    (SXs.cons (SX.ifS (TX.w (WX.or (TX.cmp o2_notIn op_notInP (EX.ix o2_ix ix_seq (EX.var ioP (pv 0)) EX.int) (EX.var ioP (pv 1))) (WX.or1 (TX.cmp o2_eq (op_eqP hu) (EX.ix o2_ix ix_seq (EX.var ioP (pv 0)) EX.int) EX.str)))) (SXs.one (SX.ret EX.bl)) SXs.nil)
    (SXs.cons (SX.ifS (TX.cmp o2_eq (op_eqP hu) (EX.ix o2_ix ix_seq (EX.var ioP (pv 0)) EX.int) EX.str) (SXs.one (SX.ret EX.bl)) SXs.nil)
    (SXs.one (SX.ret (EX.and (EX.call (ok_l_is_name T) (hr.mono (by decide)) hgd T.g_l_is_name T.k_l_is_name T.b_l_is_name pass_cx (AX.cons (EX.ix o2_ix ix_seq (EX.var ioP (pv 0)) EX.int) AX.nil)) (EX.one (EX.or (EX.cmp o2_ne (op_neP hu) (EX.ix o2_ix ix_seq (EX.var ioP (pv 0)) EX.int) (EX.ix o2_ix ix_seq (EX.var ioP (pv 0)) EX.int)) (EX.one (EX.cmp (o2_ord _ _) op_ltP (EX.callB ol_len cr_lenP T.n_len boot_len' (AX.cons (EX.ix o2_ix ix_seq (EX.var ioP (pv 0)) EX.int) AX.nil)) EX.int)))))))))))))
/-! _law_can_begin -/
def g_l_can_begin : GS := (seqS (asgS (methE splitF (varE 0) (consA (cE (.str " ")) nilA)) (nameT 1))
    (seqS (ifS (boolE (callE 2 f_l_can_be_told (consA (varE 1) (consA (lstE (lstF (consA (cE (.str "beats")) (consA (cE (.str "draws")) (consA (cE (.str "yields")) (consA (cE (.str "leaves")) nilA)))))) nilA)))) (retS (cE (.bl true))) nopS)
    (seqS (ifS (orT (boolE (binE neF (binE ixF (varE 1) (cE (.int 0))) (cE (.str "fix")))) (orT (boolE (binE eqF (appE lenF (consA (varE 1) nilA)) (cE (.int 1)))) (andT (boolE (binE eqF (binE ixF (varE 1) (cE (.int 1))) (cE (.str "")))) (boolE (binE gtF (appE lenF (consA (varE 1) nilA)) (cE (.int 2))))))) (retS (cE (.bl false))) nopS)
    (seqS (ifS (andT (boolE (binE neF (binE ixF (varE 1) (cE (.int 1))) (cE (.str "")))) (boolE (binE notInF (binE ixF (varE 1) (cE (.int 1))) (lstE (lcE [2] (range1I (consA (cE (.int 100)) nilA)) (nameT 2) yesT (appE strIF (consA (varE 2) nilA))))))) (retS (cE (.bl false))) nopS)
    (retS (orE (binE eqF (appE lenF (consA (varE 1) nilA)) (cE (.int 2))) (callE 2 f_l_can_be_told (consA (slE (varE 1) (someO (cE (.int 2))) noO) (consA (lstE (lstF (consA (cE (.str "beats")) (consA (cE (.str "draws")) (consA (cE (.str "yields")) nilA))))) nilA)))))))))
def f_l_can_begin := runP g_l_can_begin 2
theorem ok_l_can_begin (T : Tx K mg) : FnG P w K mg base 3 T.a_l_can_begin T.fd_l_can_begin ["text"] (spP K mg T.tabs 1 f_l_can_begin) :=
  pure_G T.F_l_can_begin sc_l_can_begin rfl rfl fun cdv A outer s H E hr hgd => by
    have hu := hr.units
    have hur := room100 hr
    exact ((SXs.cons (SX.set (EX.methS om_split PySem.F.plainAttrs_str PySem.F.slot_str_split PySem.F.type_str_split mt_split (EX.var ioP (pv 0)) (AX.cons EX.str AX.nil)) ioP (fun _ h => ps_set (i := 1) sc_l_can_begin.nd rfl (Or.inl rfl) h))
    (SXs.cons (SX.ifS (TX.val (EX.call (ok_l_can_be_told T) (hr.mono (by decide)) hgd T.g_l_can_be_told T.k_l_can_be_told T.b_l_can_be_told pass_cx (AX.cons (EX.var ioP (pv 1)) (AX.cons (LX.ex (LX.lst (AX.cons EX.str (AX.cons EX.str (AX.cons EX.str (AX.cons EX.str AX.nil)))))) AX.nil)))) (SXs.one (SX.ret EX.bl)) SXs.nil)
    (SXs.cons (SX.ifS (TX.w (WX.or (TX.cmp o2_ne (op_neP hu) (EX.ix o2_ix ix_seq (EX.var ioP (pv 1)) EX.int) EX.str) (WX.or (TX.cmp o2_eq (op_eqP hu) (EX.callB ol_len cr_lenP T.n_len boot_len' (AX.cons (EX.var ioP (pv 1)) AX.nil)) EX.int) (WX.or1 (TX.w (WX.and (TX.cmp o2_eq (op_eqP hu) (EX.ix o2_ix ix_seq (EX.var ioP (pv 1)) EX.int) EX.str) (WX.and1 (TX.cmp (o2_ord _ _) op_gtP (EX.callB ol_len cr_lenP T.n_len boot_len' (AX.cons (EX.var ioP (pv 1)) AX.nil)) EX.int)))))))) (SXs.one (SX.ret EX.bl)) SXs.nil)
    (SXs.cons (SX.ifS (TX.w (WX.and (TX.cmp o2_ne (op_neP hu) (EX.ix o2_ix ix_seq (EX.var ioP (pv 1)) EX.int) EX.str) (WX.and1 (TX.cmp o2_notIn op_notInP (EX.ix o2_ix ix_seq (EX.var ioP (pv 1)) EX.int) (LX.ex (LX.lc (own := [("one", 2)]) rfl sc_l_can_begin.nd (IX.range1 (AX.cons EX.int AX.nil) T.n_range) (blkOk_by (N := n_l_can_begin) (sc := (defScope s_l_can_begin)) (by decide +kernel)) ioPs (by decide) (fun _ _ _ _ _ => (TGX.name ioP (pg_name (i := 2) sc_l_can_begin.nd rfl (by first | exact Or.inl rfl | exact Or.inr rfl)))) (fun _ _ _ _ _ => TXS.nil) (fun _ _ _ _ _ => (EX.callTy ol_str call_str_int T.n_str boot_str' (AX.cons (EX.var ioP (pv 2)) AX.nil))))))))) (SXs.one (SX.ret EX.bl)) SXs.nil)
    (SXs.one (SX.ret (EX.or (EX.cmp o2_eq (op_eqP hu) (EX.callB ol_len cr_lenP T.n_len boot_len' (AX.cons (EX.var ioP (pv 1)) AX.nil)) EX.int) (EX.one (EX.call (ok_l_can_be_told T) (hr.mono (by decide)) hgd T.g_l_can_be_told T.k_l_can_be_told T.b_l_can_be_told pass_cx (AX.cons (EX.slice (EX.var ioP (pv 1)) (OX.some EX.int) OX.none) (AX.cons (LX.ex (LX.lst (AX.cons EX.str (AX.cons EX.str (AX.cons EX.str AX.nil))))) AX.nil))))))))))))
/-! _law_unread -/
def g_l_unread : GS := (seqS (forS (range2I (consA (cE (.int 1)) (consA (binE addF (appE lenF (consA (varE 0) nilA)) (cE (.int 1))) nilA))) (nameT 1) (ifS (notT (boolE (callE 1 f_l_can_begin (consA (slE (varE 0) noO (someO (varE 1))) nilA)))) (retS (binE subF (varE 1) (cE (.int 1)))) nopS))
    (retS (appE lenF (consA (varE 0) nilA))))
def f_l_unread := runP g_l_unread 1
theorem ok_l_unread (T : Tx K mg) : FnG P w K mg base 4 T.a_l_unread T.fd_l_unread ["text"] (spP K mg T.tabs 1 f_l_unread) :=
  pure_G T.F_l_unread sc_l_unread rfl rfl fun cdv A outer s H E hr hgd => by
    have hu := hr.units
    have hur := room100 hr
    exact ((SXs.cons (SX.for own_cx rfl (IX.range2 (AX.cons EX.int (AX.cons (EX.bin o2_add op_addP (EX.callB ol_len cr_lenP T.n_len boot_len' (AX.cons (EX.var ioP (pv 0)) AX.nil)) EX.int) AX.nil)) T.n_range) (TGX.name ioP (pg_name (i := 1) sc_l_unread.nd rfl (Or.inl rfl))) (SXs.one (SX.ifS (TX.not (TX.val (EX.call (ok_l_can_begin T) (hr.mono (by decide)) hgd T.g_l_can_begin T.k_l_can_begin T.b_l_can_begin pass_cx (AX.cons (EX.slice (EX.var ioP (pv 0)) OX.none (OX.some (EX.var ioP (pv 1)))) AX.nil)))) (SXs.one (SX.ret (EX.bin o2_sub op_sub (EX.var ioP (pv 1)) EX.int))) SXs.nil)))
    (SXs.one (SX.ret (EX.callB ol_len cr_lenP T.n_len boot_len' (AX.cons (EX.var ioP (pv 0)) AX.nil))))))
/-! _law_name -/
def g_l_name : GS := (retS (callIO 0 2 f_l_pick (consA (lstE (lstF (consA (cE (.str "a")) (consA (cE (.str "ann")) (consA (cE (.str "bob")) (consA (cE (.str "fix")) (consA (cE (.str "beats")) (consA (cE (.str "draws")) (consA (cE (.str "yields")) (consA (cE (.str "leaves")) (consA (binE mulF (cE (.str "z")) (cE (.int 12))) (consA (cE (.str "fi")) (consA (cE (.str "beat")) nilA))))))))))))) nilA)))
def f_l_name := runIO g_l_name 0
theorem ok_l_name (T : Tx K mg) : FnG P w K mg base 3 T.a_l_name T.fd_l_name ["pot"] (spIO K mg T.tabs 1 f_l_name) :=
  io_G T.F_l_name sc_l_name rfl rfl fun cdv A outer s H E a hr hgd => by
    have hu := hr.units
    have hur := room100 hr
    exact ((SXs.one (SX.ret (EX.callIO (ok_l_pick T) (hr.mono (by decide)) hgd T.g_l_pick T.k_l_pick T.b_l_pick pass_cx (pv 0) (AX.cons (LX.ex (LX.lst (AX.cons EX.str (AX.cons EX.str (AX.cons EX.str (AX.cons EX.str (AX.cons EX.str (AX.cons EX.str (AX.cons EX.str (AX.cons EX.str (AX.cons (EX.bin o2_mul op_mulP EX.str EX.int) (AX.cons EX.str (AX.cons EX.str AX.nil))))))))))))) AX.nil)))))
/-! _law_drawn -/
def g_l_drawn : GS := (seqS (parS 1 2 (callIO 0 1 f_l_name nilA) (callIO 0 1 f_l_name nilA))
    (seqS (asgS (ifE (boolE (binE neF (varE 2) (varE 1))) (varE 2) (binE addF (cE (.str "y")) (slE (varE 1) noO (someO (cE (.int 11)))))) (nameT 2))
    (seqS (asgS (callIO 0 2 f_l_draw (consA (cE (.int 5)) nilA)) (nameT 3))
    (seqS (ifS (boolE (binE eqF (varE 3) (cE (.int 0)))) (retS (appE tupF (consA (cE (.str "leave")) (consA (varE 1) nilA)))) nopS)
    (seqS (ifS (boolE (binE ltF (varE 3) (cE (.int 3)))) (retS (appE tupF (consA (cE (.str "told")) (consA (varE 1) (consA (varE 2) (consA (callIO 0 2 f_l_draw (consA (cE (.int 3)) nilA)) nilA)))))) nopS)
    (retS (appE tupF (consA (cE (.str "fix")) (consA (callIO 0 2 f_l_pick (consA (lstE (lstF (consA (cE (.int 0)) (consA (cE (.int 1)) (consA (cE (.int 9)) (consA (cE (.int 10)) (consA (cE (.int 99)) (consA (callIO 0 2 f_l_draw (consA (cE (.int 100)) nilA)) nilA)))))))) nilA)) (consA (varE 1) (consA (varE 2) (consA (callIO 0 2 f_l_draw (consA (cE (.int 3)) nilA)) nilA))))))))))))
def f_l_drawn := runIO g_l_drawn 3
theorem ok_l_drawn (T : Tx K mg) : FnG P w K mg base 4 T.a_l_drawn T.fd_l_drawn ["pot"] (spIO K mg T.tabs 1 f_l_drawn) :=
  io_G T.F_l_drawn sc_l_drawn rfl rfl fun cdv A outer s H E a hr hgd => by
    have hu := hr.units
    have hur := room100 hr
    exact ((SXs.cons (SX.par (ioX (by decide)) (ioX (by decide)) (fun _ h => ps_par (i := 1) (j := 2) rfl sc_l_drawn.nd rfl rfl (by decide) rfl rfl h rfl) (EX.callIO (ok_l_name T) (hr.mono (by decide)) hgd T.g_l_name T.k_l_name T.b_l_name pass_cx (pv 0) AX.nil) (EX.callIO (ok_l_name T) (hr.mono (by decide)) hgd T.g_l_name T.k_l_name T.b_l_name pass_cx (pv 0) AX.nil))
    (SXs.cons (SX.set (EX.ifE (TX.cmp o2_ne (op_neP hu) (EX.var (ioX (by decide)) (pv 2)) (EX.var (ioX (by decide)) (pv 1))) (EX.var (ioX (by decide)) (pv 2)) (EX.bin o2_add op_addP EX.str (EX.slice (EX.var (ioX (by decide)) (pv 1)) OX.none (OX.some EX.int)))) (ioX (by decide)) (fun _ h => ps_set (i := 2) sc_l_drawn.nd rfl (Or.inl rfl) h))
    (SXs.cons (SX.set (EX.callIO (ok_l_draw T) (hr.mono (by decide)) hgd T.g_l_draw T.k_l_draw T.b_l_draw pass_cx (pv 0) (AX.cons EX.int AX.nil)) (ioX (by decide)) (fun _ h => ps_set (i := 3) sc_l_drawn.nd rfl (Or.inl rfl) h))
    (SXs.cons (SX.ifS (TX.cmp o2_eq (op_eqP hu) (EX.var (ioX (by decide)) (pv 3)) EX.int) (SXs.one (SX.ret (EX.tup (AX.cons EX.str (AX.cons (EX.var (ioX (by decide)) (pv 1)) AX.nil))))) SXs.nil)
    (SXs.cons (SX.ifS (TX.cmp (o2_ord _ _) op_ltP (EX.var (ioX (by decide)) (pv 3)) EX.int) (SXs.one (SX.ret (EX.tup (AX.cons EX.str (AX.cons (EX.var (ioX (by decide)) (pv 1)) (AX.cons (EX.var (ioX (by decide)) (pv 2)) (AX.cons (EX.callIO (ok_l_draw T) (hr.mono (by decide)) hgd T.g_l_draw T.k_l_draw T.b_l_draw pass_cx (pv 0) (AX.cons EX.int AX.nil)) AX.nil))))))) SXs.nil)
    (SXs.one (SX.ret (EX.tup (AX.cons EX.str (AX.cons (EX.callIO (ok_l_pick T) (hr.mono (by decide)) hgd T.g_l_pick T.k_l_pick T.b_l_pick pass_cx (pv 0) (AX.cons (LX.ex (LX.lst (AX.cons EX.int (AX.cons EX.int (AX.cons EX.int (AX.cons EX.int (AX.cons EX.int (AX.cons (EX.callIO (ok_l_draw T) (hr.mono (by decide)) hgd T.g_l_draw T.k_l_draw T.b_l_draw pass_cx (pv 0) (AX.cons EX.int AX.nil)) AX.nil)))))))) AX.nil)) (AX.cons (EX.var (ioX (by decide)) (pv 1)) (AX.cons (EX.var (ioX (by decide)) (pv 2)) (AX.cons (EX.callIO (ok_l_draw T) (hr.mono (by decide)) hgd T.g_l_draw T.k_l_draw T.b_l_draw pass_cx (pv 0) (AX.cons EX.int AX.nil)) AX.nil))))))))))))))
/-! _law_bent -/
def g_l_bent : GS := (seqS (parS 2 3 (callIO 0 2 f_l_draw (consA (appE lenF (consA (varE 1) nilA)) nilA)) (callIO 0 2 f_l_draw (consA (cE (.int 6)) nilA)))
    (seqS (asgS (callIO 0 2 f_l_pick (consA (lstE (lstF (consA (cE (.str "a")) (consA (cE (.str " ")) (consA (cE (.str "0")) (consA (cE (.str "z")) (consA (cE (.str "s")) (consA (cE (.str "1")) (consA (cE (.str "A")) (consA (cE (.str "~")) (consA (cE (.str "\n")) nilA))))))))))) nilA)) (nameT 4))
    (seqS (ifS (boolE (binE eqF (varE 3) (cE (.int 0)))) (retS (binE addF (binE addF (slE (varE 1) noO (someO (varE 2))) (varE 4)) (slE (varE 1) (someO (binE addF (varE 2) (cE (.int 1)))) noO))) nopS)
    (seqS (ifS (boolE (binE eqF (varE 3) (cE (.int 1)))) (retS (binE addF (binE addF (slE (varE 1) noO (someO (varE 2))) (varE 4)) (slE (varE 1) (someO (varE 2)) noO))) nopS)
    (seqS (ifS (boolE (binE eqF (varE 3) (cE (.int 2)))) (retS (binE addF (slE (varE 1) noO (someO (varE 2))) (slE (varE 1) (someO (binE addF (varE 2) (cE (.int 1)))) noO))) nopS)
    (seqS (ifS (boolE (binE eqF (varE 3) (cE (.int 3)))) (retS (slE (varE 1) noO (someO (varE 2)))) nopS)
    (retS (ifE (boolE (binE eqF (varE 3) (cE (.int 4)))) (binE addF (varE 1) (varE 4)) (binE addF (binE addF (varE 1) (cE (.str " "))) (varE 1))))))))))
def f_l_bent := runIO g_l_bent 3
theorem ok_l_bent (T : Tx K mg) : FnG P w K mg base 3 T.a_l_bent T.fd_l_bent ["pot", "text"] (spIO K mg T.tabs 2 f_l_bent) :=
  io_G T.F_l_bent sc_l_bent rfl rfl fun cdv A outer s H E a hr hgd => by
    have hu := hr.units
    have hur := room100 hr
    exact ((SXs.cons (SX.par (ioX (by decide)) (ioX (by decide)) (fun _ h => ps_par (i := 2) (j := 3) rfl sc_l_bent.nd rfl rfl (by decide) rfl rfl h rfl) (EX.callIO (ok_l_draw T) (hr.mono (by decide)) hgd T.g_l_draw T.k_l_draw T.b_l_draw pass_cx (pv 0) (AX.cons (EX.callB ol_len cr_lenP T.n_len boot_len' (AX.cons (EX.var (ioX (by decide)) (pv 1)) AX.nil)) AX.nil)) (EX.callIO (ok_l_draw T) (hr.mono (by decide)) hgd T.g_l_draw T.k_l_draw T.b_l_draw pass_cx (pv 0) (AX.cons EX.int AX.nil)))
    (SXs.cons (SX.set (EX.callIO (ok_l_pick T) (hr.mono (by decide)) hgd T.g_l_pick T.k_l_pick T.b_l_pick pass_cx (pv 0) (AX.cons (LX.ex (LX.lst (AX.cons EX.str (AX.cons EX.str (AX.cons EX.str (AX.cons EX.str (AX.cons EX.str (AX.cons EX.str (AX.cons EX.str (AX.cons EX.str (AX.cons EX.str AX.nil))))))))))) AX.nil)) (ioX (by decide)) (fun _ h => ps_set (i := 4) sc_l_bent.nd rfl (Or.inl rfl) h))
    (SXs.cons (SX.ifS (TX.cmp o2_eq (op_eqP hu) (EX.var (ioX (by decide)) (pv 3)) EX.int) (SXs.one (SX.ret (EX.bin o2_add op_addP (EX.bin o2_add op_addP (EX.slice (EX.var (ioX (by decide)) (pv 1)) OX.none (OX.some (EX.var (ioX (by decide)) (pv 2)))) (EX.var (ioX (by decide)) (pv 4))) (EX.slice (EX.var (ioX (by decide)) (pv 1)) (OX.some (EX.bin o2_add op_addP (EX.var (ioX (by decide)) (pv 2)) EX.int)) OX.none)))) SXs.nil)
    (SXs.cons (SX.ifS (TX.cmp o2_eq (op_eqP hu) (EX.var (ioX (by decide)) (pv 3)) EX.int) (SXs.one (SX.ret (EX.bin o2_add op_addP (EX.bin o2_add op_addP (EX.slice (EX.var (ioX (by decide)) (pv 1)) OX.none (OX.some (EX.var (ioX (by decide)) (pv 2)))) (EX.var (ioX (by decide)) (pv 4))) (EX.slice (EX.var (ioX (by decide)) (pv 1)) (OX.some (EX.var (ioX (by decide)) (pv 2))) OX.none)))) SXs.nil)
    (SXs.cons (SX.ifS (TX.cmp o2_eq (op_eqP hu) (EX.var (ioX (by decide)) (pv 3)) EX.int) (SXs.one (SX.ret (EX.bin o2_add op_addP (EX.slice (EX.var (ioX (by decide)) (pv 1)) OX.none (OX.some (EX.var (ioX (by decide)) (pv 2)))) (EX.slice (EX.var (ioX (by decide)) (pv 1)) (OX.some (EX.bin o2_add op_addP (EX.var (ioX (by decide)) (pv 2)) EX.int)) OX.none)))) SXs.nil)
    (SXs.cons (SX.ifS (TX.cmp o2_eq (op_eqP hu) (EX.var (ioX (by decide)) (pv 3)) EX.int) (SXs.one (SX.ret (EX.slice (EX.var (ioX (by decide)) (pv 1)) OX.none (OX.some (EX.var (ioX (by decide)) (pv 2)))))) SXs.nil)
    (SXs.one (SX.ret (EX.ifE (TX.cmp o2_eq (op_eqP hu) (EX.var (ioX (by decide)) (pv 3)) EX.int) (EX.bin o2_add op_addP (EX.var (ioX (by decide)) (pv 1)) (EX.var (ioX (by decide)) (pv 4))) (EX.bin o2_add op_addP (EX.bin o2_add op_addP (EX.var (ioX (by decide)) (pv 1)) EX.str) (EX.var (ioX (by decide)) (pv 1)))))))))))))
/-! _law_text_right -/
def g_l_text_right : GS := (seqS (asgS (callE 1 f_l_event (consA (varE 0) nilA)) (nameT 1))
    (seqS (asgS (ifE (boolE (binE isNotF (varE 1) (cE .non))) (lstE (lstF (consA (cE (.str "told")) (consA (varE 1) nilA)))) (lstE (lstF (consA (cE (.str "unread")) (consA (callE 1 f_l_unread (consA (varE 0) nilA)) (consA (cE (.bl true)) nilA)))))) (nameT 2))
    (seqS (lamsS 3 [0, 1])
    (seqS (ifS (boolE (binE neF (appE reprF (consA (lstE (heardAllL 3 (some "told") hd_l [(callE 1 f_event_of_text (consA (varE 0) nilA)), (callE 1 f_event_of_text (consA (varE 0) nilA))])) nilA)) (appE reprF (consA (lstE (lstF (consA (varE 2) (consA (varE 2) nilA)))) nilA)))) (retS (cE (.bl false))) nopS)
    (retS (binE eqF (appE reprF (consA (lstE (lstF (consA (callE 1 f_is_event_text (consA (varE 0) nilA)) (consA (callE 1 f_is_event_text (consA (varE 0) nilA)) nilA)))) nilA)) (appE reprF (consA (binE mulF (lstE (lstF (consA (binE isNotF (varE 1) (cE .non)) nilA))) (cE (.int 2))) nilA))))))))
def f_l_text_right := runP g_l_text_right 4
theorem ok_l_text_right (T : Tx K mg) (B : Bx T base) : FnG P w K mg base 10 T.a_l_text_right T.fd_l_text_right ["text"] (spP K mg T.tabs 1 f_l_text_right) :=
  pure_GC (ls := [_, _]) T.F_l_text_right sc_l_text_right rfl rfl fun A outer s H E hr hgd => by
    have hu := hr.units
    have hur := room100 hr
    exact ((SXs.cons (SX.set (EX.call (ok_l_event T) (hr.mono (by decide)) hgd T.g_l_event T.k_l_event T.b_l_event pass_cx (AX.cons (EX.var ioPC (pv 0)) AX.nil)) ioPC (fun _ h => ps_set (i := 1) sc_l_text_right.nd rfl (Or.inl rfl) h))
    (SXs.cons (SX.set (EX.ifE (TX.cmp o2_isNot op_isNotP (EX.var ioPC (pv 1)) EX.non) (LX.ex (LX.lst (AX.cons EX.str (AX.cons (EX.var ioPC (pv 1)) AX.nil)))) (LX.ex (LX.lst (AX.cons EX.str (AX.cons (EX.call (ok_l_unread T) (hr.mono (by decide)) hgd T.g_l_unread T.k_l_unread T.b_l_unread pass_cx (AX.cons (EX.var ioPC (pv 0)) AX.nil)) (AX.cons EX.bl AX.nil)))))) ioPC (fun _ h => ps_set (i := 2) sc_l_text_right.nd rfl (Or.inl rfl) h))
    (SXs.lams2 ⟨B.b_l_text_right, rfl, T.tm_l_text_right, T.tu_l_text_right, rfl⟩ ioPC rfl (fun _ h => ps_set (i := 3) sc_l_text_right.nd rfl (Or.inl rfl) h) (LamX.lamS_by rfl) rfl rfl (fun _ h => pe_bm PySem.F.plainAttrs_list PySem.F.slot_list_append PySem.F.type_list_append mt_append (pv 3) (pa_cons h pa_nil)) rfl (LamX.lamS_by rfl) rfl rfl
    (SXs.cons (SX.ifS (TX.cmp o2_ne (op_neP hu) (EX.callB ol_repr (cr_repr hgd hur) T.n_repr boot_repr' (AX.cons (LX.ex (LX.heardAllG (pre := [_, _]) (k := 6) (l := T.cl) (ini := (some "none")) (wr := (some "told")) T.F_l_heard sc_l_heard T.b_l_heard rfl (fun cdg => (HC.cons T.xm_UnreadEvent rfl rfl (IT.lst (ITs.cons IT.str (ITs.cons (IT.fld T.xx_UnreadEvent T.xn_UnreadEvent_position rfl (Or.inl rfl)) (ITs.cons (IT.isi T.xi_UnreadEvent_ContestError T.xm_ContestError rfl rfl (Or.inl rfl) rfl T.n_isinstance) ITs.nil)))) (fun _ => rfl) (HC.cons T.xm_InvalidEvent rfl rfl (IT.lst (ITs.cons IT.str (ITs.cons (IT.repr hgd (room103 hr) rfl T.n_repr (IT.fld T.xx_InvalidEvent T.xn_InvalidEvent_value rfl (Or.inl rfl))) (ITs.cons (IT.isi T.xi_InvalidEvent_ContestError T.xm_ContestError rfl rfl (Or.inl rfl) rfl T.n_isinstance) ITs.nil)))) (fun _ => rfl) (HC.cons T.xm_InvalidText rfl rfl (IT.lst (ITs.cons IT.str (ITs.cons (IT.repr hgd (room103 hr) rfl T.n_repr (IT.fld T.xx_InvalidText T.xn_InvalidText_value rfl (Or.inl rfl))) (ITs.cons (IT.isi T.xi_InvalidText_ContestError T.xm_ContestError rfl rfl (Or.inl rfl) rfl T.n_isinstance) ITs.nil)))) (fun _ => rfl) HC.nil)))) T.exm T.clm rfl rfl rfl rfl rfl (Or.inl rfl) rfl rfl rfl rfl .lst .lst (fun _ => rfl) (fun _ => rfl) T.g_l_heard T.k_l_heard (hr.mono (by decide)) rfl sc_l_text_right.nd (LamGoods.cons ⟨LamX.lamS_by rfl, (fun _ _ _ _ _ => rfl), fun A outer s H E f c' hr2 => (have hu := hr2.units; (EX.callN (ok_event_of_text T) (hr2.mono (by decide)) T.g_event_of_text T.k_event_of_text T.b_event_of_text (passAt takes_lam) (AX.cons (EX.var ioPC (pv 0)) AX.nil)))⟩ (LamGoods.cons ⟨LamX.lamS_by rfl, (fun _ _ _ _ _ => rfl), fun A outer s H E f c' hr2 => (have hu := hr2.units; (EX.callKN (ok_event_of_text T) (hr2.mono (by decide)) T.g_event_of_text T.k_event_of_text T.bk_event_of_text (passAt takes_lam) (AKX.cons (EX.var ioPC (pv 0)) AKX.nil)))⟩ LamGoods.nil)) (pv 3) (blkOk_by (N := n_l_text_right) (sc := (defScope s_l_text_right)) (by decide +kernel)) rfl (fun _ _ => Or.inl rfl) (fun _ _ _ _ _ => pg_name (i := 4) sc_l_text_right.nd rfl (by first | exact Or.inl rfl | exact Or.inr rfl)) (fun _ _ _ _ _ => rfl))) AX.nil)) (EX.callB ol_repr (cr_repr hgd hur) T.n_repr boot_repr' (AX.cons (LX.ex (LX.lst (AX.cons (EX.var ioPC (pv 2)) (AX.cons (EX.var ioPC (pv 2)) AX.nil)))) AX.nil))) (SXs.one (SX.ret EX.bl)) SXs.nil)
    (SXs.one (SX.ret (EX.cmp o2_eq (op_eqP hu) (EX.callB ol_repr (cr_repr hgd hur) T.n_repr boot_repr' (AX.cons (LX.ex (LX.lst (AX.cons (EX.call (FnG.of (ok_is_event_text T)) (hr.mono (by decide)) hgd T.g_is_event_text T.k_is_event_text T.b_is_event_text pass_cx (AX.cons (EX.var ioPC (pv 0)) AX.nil)) (AX.cons (EX.callK (FnG.of (ok_is_event_text T)) (hr.mono (by decide)) hgd T.g_is_event_text T.k_is_event_text T.bk_is_event_text pass_cx (AKX.cons (EX.var ioPC (pv 0)) AKX.nil)) AX.nil)))) AX.nil)) (EX.callB ol_repr (cr_repr hgd hur) T.n_repr boot_repr' (AX.cons (EX.bin o2_mul op_mulP (LX.ex (LX.lst (AX.cons (EX.cmp o2_isNot op_isNotP (EX.var ioPC (pv 1)) EX.non) AX.nil))) EX.int) AX.nil))))))))))
/-! _law_event_right -/
def g_l_event_right : GS := (seqS (asgS (callE 1 f_l_text (consA (varE 1) nilA)) (nameT 2))
    (seqS (ifS (orT (boolE (binE neF (appE reprF (consA (lstE (lstF (consA (callE 1 f_event_text (consA (varE 1) nilA)) (consA (callE 1 f_event_text (consA (varE 1) nilA)) (consA (callE 1 f_event_of_text (consA (varE 2) nilA)) nilA))))) nilA)) (appE reprF (consA (lstE (lstF (consA (varE 2) (consA (varE 2) (consA (varE 1) nilA))))) nilA)))) (boolE (binE isNotF (callE 1 f_is_event_form (consA (varE 1) nilA)) (cE (.bl true))))) (retS (cE (.bl false))) nopS)
    (seqS (asgS (callIO 0 2 f_l_draw (consA (appE lenF (consA (varE 1) nilA)) nilA)) (nameT 3))
    (seqS (asgS (callIO 0 2 f_l_pick (consA (lstE (lstF (consA (cE .non) (consA (cE (.bl true)) (consA (cE (.int 3)) (consA (unE negF (cE (.int 1))) (consA (cE (.int 100)) (consA (cE (.str "Ann")) (consA (cE (.str "")) (consA (binE mulF (cE (.str "z")) (cE (.int 13))) (consA (cE (.str "told")) (consA (cE (.str "leave")) (consA (cE (.str "fix")) (consA (appE tupF (consA (cE (.str "a")) nilA)) nilA)))))))))))))) nilA)) (nameT 4))
    (seqS (asgS (callIO 0 2 f_l_pick (consA (lstE (lstF (consA (binE addF (binE addF (slE (varE 1) noO (someO (varE 3))) (appE tupF (consA (varE 4) nilA))) (slE (varE 1) (someO (binE addF (varE 3) (cE (.int 1)))) noO)) (consA (slE (varE 1) noO (someO (unE negF (cE (.int 1))))) (consA (binE addF (varE 1) (appE tupF (consA (cE (.int 0)) nilA))) (consA (lstE (appL listF (consA (varE 1) nilA))) (consA (cE .non) (consA (binE ixF (varE 1) (cE (.int 0))) nilA)))))))) nilA)) (nameT 5))
    (seqS (asgS (callE 1 f_l_is_event (consA (varE 5) nilA)) (nameT 6))
    (seqS (ifS (boolE (binE neF (appE reprF (consA (lstE (lstF (consA (callE 1 f_is_event_form (consA (varE 5) nilA)) (consA (callE 1 f_is_event_form (consA (varE 5) nilA)) nilA)))) nilA)) (appE reprF (consA (lstE (lstF (consA (varE 6) (consA (varE 6) nilA)))) nilA)))) (retS (cE (.bl false))) nopS)
    (retS (orE (varE 6) (binE eqF (heardE (some "told") hd_l (callE 1 f_event_text (consA (varE 5) nilA))) (lstE (lstF (consA (cE (.str "no event")) (consA (appE reprF (consA (varE 5) nilA)) (consA (cE (.bl true)) nilA)))))))))))))))
def f_l_event_right := runIO g_l_event_right 5
theorem ok_l_event_right (T : Tx K mg) (B : Bx T base) : FnG P w K mg base 8 T.a_l_event_right T.fd_l_event_right ["pot", "event"] (spIO K mg T.tabs 2 f_l_event_right) :=
  io_GL T.F_l_event_right sc_l_event_right rfl rfl fun A outer s H E a hr hgd => by
    have hu := hr.units
    have hur := room100 hr
    exact ((SXs.cons (SX.set (EX.call (ok_l_text T) (hr.mono (by decide)) hgd T.g_l_text T.k_l_text T.b_l_text pass_cx (AX.cons (EX.var (ioX (by decide)) (pv 1)) AX.nil)) (ioX (by decide)) (fun _ h => ps_set (i := 2) sc_l_event_right.nd rfl (Or.inl rfl) h))
    (SXs.cons (SX.ifS (TX.w (WX.or (TX.cmp o2_ne (op_neP hu) (EX.callB ol_repr (cr_repr hgd hur) T.n_repr boot_repr' (AX.cons (LX.ex (LX.lst (AX.cons (EX.call (FnG.of (ok_event_text T)) (hr.mono (by decide)) hgd T.g_event_text T.k_event_text T.b_event_text pass_cx (AX.cons (EX.var (ioX (by decide)) (pv 1)) AX.nil)) (AX.cons (EX.callK (FnG.of (ok_event_text T)) (hr.mono (by decide)) hgd T.g_event_text T.k_event_text T.bk_event_text pass_cx (AKX.cons (EX.var (ioX (by decide)) (pv 1)) AKX.nil)) (AX.cons (EX.call (FnG.of (ok_event_of_text T)) (hr.mono (by decide)) hgd T.g_event_of_text T.k_event_of_text T.b_event_of_text pass_cx (AX.cons (EX.var (ioX (by decide)) (pv 2)) AX.nil)) AX.nil))))) AX.nil)) (EX.callB ol_repr (cr_repr hgd hur) T.n_repr boot_repr' (AX.cons (LX.ex (LX.lst (AX.cons (EX.var (ioX (by decide)) (pv 2)) (AX.cons (EX.var (ioX (by decide)) (pv 2)) (AX.cons (EX.var (ioX (by decide)) (pv 1)) AX.nil))))) AX.nil))) (WX.or1 (TX.cmp o2_isNot op_isNotP (EX.call (FnG.of (ok_is_event_form T)) (hr.mono (by decide)) hgd T.g_is_event_form T.k_is_event_form T.b_is_event_form pass_cx (AX.cons (EX.var (ioX (by decide)) (pv 1)) AX.nil)) EX.bl)))) (SXs.one (SX.ret EX.bl)) SXs.nil)
    (SXs.cons (SX.set (EX.callIO (ok_l_draw T) (hr.mono (by decide)) hgd T.g_l_draw T.k_l_draw T.b_l_draw pass_cx (pv 0) (AX.cons (EX.callB ol_len cr_lenP T.n_len boot_len' (AX.cons (EX.var (ioX (by decide)) (pv 1)) AX.nil)) AX.nil)) (ioX (by decide)) (fun _ h => ps_set (i := 3) sc_l_event_right.nd rfl (Or.inl rfl) h))
    (SXs.cons (SX.set (EX.callIO (ok_l_pick T) (hr.mono (by decide)) hgd T.g_l_pick T.k_l_pick T.b_l_pick pass_cx (pv 0) (AX.cons (LX.ex (LX.lst (AX.cons EX.non (AX.cons EX.bl (AX.cons EX.int (AX.cons (EX.un o1_neg un_neg EX.int) (AX.cons EX.int (AX.cons EX.str (AX.cons EX.str (AX.cons (EX.bin o2_mul op_mulP EX.str EX.int) (AX.cons EX.str (AX.cons EX.str (AX.cons EX.str (AX.cons (EX.tup (AX.cons EX.str AX.nil)) AX.nil)))))))))))))) AX.nil)) (ioX (by decide)) (fun _ h => ps_set (i := 4) sc_l_event_right.nd rfl (Or.inl rfl) h))
    (SXs.cons (SX.set (EX.callIO (ok_l_pick T) (hr.mono (by decide)) hgd T.g_l_pick T.k_l_pick T.b_l_pick pass_cx (pv 0) (AX.cons (LX.ex (LX.lst (AX.cons (EX.bin o2_add op_addP (EX.bin o2_add op_addP (EX.slice (EX.var (ioX (by decide)) (pv 1)) OX.none (OX.some (EX.var (ioX (by decide)) (pv 3)))) (EX.tup (AX.cons (EX.var (ioX (by decide)) (pv 4)) AX.nil))) (EX.slice (EX.var (ioX (by decide)) (pv 1)) (OX.some (EX.bin o2_add op_addP (EX.var (ioX (by decide)) (pv 3)) EX.int)) OX.none)) (AX.cons (EX.slice (EX.var (ioX (by decide)) (pv 1)) OX.none (OX.some (EX.un o1_neg un_neg EX.int))) (AX.cons (EX.bin o2_add op_addP (EX.var (ioX (by decide)) (pv 1)) (EX.tup (AX.cons EX.int AX.nil))) (AX.cons (LX.ex (LX.callTy (ol_list rfl) (cr_listP rfl) T.n_list boot_list' (AX.cons (EX.var (ioX (by decide)) (pv 1)) AX.nil))) (AX.cons EX.non (AX.cons (EX.ix o2_ix ix_seq (EX.var (ioX (by decide)) (pv 1)) EX.int) AX.nil)))))))) AX.nil)) (ioX (by decide)) (fun _ h => ps_set (i := 5) sc_l_event_right.nd rfl (Or.inr rfl) h))
    (SXs.cons (SX.set (EX.call (ok_l_is_event T) (hr.mono (by decide)) hgd T.g_l_is_event T.k_l_is_event T.b_l_is_event pass_cx (AX.cons (EX.var (ioX (by decide)) (pv 5)) AX.nil)) (ioX (by decide)) (fun _ h => ps_set (i := 6) sc_l_event_right.nd rfl (Or.inl rfl) h))
    (SXs.cons (SX.ifS (TX.cmp o2_ne (op_neP hu) (EX.callB ol_repr (cr_repr hgd hur) T.n_repr boot_repr' (AX.cons (LX.ex (LX.lst (AX.cons (EX.call (FnG.of (ok_is_event_form T)) (hr.mono (by decide)) hgd T.g_is_event_form T.k_is_event_form T.b_is_event_form pass_cx (AX.cons (EX.var (ioX (by decide)) (pv 5)) AX.nil)) (AX.cons (EX.callK (FnG.of (ok_is_event_form T)) (hr.mono (by decide)) hgd T.g_is_event_form T.k_is_event_form T.bk_is_event_form pass_cx (AKX.cons (EX.var (ioX (by decide)) (pv 5)) AKX.nil)) AX.nil)))) AX.nil)) (EX.callB ol_repr (cr_repr hgd hur) T.n_repr boot_repr' (AX.cons (LX.ex (LX.lst (AX.cons (EX.var (ioX (by decide)) (pv 6)) (AX.cons (EX.var (ioX (by decide)) (pv 6)) AX.nil)))) AX.nil))) (SXs.one (SX.ret EX.bl)) SXs.nil)
    (SXs.one (SX.ret (EX.or (EX.var (ioX (by decide)) (pv 6)) (EX.one (EX.cmp o2_eq (op_eqP hu) (EX.heard (k := 4) (l := T.cl) (ini := (some "none")) (wr := (some "told")) T.F_l_heard sc_l_heard T.b_l_heard rfl (fun cdg => (HC.cons T.xm_UnreadEvent rfl rfl (IT.lst (ITs.cons IT.str (ITs.cons (IT.fld T.xx_UnreadEvent T.xn_UnreadEvent_position rfl (Or.inl rfl)) (ITs.cons (IT.isi T.xi_UnreadEvent_ContestError T.xm_ContestError rfl rfl (Or.inl rfl) rfl T.n_isinstance) ITs.nil)))) (fun _ => rfl) (HC.cons T.xm_InvalidEvent rfl rfl (IT.lst (ITs.cons IT.str (ITs.cons (IT.repr hgd (room103 hr) rfl T.n_repr (IT.fld T.xx_InvalidEvent T.xn_InvalidEvent_value rfl (Or.inl rfl))) (ITs.cons (IT.isi T.xi_InvalidEvent_ContestError T.xm_ContestError rfl rfl (Or.inl rfl) rfl T.n_isinstance) ITs.nil)))) (fun _ => rfl) (HC.cons T.xm_InvalidText rfl rfl (IT.lst (ITs.cons IT.str (ITs.cons (IT.repr hgd (room103 hr) rfl T.n_repr (IT.fld T.xx_InvalidText T.xn_InvalidText_value rfl (Or.inl rfl))) (ITs.cons (IT.isi T.xi_InvalidText_ContestError T.xm_ContestError rfl rfl (Or.inl rfl) rfl T.n_isinstance) ITs.nil)))) (fun _ => rfl) HC.nil)))) T.exm T.clm rfl rfl rfl rfl rfl (Or.inl rfl) rfl rfl rfl rfl .lst .lst (fun _ => rfl) (fun _ => rfl) T.g_l_heard T.k_l_heard B.b_l_event_right rfl T.tm_l_event_right T.tu_l_event_right (hr.mono (by decide)) (LamX.lamS_by rfl) rfl (fun _ _ _ _ _ => rfl) (fun A outer s H E f c' hr2 => (have hu := hr2.units; (EX.callN (ok_event_text T) (hr2.mono (by decide)) T.g_event_text T.k_event_text T.b_event_text (passAt takes_lam) (AX.cons (EX.var (ioX (by decide)) (pv 5)) AX.nil))))) (LX.ex (LX.lst (AX.cons EX.str (AX.cons (EX.callB ol_repr (cr_repr hgd hur) T.n_repr boot_repr' (AX.cons (EX.var (ioX (by decide)) (pv 5)) AX.nil)) (AX.cons EX.bl AX.nil))))))))))))))))))
/-! law -/
def g_law : GS := (seqS (asgS (lstE (lstF (consA (cE (.str "")) (consA (cE (.str " ")) (consA (cE (.str "fix")) (consA (cE (.str "fix ")) (consA (cE (.str "fix 0")) (consA (cE (.str "fix 00 a beats b")) (consA (cE (.str "fix 100 a beats b")) (consA (cE (.str "fix beats a")) (consA (cE (.str "fix leaves")) (consA (cE (.str "fix 1 leaves")) (consA (cE (.str "a beats a")) (consA (cE (.str "a beats aa")) (consA (cE (.str "a leaves b")) (consA (binE mulF (cE (.str "z")) (cE (.int 13))) (consA (cE (.str "a  beats b")) nilA))))))))))))))))) (nameT 1))
    (seqS (asgS (binE addF (varE 1) (lstE (lstF (consA (binE addF (binE addF (binE mulF (cE (.str "z")) (cE (.int 12))) (cE (.str " beats "))) (binE mulF (cE (.str "z")) (cE (.int 12)))) (consA (cE (.str "fix 5 a leaves")) (consA (cE (.str "fix fix beats a")) (consA (cE (.str "a beats b ")) (consA (cE (.str "beats beats beat")) nilA)))))))) (nameT 1))
    (seqS (forS (seqI (appE tupF (consA (cE (.int 0)) (consA (cE (.int 1)) nilA)))) (nameT 2) (seqS (asgOwnS (callL 2 f_l_pot (consA (varE 0) (consA (varE 2) nilA))) 4)
    (seqS (forS (range1I (consA (cE (.int 6)) nilA)) (nameT 5) (seqS (asgS (callIO 4 1 f_l_drawn nilA) (nameT 6))
    (ifS (orT (notT (boolE (callIO 4 2 f_l_event_right (consA (varE 6) nilA)))) (orT (notT (boolE (callE 1 f_l_text_right (consA (callIO 4 2 f_l_bent (consA (callE 1 f_l_text (consA (varE 6) nilA)) nilA)) nilA)))) (notT (boolE (callE 1 f_l_text_right (consA (callIO 4 2 f_l_bent (consA (callE 1 f_l_text (consA (varE 6) nilA)) nilA)) nilA)))))) (retS (cE (.bl false))) nopS)))
    (ifS (notT (boolE (callE 1 f_l_text_right (consA (methE joinF (cE (.str "")) (consA (lstE (lcE [5] (range1I (consA (callIO 4 2 f_l_draw (consA (cE (.int 9)) nilA)) nilA)) (nameT 5) yesT (callIO 4 2 f_l_pick (consA (lstE (lstF (consA (cE (.str "a")) (consA (cE (.str "b")) (consA (cE (.str " ")) (consA (cE (.str "fix")) (consA (cE (.str "beats")) (consA (cE (.str "1")) (consA (cE (.str "0")) nilA))))))))) nilA)))) nilA)) nilA)))) (retS (cE (.bl false))) nopS))))
    (seqS (asgS (lstE (lstF (consA (cE .non) (consA (cE (.int 0)) (consA (appE tupF (consA (cE (.str "a leaves")) nilA)) (consA (lstE (lstF (consA (cE (.str "a leaves")) nilA))) (consA (cE (.bl true)) nilA))))))) (nameT 3))
    (retS (andE (appE allF (consA (lstE (lcE [7] (seqI (varE 1)) (nameT 7) yesT (callE 1 f_l_text_right (consA (varE 7) nilA)))) nilA)) (binE eqF (lstE (lcE [8] (seqI (varE 3)) (nameT 8) yesT (heardE (some "told") hd_l (callE 1 f_event_of_text (consA (varE 8) nilA))))) (lstE (lcE [8] (seqI (varE 3)) (nameT 8) yesT (lstE (lstF (consA (cE (.str "no text")) (consA (appE reprF (consA (varE 8) nilA)) (consA (cE (.bl true)) nilA))))))))))))))
def f_law := runP g_law 8
theorem ok_law (T : Tx K mg) (B : Bx T base) : FnG P w K mg base 11 T.a_law T.fd_law ["script"] (spP K mg T.tabs 1 f_law) :=
  pure_GL T.F_law sc_law rfl rfl fun A outer s H E hr hgd => by
    have hu := hr.units
    have hur := room100 hr
    exact ((SXs.cons (SX.set (LX.ex (LX.lst (AX.cons EX.str (AX.cons EX.str (AX.cons EX.str (AX.cons EX.str (AX.cons EX.str (AX.cons EX.str (AX.cons EX.str (AX.cons EX.str (AX.cons EX.str (AX.cons EX.str (AX.cons EX.str (AX.cons EX.str (AX.cons EX.str (AX.cons (EX.bin o2_mul op_mulP EX.str EX.int) (AX.cons EX.str AX.nil))))))))))))))))) ioP (fun _ h => ps_set (i := 1) sc_law.nd rfl (Or.inl rfl) h))
    (SXs.cons (SX.set (EX.bin o2_add op_addP (EX.var ioP (pv 1)) (LX.ex (LX.lst (AX.cons (EX.bin o2_add op_addP (EX.bin o2_add op_addP (EX.bin o2_mul op_mulP EX.str EX.int) EX.str) (EX.bin o2_mul op_mulP EX.str EX.int)) (AX.cons EX.str (AX.cons EX.str (AX.cons EX.str (AX.cons EX.str AX.nil)))))))) ioP (fun _ h => ps_set (i := 1) sc_law.nd rfl (Or.inl rfl) h))
    (SXs.cons (SX.for own_cx rfl (IX.seq (EX.tup (AX.cons EX.int (AX.cons EX.int AX.nil)))) (TGX.name ioP (pg_name (i := 2) sc_law.nd rfl (Or.inl rfl))) (SXs.cons (SX.setOwn (LX.callL (ok_l_pot T) (hr.mono (by decide)) hgd T.g_l_pot T.k_l_pot T.b_l_pot pass_cx (AX.cons (EX.var ioP (pv 0)) (AX.cons (EX.var ioP (pv 2)) AX.nil))) ioP (fun _ h => ps_set (i := 4) sc_law.nd rfl (Or.inr rfl) h))
    (SXs.cons (SX.for own_cx rfl (IX.range1 (AX.cons EX.int AX.nil) T.n_range) (TGX.name ioP (pg_name (i := 5) sc_law.nd rfl (Or.inl rfl))) (SXs.cons (SX.set (EX.callIO (ok_l_drawn T) (hr.mono (by decide)) hgd T.g_l_drawn T.k_l_drawn T.b_l_drawn pass_cx (pv 4) AX.nil) ioP (fun _ h => ps_set (i := 6) sc_law.nd rfl (Or.inl rfl) h))
    (SXs.one (SX.ifS (TX.w (WX.or (TX.not (TX.val (EX.callIO (ok_l_event_right T B) (hr.mono (by decide)) hgd T.g_l_event_right T.k_l_event_right T.b_l_event_right pass_cx (pv 4) (AX.cons (EX.var ioP (pv 6)) AX.nil)))) (WX.or (TX.not (TX.val (EX.call (ok_l_text_right T B) (hr.mono (by decide)) hgd T.g_l_text_right T.k_l_text_right T.b_l_text_right pass_cx (AX.cons (EX.callIO (ok_l_bent T) (hr.mono (by decide)) hgd T.g_l_bent T.k_l_bent T.b_l_bent pass_cx (pv 4) (AX.cons (EX.call (ok_l_text T) (hr.mono (by decide)) hgd T.g_l_text T.k_l_text T.b_l_text pass_cx (AX.cons (EX.var ioP (pv 6)) AX.nil)) AX.nil)) AX.nil)))) (WX.or1 (TX.not (TX.val (EX.call (ok_l_text_right T B) (hr.mono (by decide)) hgd T.g_l_text_right T.k_l_text_right T.b_l_text_right pass_cx (AX.cons (EX.callIO (ok_l_bent T) (hr.mono (by decide)) hgd T.g_l_bent T.k_l_bent T.b_l_bent pass_cx (pv 4) (AX.cons (EX.call (ok_l_text T) (hr.mono (by decide)) hgd T.g_l_text T.k_l_text T.b_l_text pass_cx (AX.cons (EX.var ioP (pv 6)) AX.nil)) AX.nil)) AX.nil)))))))) (SXs.one (SX.ret EX.bl)) SXs.nil))))
    (SXs.one (SX.ifS (TX.not (TX.val (EX.call (ok_l_text_right T B) (hr.mono (by decide)) hgd T.g_l_text_right T.k_l_text_right T.b_l_text_right pass_cx (AX.cons (EX.methS om_join PySem.F.plainAttrs_str PySem.F.slot_str_join PySem.F.type_str_join mt_join EX.str (AX.cons (LX.ex (LX.lc (own := [("turn", 5)]) rfl sc_law.nd (IX.range1 (AX.cons (EX.callIO (ok_l_draw T) (hr.mono (by decide)) hgd T.g_l_draw T.k_l_draw T.b_l_draw pass_cx (pv 4) (AX.cons EX.int AX.nil)) AX.nil) T.n_range) (blkOk_by (N := n_law) (sc := (defScope s_law)) (by decide +kernel)) ioPs (by decide) (fun _ _ _ _ _ => (TGX.name ioP (pg_name (i := 5) sc_law.nd rfl (by first | exact Or.inl rfl | exact Or.inr rfl)))) (fun _ _ _ _ _ => TXS.nil) (fun _ _ _ _ _ => (EX.callIO (ok_l_pick T) (hr.mono (by decide)) hgd T.g_l_pick T.k_l_pick T.b_l_pick pass_W0 (pv 4) (AX.cons (LX.ex (LX.lst (AX.cons EX.str (AX.cons EX.str (AX.cons EX.str (AX.cons EX.str (AX.cons EX.str (AX.cons EX.str (AX.cons EX.str AX.nil))))))))) AX.nil))))) AX.nil)) AX.nil)))) (SXs.one (SX.ret EX.bl)) SXs.nil)))))
    (SXs.cons (SX.set (LX.ex (LX.lst (AX.cons EX.non (AX.cons EX.int (AX.cons (EX.tup (AX.cons EX.str AX.nil)) (AX.cons (LX.ex (LX.lst (AX.cons EX.str AX.nil))) (AX.cons EX.bl AX.nil))))))) ioP (fun _ h => ps_set (i := 3) sc_law.nd rfl (Or.inl rfl) h))
    (SXs.one (SX.ret (EX.and (EX.callB ol_all (cr_all rfl) T.n_all boot_all' (AX.cons (LX.ex (LX.lc (own := [("text", 7)]) rfl sc_law.nd (IX.seq (EX.var ioP (pv 1))) (blkOk_by (N := n_law) (sc := (defScope s_law)) (by decide +kernel)) ioPs (by decide) (fun _ _ _ _ _ => (TGX.name ioP (pg_name (i := 7) sc_law.nd rfl (by first | exact Or.inl rfl | exact Or.inr rfl)))) (fun _ _ _ _ _ => TXS.nil) (fun _ _ _ _ _ => (EX.call (ok_l_text_right T B) (hr.mono (by decide)) hgd T.g_l_text_right T.k_l_text_right T.b_l_text_right pass_W0 (AX.cons (EX.var ioP (pv 7)) AX.nil))))) AX.nil)) (EX.one (EX.cmp o2_eq (op_eqP hu) (LX.ex (LX.lc (own := [("odd", 8)]) rfl sc_law.nd (IX.seq (EX.var ioP (pv 3))) (blkOk_by (N := n_law) (sc := (defScope s_law)) (by decide +kernel)) ioPs (by decide) (fun _ _ _ _ _ => (TGX.name ioP (pg_name (i := 8) sc_law.nd rfl (by first | exact Or.inl rfl | exact Or.inr rfl)))) (fun _ _ _ _ _ => TXS.nil) (fun _ _ _ _ _ => (EX.heard (k := 6) (l := T.cl) (ini := (some "none")) (wr := (some "told")) T.F_l_heard sc_l_heard T.b_l_heard rfl (fun cdg => (HC.cons T.xm_UnreadEvent rfl rfl (IT.lst (ITs.cons IT.str (ITs.cons (IT.fld T.xx_UnreadEvent T.xn_UnreadEvent_position rfl (Or.inl rfl)) (ITs.cons (IT.isi T.xi_UnreadEvent_ContestError T.xm_ContestError rfl rfl (Or.inl rfl) rfl T.n_isinstance) ITs.nil)))) (fun _ => rfl) (HC.cons T.xm_InvalidEvent rfl rfl (IT.lst (ITs.cons IT.str (ITs.cons (IT.repr hgd (room103 hr) rfl T.n_repr (IT.fld T.xx_InvalidEvent T.xn_InvalidEvent_value rfl (Or.inl rfl))) (ITs.cons (IT.isi T.xi_InvalidEvent_ContestError T.xm_ContestError rfl rfl (Or.inl rfl) rfl T.n_isinstance) ITs.nil)))) (fun _ => rfl) (HC.cons T.xm_InvalidText rfl rfl (IT.lst (ITs.cons IT.str (ITs.cons (IT.repr hgd (room103 hr) rfl T.n_repr (IT.fld T.xx_InvalidText T.xn_InvalidText_value rfl (Or.inl rfl))) (ITs.cons (IT.isi T.xi_InvalidText_ContestError T.xm_ContestError rfl rfl (Or.inl rfl) rfl T.n_isinstance) ITs.nil)))) (fun _ => rfl) HC.nil)))) T.exm T.clm rfl rfl rfl rfl rfl (Or.inl rfl) rfl rfl rfl rfl .lst .lst (fun _ => rfl) (fun _ => rfl) T.g_l_heard T.k_l_heard B.b_law rfl T.tm_law T.tu_law (hr.mono (by decide)) (LamX.lamS_by rfl) rfl (fun _ _ _ _ _ => rfl) (fun A outer s H E f c' hr2 => (have hu := hr2.units; (EX.callN (ok_event_of_text T) (hr2.mono (by decide)) T.g_event_of_text T.k_event_of_text T.b_event_of_text (passAt takes_lam) (AX.cons (EX.var ioP (pv 8)) AX.nil)))))))) (LX.ex (LX.lc (own := [("odd", 8)]) rfl sc_law.nd (IX.seq (EX.var ioP (pv 3))) (blkOk_by (N := n_law) (sc := (defScope s_law)) (by decide +kernel)) ioPs (by decide) (fun _ _ _ _ _ => (TGX.name ioP (pg_name (i := 8) sc_law.nd rfl (by first | exact Or.inl rfl | exact Or.inr rfl)))) (fun _ _ _ _ _ => TXS.nil) (fun _ _ _ _ _ => (LX.ex (LX.lst (AX.cons EX.str (AX.cons (EX.callB ol_repr (cr_repr hgd hur) T.n_repr boot_repr' (AX.cons (EX.var ioP (pv 8)) AX.nil)) (AX.cons EX.bl AX.nil))))))))))))))))))
end
end K12
end L2
set_option linter.all false
set_option maxRecDepth 100000
set_option maxHeartbeats 2000000
namespace L2
namespace K12
open PySem PySem.Spec PL TL
open _root_.SX (S S_len S_cat S_tl S_inj split_S join_S num_S int_S)
def drawV (a b many : Int) : Int × Int × Int := if 0 < a then (a % many, a / many, b) else
  ((((b * 48255 + 2405) % 2147483563) * ((b * 48255 + 2405) % 2147483563) % 2147483549 / 29) % many, a, (b * 48255 + 2405) % 2147483563)
def PotOk (a b : Int) : Prop := 0 ≤ a ∧ 0 ≤ b ∧ b ≤ 2147483563
theorem x_l_draw (a b many : Int) (hp : PotOk a b) (hm : 0 < many ∧ many < 1073741824) : f_l_draw [.int a, .int b] [.int many] = (.ok (.int (drawV a b many).1), [.int (drawV a b many).2.1, .int (drawV a b many).2.2]) := by
  unfold f_l_draw g_l_draw runIO drawV
  have m1 : ∀ x : Int, mulF (.int x) (.int 48255) = some (.int (x * 48255)) := fun x => mul_int (by unfold small64b; simp)
  have e1 : ∀ x, modF (.int x) (.int 2147483563) = some (.int (x % 2147483563)) := fun x => mod_int (by decide)
  have e2 : ∀ x, modF (.int x) (.int 2147483549) = some (.int (x % 2147483549)) := fun x => mod_int (by decide)
  have e3 : ∀ x, fdivF (.int x) (.int 29) = some (.int (x / 29)) := fun x => fdiv_int (by decide)
  have e4 : ∀ x, modF (.int x) (.int many) = some (.int (x % many)) := fun x => mod_int hm.1
  have i1 : ∀ x, intF [.int x] = some (.int x) := fun x => rfl
  have d1 : ∀ x, divmodF [.int x, .int many] = some (.tup [.int (x / many), .int (x % many)]) := fun x => by unfold divmodF; simp [hm]
  by_cases h : 0 < a
  · simp only [seqS, ifS, boolE, binE, unE, appE, ixOwnE, popOwnE, lenOwnE, cE, varE, retS, retNS, asgS, asgOwnS, parS, parOwnS, appendS, dropS, nopS, forS, forGo, seqI, range1I, range2I, enumI, rangeL, callE, callIO, callL, consA, nilA, nameT, tupT, consT, nilT, ownIxT, andE, orE, notE, andT, orT, notT, chainE, ifE, slE, someO, noO, lstE, lstF, appL, methE, isStrD, raiseS, rsIO, rsOf, own0, ofOpt, R.bind_ok, R.bind_er, R.bindS_ok, R.bindS_er, Option.bind_some, Option.map_some, List.map_cons, List.map_nil, List.cons_append, List.nil_append, List.replicate_succ, List.replicate_zero, List.getElem?_cons_zero, List.getElem?_cons_succ, List.length_cons, List.length_nil, List.set_cons_zero, List.set_cons_succ, isOwn, if_true, reduceIte, Bool.false_eq_true, Nat.reduceAdd, atI_0, atI_1, ixN_0, ixN_1, gt_int, lt_int, le_int, ge_int, add_int, sub_int, eq_int, ne_int, eq_str, ne_str, decide_true, decide_false, Nat.zero_add, h, d1]
  · have m2 : mulF (.int ((b * 48255 + 2405) % 2147483563)) (.int ((b * 48255 + 2405) % 2147483563)) = some (.int (((b * 48255 + 2405) % 2147483563) * ((b * 48255 + 2405) % 2147483563))) := mul_int (by
      unfold small64b
      have z1 := Int.emod_nonneg (b * 48255 + 2405) (show (2147483563 : Int) ≠ 0 by decide)
      have z2 := Int.emod_lt_of_pos (b * 48255 + 2405) (show (0 : Int) < 2147483563 by decide)
      simp only [Bool.or_self, decide_eq_true_eq]
      omega)
    simp only [seqS, ifS, boolE, binE, unE, appE, ixOwnE, popOwnE, lenOwnE, cE, varE, retS, retNS, asgS, asgOwnS, parS, parOwnS, appendS, dropS, nopS, forS, forGo, seqI, range1I, range2I, enumI, rangeL, callE, callIO, callL, consA, nilA, nameT, tupT, consT, nilT, ownIxT, andE, orE, notE, andT, orT, notT, chainE, ifE, slE, someO, noO, lstE, lstF, appL, methE, isStrD, raiseS, rsIO, rsOf, own0, ofOpt, R.bind_ok, R.bind_er, R.bindS_ok, R.bindS_er, Option.bind_some, Option.map_some, List.map_cons, List.map_nil, List.cons_append, List.nil_append, List.replicate_succ, List.replicate_zero, List.getElem?_cons_zero, List.getElem?_cons_succ, List.length_cons, List.length_nil, List.set_cons_zero, List.set_cons_succ, isOwn, if_true, reduceIte, Bool.false_eq_true, Nat.reduceAdd, atI_0, atI_1, ixN_0, ixN_1, gt_int, lt_int, le_int, ge_int, add_int, sub_int, eq_int, ne_int, eq_str, ne_str, decide_true, decide_false, Nat.zero_add, h, m1, m2, e1, e2, e3, e4, i1]
theorem drawV_ok (a b many : Int) (hp : PotOk a b) (hm : 0 < many) : 0 ≤ (drawV a b many).1 ∧ (drawV a b many).1 < many ∧ PotOk (drawV a b many).2.1 (drawV a b many).2.2 := by
  obtain ⟨h1, h2, h3⟩ := hp
  unfold drawV
  by_cases h : 0 < a
  · rw [if_pos h]
    exact ⟨Int.emod_nonneg _ (by omega), Int.emod_lt_of_pos _ hm, Int.ediv_nonneg h1 (by omega), h2, h3⟩
  · rw [if_neg h]
    have z1 := Int.emod_nonneg (b * 48255 + 2405) (show (2147483563 : Int) ≠ 0 by decide)
    have z2 := Int.emod_lt_of_pos (b * 48255 + 2405) (show (0 : Int) < 2147483563 by decide)
    exact ⟨Int.emod_nonneg _ (by omega), Int.emod_lt_of_pos _ hm, h1, z1, by show (b * 48255 + 2405) % 2147483563 ≤ 2147483563; omega⟩
theorem t_p1 : powF (.int 10) (.int 18) = some (.int (10 ^ 18)) := by
  have z : (decide ((0 : Int) ≤ 18 ∧ (18 : Int) ≤ 1000000 ∧ (10 : Int).natAbs < 2 ^ 64)) = true := by decide
  unfold powF intsF
  simp only [z, if_true]
  congr 1
theorem t_lm : 2 ≤ lim := by decide
def cellE : GE D := (ifE (boolE (binE ltF (varE 1) (appE lenF (consA (varE 0) nilA)))) (appE absF (consA (binE ixF (varE 0) (varE 1)) nilA)) (binE addF (binE mulF (cE (.int 4129)) (varE 1)) (cE (.int 2405))))
def outL : GE (List D) := (lstF (consA (appE max2F (consA (cE (.int 0)) (consA (binE subF (varE 2) (binE powF (cE (.int 10)) (cE (.int 18)))) nilA))) (consA (binE addF (binE modF (appE intF (consA (binE addF (binE addF (binE mulF (binE modF (appE intF (consA (varE 2) nilA)) (cE (.int 2147483549))) (cE (.int 42277))) (binE mulF (cE (.int 4129)) (varE 1))) (cE (.int 2405))) nilA)) (cE (.int 2147483563))) (cE (.int 1))) nilA)))
theorem pot_is : g_l_pot = seqL (asgS cellE (nameT 2)) outL := rfl
theorem cell_ok (ns : List Int) (k : Nat) : ∃ c : Int, cellE [.d (.fz (ns.map .int)), .d (.int k), .un] = .ok (.int c) [.d (.fz (ns.map .int)), .d (.int k), .un] := by
  have l1 : lenF [.fz (ns.map D.int)] = some (.int ns.length) := by unfold lenF lenSF; simp
  by_cases h : k < ns.length
  · refine ⟨if ns[k] < 0 then -ns[k] else ns[k], ?_⟩
    unfold cellE
    have ab : ∀ x, absF [.int x] = some (.int (if x < 0 then -x else x)) := fun x => rfl
    have hx : ixF (.fz (ns.map D.int)) (.int k) = some (.int ns[k]) := by
      show atI (ns.map D.int) (k : Int) = _
      unfold atI ixN
      rw [List.length_map, if_pos (by omega), if_pos (by omega)]
      simp [h]
    have hk2 : ((k : Int) < (ns.length : Int)) := by omega
    simp only [seqS, ifS, boolE, binE, unE, appE, ixOwnE, popOwnE, lenOwnE, cE, varE, retS, retNS, asgS, asgOwnS, parS, parOwnS, appendS, dropS, nopS, forS, forGo, seqI, range1I, range2I, enumI, rangeL, callE, callIO, callL, consA, nilA, nameT, tupT, consT, nilT, ownIxT, andE, orE, notE, andT, orT, notT, chainE, ifE, slE, someO, noO, lstE, lstF, appL, methE, isStrD, raiseS, rsIO, rsOf, own0, ofOpt, R.bind_ok, R.bind_er, R.bindS_ok, R.bindS_er, Option.bind_some, Option.map_some, List.map_cons, List.map_nil, List.cons_append, List.nil_append, List.replicate_succ, List.replicate_zero, List.getElem?_cons_zero, List.getElem?_cons_succ, List.length_cons, List.length_nil, List.set_cons_zero, List.set_cons_succ, isOwn, if_true, reduceIte, Bool.false_eq_true, Nat.reduceAdd, atI_0, atI_1, ixN_0, ixN_1, gt_int, lt_int, le_int, ge_int, add_int, sub_int, eq_int, ne_int, eq_str, ne_str, decide_true, decide_false, Nat.zero_add, l1, hk2, hx, ab]
  · refine ⟨4129 * k + 2405, ?_⟩
    unfold cellE
    have m2 : ∀ x : Int, mulF (.int 4129) (.int x) = some (.int (4129 * x)) := fun x => mul_int (by unfold small64b; simp)
    have hk2 : ¬ ((k : Int) < (ns.length : Int)) := by omega
    simp only [seqS, ifS, boolE, binE, unE, appE, ixOwnE, popOwnE, lenOwnE, cE, varE, retS, retNS, asgS, asgOwnS, parS, parOwnS, appendS, dropS, nopS, forS, forGo, seqI, range1I, range2I, enumI, rangeL, callE, callIO, callL, consA, nilA, nameT, tupT, consT, nilT, ownIxT, andE, orE, notE, andT, orT, notT, chainE, ifE, slE, someO, noO, lstE, lstF, appL, methE, isStrD, raiseS, rsIO, rsOf, own0, ofOpt, R.bind_ok, R.bind_er, R.bindS_ok, R.bindS_er, Option.bind_some, Option.map_some, List.map_cons, List.map_nil, List.cons_append, List.nil_append, List.replicate_succ, List.replicate_zero, List.getElem?_cons_zero, List.getElem?_cons_succ, List.length_cons, List.length_nil, List.set_cons_zero, List.set_cons_succ, isOwn, if_true, reduceIte, Bool.false_eq_true, Nat.reduceAdd, atI_0, atI_1, ixN_0, ixN_1, gt_int, lt_int, le_int, ge_int, add_int, sub_int, eq_int, ne_int, eq_str, ne_str, decide_true, decide_false, Nat.zero_add, l1, hk2, m2]
theorem out_ok (x : SV) (k c : Int) : ∃ a b, outL [x, .d (.int k), .d (.int c)] = .ok [.int a, .int b] [x, .d (.int k), .d (.int c)] ∧ PotOk a b := by
  have tp := t_p1
  generalize (10 : Int) ^ 18 = t at tp
  have m1 : ∀ x : Int, mulF (.int x) (.int 42277) = some (.int (x * 42277)) := fun x => mul_int (by unfold small64b; simp)
  have m2 : ∀ x : Int, mulF (.int 4129) (.int x) = some (.int (4129 * x)) := fun x => mul_int (by unfold small64b; simp)
  have e1 : ∀ x, modF (.int x) (.int 2147483563) = some (.int (x % 2147483563)) := fun x => mod_int (by decide)
  have e2 : ∀ x, modF (.int x) (.int 2147483549) = some (.int (x % 2147483549)) := fun x => mod_int (by decide)
  have i1 : ∀ x, intF [.int x] = some (.int x) := fun x => rfl
  have mx : ∀ x y, max2F [.int x, .int y] = some (.int (if y > x then y else x)) := fun x y => rfl
  refine ⟨if c - t > 0 then c - t else 0, (c % 2147483549 * 42277 + 4129 * k + 2405) % 2147483563 + 1, ?_, ?_⟩
  · unfold outL
    simp only [seqS, ifS, boolE, binE, unE, appE, ixOwnE, popOwnE, lenOwnE, cE, varE, retS, retNS, asgS, asgOwnS, parS, parOwnS, appendS, dropS, nopS, forS, forGo, seqI, range1I, range2I, enumI, rangeL, callE, callIO, callL, consA, nilA, nameT, tupT, consT, nilT, ownIxT, andE, orE, notE, andT, orT, notT, chainE, ifE, slE, someO, noO, lstE, lstF, appL, methE, isStrD, raiseS, rsIO, rsOf, own0, ofOpt, R.bind_ok, R.bind_er, R.bindS_ok, R.bindS_er, Option.bind_some, Option.map_some, List.map_cons, List.map_nil, List.cons_append, List.nil_append, List.replicate_succ, List.replicate_zero, List.getElem?_cons_zero, List.getElem?_cons_succ, List.length_cons, List.length_nil, List.set_cons_zero, List.set_cons_succ, isOwn, if_true, reduceIte, Bool.false_eq_true, Nat.reduceAdd, atI_0, atI_1, ixN_0, ixN_1, gt_int, lt_int, le_int, ge_int, add_int, sub_int, eq_int, ne_int, eq_str, ne_str, decide_true, decide_false, Nat.zero_add, tp, m1, m2, e1, e2, i1, mx, t_lm]
  · have z1 := Int.emod_nonneg (c % 2147483549 * 42277 + 4129 * k + 2405) (show (2147483563 : Int) ≠ 0 by decide)
    have z2 := Int.emod_lt_of_pos (c % 2147483549 * 42277 + 4129 * k + 2405) (show (0 : Int) < 2147483563 by decide)
    refine ⟨?_, by omega, by omega⟩
    by_cases h : c - t > 0
    · rw [if_pos h]; omega
    · rw [if_neg h]; omega
theorem x_l_pot (ns : List Int) (k : Nat) : ∃ a b, f_l_pot [.fz (ns.map .int), .int k] = some [.int a, .int b] ∧ PotOk a b := by
  obtain ⟨c, hc⟩ := cell_ok ns k
  obtain ⟨a, b, ho, hp⟩ := out_ok (.d (.fz (ns.map .int))) k c
  refine ⟨a, b, ?_, hp⟩
  unfold f_l_pot runL
  rw [pot_is]
  simp only [seqL, seqS, ifS, boolE, binE, unE, appE, ixOwnE, popOwnE, lenOwnE, cE, varE, retS, retNS, asgS, asgOwnS, parS, parOwnS, appendS, dropS, nopS, forS, forGo, seqI, range1I, range2I, enumI, rangeL, callE, callIO, callL, consA, nilA, nameT, tupT, consT, nilT, ownIxT, andE, orE, notE, andT, orT, notT, chainE, ifE, slE, someO, noO, lstE, lstF, appL, methE, isStrD, raiseS, rsIO, rsOf, own0, ofOpt, R.bind_ok, R.bind_er, R.bindS_ok, R.bindS_er, Option.bind_some, Option.map_some, List.map_cons, List.map_nil, List.cons_append, List.nil_append, List.replicate_succ, List.replicate_zero, List.getElem?_cons_zero, List.getElem?_cons_succ, List.length_cons, List.length_nil, List.set_cons_zero, List.set_cons_succ, isOwn, if_true, reduceIte, Bool.false_eq_true, Nat.reduceAdd, atI_0, atI_1, ixN_0, ixN_1, gt_int, lt_int, le_int, ge_int, add_int, sub_int, eq_int, ne_int, eq_str, ne_str, decide_true, decide_false, Nat.zero_add, hc, ho]
theorem x_draw (a b many : Int) (hp : PotOk a b) (hm : 0 < many ∧ many < 1073741824) : ∃ d a' b', f_l_draw [.int a, .int b] [.int many] = (.ok (.int d), [.int a', .int b']) ∧ 0 ≤ d ∧ d < many ∧ PotOk a' b' := by
  obtain ⟨h1, h2, h3⟩ := drawV_ok a b many hp hm.1
  exact ⟨_, _, _, x_l_draw a b many hp hm, h1, h2, h3⟩
theorem x_drawN (a b : Int) (n : Nat) (hp : PotOk a b) (hm : 0 < n ∧ n < 1073741824) : ∃ (d : Nat) (a' b' : Int), f_l_draw [.int a, .int b] [.int n] = (.ok (.int d), [.int a', .int b']) ∧ d < n ∧ PotOk a' b' := by
  obtain ⟨d, a', b', e, h1, h2, h3⟩ := x_draw a b n hp ⟨by omega, by omega⟩
  refine ⟨d.toNat, a', b', ?_, by omega, h3⟩
  rw [show ((d.toNat : Nat) : Int) = d by omega]
  exact e
theorem x_pick (a b : Int) (hp : PotOk a b) (xs : List D) (h0 : xs ≠ []) (hl : xs.length < 1073741824) : ∃ d a' b', f_l_pick [.int a, .int b] [.lst xs] = (.ok d, [.int a', .int b']) ∧ d ∈ xs ∧ PotOk a' b' := by
  have hpos : 0 < xs.length := List.length_pos_iff.mpr h0
  obtain ⟨j, a', b', e, hj, h3⟩ := x_drawN a b xs.length hp ⟨hpos, hl⟩
  refine ⟨xs[j], a', b', ?_, List.getElem_mem _, h3⟩
  have l1 : lenF [.lst xs] = some (.int xs.length) := rfl
  have hx : ixF (.lst xs) (.int j) = some xs[j] := by
    show atI xs (j : Int) = _
    unfold atI ixN
    rw [if_pos (by omega), if_pos (by omega)]
    simp [hj]
  unfold f_l_pick g_l_pick runIO
  simp only [seqS, ifS, boolE, binE, unE, appE, ixOwnE, popOwnE, lenOwnE, cE, varE, retS, retNS, asgS, asgOwnS, parS, parOwnS, appendS, dropS, nopS, forS, forGo, seqI, range1I, range2I, enumI, rangeL, callE, callIO, callL, consA, nilA, nameT, tupT, consT, nilT, ownIxT, andE, orE, notE, andT, orT, notT, chainE, ifE, slE, someO, noO, lstE, lstF, appL, methE, isStrD, raiseS, rsIO, rsOf, own0, ofOpt, R.bind_ok, R.bind_er, R.bindS_ok, R.bindS_er, Option.bind_some, Option.map_some, List.map_cons, List.map_nil, List.cons_append, List.nil_append, List.replicate_succ, List.replicate_zero, List.getElem?_cons_zero, List.getElem?_cons_succ, List.length_cons, List.length_nil, List.set_cons_zero, List.set_cons_succ, isOwn, if_true, reduceIte, Bool.false_eq_true, Nat.reduceAdd, atI_0, atI_1, ixN_0, ixN_1, gt_int, lt_int, le_int, ge_int, add_int, sub_int, eq_int, ne_int, eq_str, ne_str, decide_true, decide_false, Nat.zero_add, l1, e, hx]
end K12
end L2
set_option linter.all false
set_option maxRecDepth 100000
set_option maxHeartbeats 2000000
namespace L2
namespace K12
open PySem PySem.Spec PL TL
open _root_.SX (S S_len S_cat S_tl S_inj split_S join_S num_S int_S)
theorem x_is_integer (d : D) : f_is_integer [d] = .ok (.bl (isInt d)) := by cases d <;> rfl
theorem x_is_within (d : D) (a b : Int) : f_is_within [d, .int a, .int b] = .ok (.bl (within d a b)) := by
  unfold f_is_within g_is_within runP
  simp only [seqS, ifS, boolE, binE, unE, appE, ixOwnE, popOwnE, lenOwnE, cE, varE, retS, retNS, asgS, asgOwnS, parS, parOwnS, appendS, dropS, nopS, forS, forGo, seqI, range1I, range2I, enumI, rangeL, callE, callIO, callL, consA, nilA, nameT, tupT, consT, nilT, ownIxT, andE, orE, notE, andT, orT, notT, chainE, ifE, slE, someO, noO, lstE, lstF, appL, methE, isStrD, raiseS, rsIO, rsOf, own0, ofOpt, R.bind_ok, R.bind_er, R.bindS_ok, R.bindS_er, Option.bind_some, Option.map_some, List.map_cons, List.map_nil, List.cons_append, List.nil_append, List.replicate_succ, List.replicate_zero, List.getElem?_cons_zero, List.getElem?_cons_succ, List.length_cons, List.length_nil, List.set_cons_zero, List.set_cons_succ, isOwn, if_true, reduceIte, Bool.false_eq_true, Nat.reduceAdd, atI_0, atI_1, ixN_0, ixN_1, gt_int, lt_int, le_int, ge_int, add_int, sub_int, eq_int, ne_int, eq_str, ne_str, decide_true, decide_false, Nat.zero_add, x_is_integer]
  cases d with
  | int i =>
    simp only [isInt, within]
    by_cases h : a ≤ i
    · simp only [seqS, ifS, boolE, binE, unE, appE, ixOwnE, popOwnE, lenOwnE, cE, varE, retS, retNS, asgS, asgOwnS, parS, parOwnS, appendS, dropS, nopS, forS, forGo, seqI, range1I, range2I, enumI, rangeL, callE, callIO, callL, consA, nilA, nameT, tupT, consT, nilT, ownIxT, andE, orE, notE, andT, orT, notT, chainE, ifE, slE, someO, noO, lstE, lstF, appL, methE, isStrD, raiseS, rsIO, rsOf, own0, ofOpt, R.bind_ok, R.bind_er, R.bindS_ok, R.bindS_er, Option.bind_some, Option.map_some, List.map_cons, List.map_nil, List.cons_append, List.nil_append, List.replicate_succ, List.replicate_zero, List.getElem?_cons_zero, List.getElem?_cons_succ, List.length_cons, List.length_nil, List.set_cons_zero, List.set_cons_succ, isOwn, if_true, reduceIte, Bool.false_eq_true, Nat.reduceAdd, atI_0, atI_1, ixN_0, ixN_1, gt_int, lt_int, le_int, ge_int, add_int, sub_int, eq_int, ne_int, eq_str, ne_str, decide_true, decide_false, Nat.zero_add, h, Bool.true_and]
    · simp only [seqS, ifS, boolE, binE, unE, appE, ixOwnE, popOwnE, lenOwnE, cE, varE, retS, retNS, asgS, asgOwnS, parS, parOwnS, appendS, dropS, nopS, forS, forGo, seqI, range1I, range2I, enumI, rangeL, callE, callIO, callL, consA, nilA, nameT, tupT, consT, nilT, ownIxT, andE, orE, notE, andT, orT, notT, chainE, ifE, slE, someO, noO, lstE, lstF, appL, methE, isStrD, raiseS, rsIO, rsOf, own0, ofOpt, R.bind_ok, R.bind_er, R.bindS_ok, R.bindS_er, Option.bind_some, Option.map_some, List.map_cons, List.map_nil, List.cons_append, List.nil_append, List.replicate_succ, List.replicate_zero, List.getElem?_cons_zero, List.getElem?_cons_succ, List.length_cons, List.length_nil, List.set_cons_zero, List.set_cons_succ, isOwn, if_true, reduceIte, Bool.false_eq_true, Nat.reduceAdd, atI_0, atI_1, ixN_0, ixN_1, gt_int, lt_int, le_int, ge_int, add_int, sub_int, eq_int, ne_int, eq_str, ne_str, decide_true, decide_false, Nat.zero_add, h, Bool.false_and]
  | _ => rfl
theorem letters_is : c_LETTERS = .str (S (List.range' 97 26)) := rfl
theorem in_letters (c : Nat) : inF (.str ⟨#[c]⟩) c_LETTERS = some (.bl (low c)) := by
  rw [letters_is]
  show some (D.bl (decide (c ∈ List.range' 97 26))) = _
  congr 2
  unfold low
  rw [← Bool.decide_and]
  apply decide_eq_decide.mpr
  rw [List.mem_range'_1]
  omega
theorem x_is_name (a : List Nat) (hl : a.length ≤ 1000) : f_is_name_value [.str (S a)] = .ok (.bl (isName a)) := by
  have hc : lcE [1] (seqI (varE 0)) (nameT 1) yesT (binE inF (varE 1) (cE c_LETTERS)) [.d (.str (S a)), .un] = .ok (a.map fun c => D.bl (low c)) [.d (.str (S a)), .un] := by
    refine (lcE_pure (vs := [1]) (gi := seqI (varE 0)) (fun _ => true) (chD low) (items := signs (S a)) (ρ1 := [.d (.str (S a)), .un]) rfl rfl (by unfold signs lim; simp; omega) rfl ?_).trans (by rw [signs_ch])
    intro d hd
    obtain ⟨c, hc, rfl⟩ := List.mem_map.mp hd
    refine ⟨[.d (.str (S a)), .d (.str ⟨#[c]⟩)], rfl, rfl, rfl, fun _ => ?_⟩
    simp only [seqS, ifS, boolE, binE, unE, appE, ixOwnE, popOwnE, lenOwnE, cE, varE, retS, retNS, asgS, asgOwnS, parS, parOwnS, appendS, dropS, nopS, forS, forGo, seqI, range1I, range2I, enumI, rangeL, callE, callIO, callL, consA, nilA, nameT, tupT, consT, nilT, ownIxT, andE, orE, notE, andT, orT, notT, chainE, ifE, slE, someO, noO, lstE, lstF, appL, methE, isStrD, raiseS, rsIO, rsOf, own0, ofOpt, R.bind_ok, R.bind_er, R.bindS_ok, R.bindS_er, Option.bind_some, Option.map_some, List.map_cons, List.map_nil, List.cons_append, List.nil_append, List.replicate_succ, List.replicate_zero, List.getElem?_cons_zero, List.getElem?_cons_succ, List.length_cons, List.length_nil, List.set_cons_zero, List.set_cons_succ, isOwn, if_true, reduceIte, Bool.false_eq_true, Nat.reduceAdd, atI_0, atI_1, ixN_0, ixN_1, gt_int, lt_int, le_int, ge_int, add_int, sub_int, eq_int, ne_int, eq_str, ne_str, decide_true, decide_false, Nat.zero_add, in_letters]
    rfl
  have e1 : isiF "str" (.str (S a)) = some (.bl true) := rfl
  have e2 : lenF [.str (S a)] = some (.int a.length) := by
    unfold lenF lenSF lenTF
    simp only [S_len]
    rw [if_pos (by unfold lim; omega)]
  have e3 : c_MOST_NAME = .int 12 := rfl
  have e4 := all_map low a
  unfold f_is_name_value g_is_name_value runP isName
  by_cases h1 : 1 ≤ a.length
  · have h1' : (1 : Int) ≤ a.length := by omega
    by_cases h2 : a.length ≤ 12
    · have h2' : (a.length : Int) ≤ 12 := by omega
      simp only [seqS, ifS, boolE, binE, unE, appE, ixOwnE, popOwnE, lenOwnE, cE, varE, retS, retNS, asgS, asgOwnS, parS, parOwnS, appendS, dropS, nopS, forS, forGo, seqI, range1I, range2I, enumI, rangeL, callE, callIO, callL, consA, nilA, nameT, tupT, consT, nilT, ownIxT, andE, orE, notE, andT, orT, notT, chainE, ifE, slE, someO, noO, lstE, lstF, appL, methE, isStrD, raiseS, rsIO, rsOf, own0, ofOpt, R.bind_ok, R.bind_er, R.bindS_ok, R.bindS_er, Option.bind_some, Option.map_some, List.map_cons, List.map_nil, List.cons_append, List.nil_append, List.replicate_succ, List.replicate_zero, List.getElem?_cons_zero, List.getElem?_cons_succ, List.length_cons, List.length_nil, List.set_cons_zero, List.set_cons_succ, isOwn, if_true, reduceIte, Bool.false_eq_true, Nat.reduceAdd, atI_0, atI_1, ixN_0, ixN_1, gt_int, lt_int, le_int, ge_int, add_int, sub_int, eq_int, ne_int, eq_str, ne_str, decide_true, decide_false, Nat.zero_add, e1, e2, e3, h1', h2', hc, e4, h1, h2, Bool.true_and]
    · have h2' : ¬ (a.length : Int) ≤ 12 := by omega
      simp only [seqS, ifS, boolE, binE, unE, appE, ixOwnE, popOwnE, lenOwnE, cE, varE, retS, retNS, asgS, asgOwnS, parS, parOwnS, appendS, dropS, nopS, forS, forGo, seqI, range1I, range2I, enumI, rangeL, callE, callIO, callL, consA, nilA, nameT, tupT, consT, nilT, ownIxT, andE, orE, notE, andT, orT, notT, chainE, ifE, slE, someO, noO, lstE, lstF, appL, methE, isStrD, raiseS, rsIO, rsOf, own0, ofOpt, R.bind_ok, R.bind_er, R.bindS_ok, R.bindS_er, Option.bind_some, Option.map_some, List.map_cons, List.map_nil, List.cons_append, List.nil_append, List.replicate_succ, List.replicate_zero, List.getElem?_cons_zero, List.getElem?_cons_succ, List.length_cons, List.length_nil, List.set_cons_zero, List.set_cons_succ, isOwn, if_true, reduceIte, Bool.false_eq_true, Nat.reduceAdd, atI_0, atI_1, ixN_0, ixN_1, gt_int, lt_int, le_int, ge_int, add_int, sub_int, eq_int, ne_int, eq_str, ne_str, decide_true, decide_false, Nat.zero_add, e1, e2, e3, h1', h2', hc, e4, h1, h2, Bool.true_and, Bool.false_and]
  · have h1' : ¬ (1 : Int) ≤ a.length := by omega
    simp only [seqS, ifS, boolE, binE, unE, appE, ixOwnE, popOwnE, lenOwnE, cE, varE, retS, retNS, asgS, asgOwnS, parS, parOwnS, appendS, dropS, nopS, forS, forGo, seqI, range1I, range2I, enumI, rangeL, callE, callIO, callL, consA, nilA, nameT, tupT, consT, nilT, ownIxT, andE, orE, notE, andT, orT, notT, chainE, ifE, slE, someO, noO, lstE, lstF, appL, methE, isStrD, raiseS, rsIO, rsOf, own0, ofOpt, R.bind_ok, R.bind_er, R.bindS_ok, R.bindS_er, Option.bind_some, Option.map_some, List.map_cons, List.map_nil, List.cons_append, List.nil_append, List.replicate_succ, List.replicate_zero, List.getElem?_cons_zero, List.getElem?_cons_succ, List.length_cons, List.length_nil, List.set_cons_zero, List.set_cons_succ, isOwn, if_true, reduceIte, Bool.false_eq_true, Nat.reduceAdd, atI_0, atI_1, ixN_0, ixN_1, gt_int, lt_int, le_int, ge_int, add_int, sub_int, eq_int, ne_int, eq_str, ne_str, decide_true, decide_false, Nat.zero_add, e1, e2, e3, h1', hc, e4, h1, Bool.false_and]
theorem x_is_nameD (d : D) (hl : ∀ x, d = .str x → x.length ≤ 1000) : f_is_name_value [d] = .ok (.bl (isNameD d)) := by
  cases d with
  | str x =>
    have e : x = S x.cps.toList := (S_tl x).symm
    have := hl x rfl
    rw [e]
    exact x_is_name _ (by rw [← S_len, ← e]; exact this)
  | _ => rfl
end K12
end L2
set_option linter.all false
set_option maxRecDepth 100000
set_option maxHeartbeats 2000000
namespace L2
namespace K12
open PySem PySem.Spec PL TL
open _root_.SX (S S_len S_cat S_tl S_inj split_S join_S num_S int_S)
theorem digits_is : c_DIGITS = .str (S (List.range' 48 10)) := rfl
theorem in_digits (c : Nat) : inF (.str ⟨#[c]⟩) c_DIGITS = some (.bl (dig c)) := by
  rw [digits_is]
  show some (D.bl (decide (c ∈ List.range' 48 10))) = _
  congr 2
  unfold dig
  rw [← Bool.decide_and]
  apply decide_eq_decide.mpr
  rw [List.mem_range'_1]
  omega
def numE1 : GE D := (ifE (boolE (binE eqF (slE (varE 0) noO (someO (cE (.int 1)))) (cE c_MINUS))) (slE (varE 0) (someO (cE (.int 1))) noO) (varE 0))
theorem numE1_ok (p : List Nat) (hl : p.length ≤ 1000) (x y : SV) : numE1 [.d (.str (S p)), x, y] = .ok (.str (S (core p))) [.d (.str (S p)), x, y] := by
  have c1 := cut_to1 p hl
  have c2 := cut_from1 p hl
  have e1 : eqF (.str (S (p.take 1))) c_MINUS = some (.bl (dashed p)) := by
    show some (D.bl (decide (S (p.take 1) = S [45]))) = _
    rw [S_eq]
    rfl
  unfold numE1 core
  cases h : dashed p
  · simp only [seqS, ifS, boolE, binE, unE, appE, ixOwnE, popOwnE, lenOwnE, cE, varE, retS, retNS, asgS, asgOwnS, parS, parOwnS, appendS, dropS, nopS, forS, forGo, seqI, range1I, range2I, enumI, rangeL, callE, callIO, callL, consA, nilA, nameT, tupT, consT, nilT, ownIxT, andE, orE, notE, andT, orT, notT, chainE, ifE, slE, someO, noO, lstE, lstF, appL, methE, isStrD, raiseS, rsIO, rsOf, own0, ofOpt, R.bind_ok, R.bind_er, R.bindS_ok, R.bindS_er, Option.bind_some, Option.map_some, List.map_cons, List.map_nil, List.cons_append, List.nil_append, List.replicate_succ, List.replicate_zero, List.getElem?_cons_zero, List.getElem?_cons_succ, List.length_cons, List.length_nil, List.set_cons_zero, List.set_cons_succ, isOwn, if_true, reduceIte, Bool.false_eq_true, Nat.reduceAdd, atI_0, atI_1, ixN_0, ixN_1, gt_int, lt_int, le_int, ge_int, add_int, sub_int, eq_int, ne_int, eq_str, ne_str, decide_true, decide_false, Nat.zero_add, c1, e1, h]
  · simp only [seqS, ifS, boolE, binE, unE, appE, ixOwnE, popOwnE, lenOwnE, cE, varE, retS, retNS, asgS, asgOwnS, parS, parOwnS, appendS, dropS, nopS, forS, forGo, seqI, range1I, range2I, enumI, rangeL, callE, callIO, callL, consA, nilA, nameT, tupT, consT, nilT, ownIxT, andE, orE, notE, andT, orT, notT, chainE, ifE, slE, someO, noO, lstE, lstF, appL, methE, isStrD, raiseS, rsIO, rsOf, own0, ofOpt, R.bind_ok, R.bind_er, R.bindS_ok, R.bindS_er, Option.bind_some, Option.map_some, List.map_cons, List.map_nil, List.cons_append, List.nil_append, List.replicate_succ, List.replicate_zero, List.getElem?_cons_zero, List.getElem?_cons_succ, List.length_cons, List.length_nil, List.set_cons_zero, List.set_cons_succ, isOwn, if_true, reduceIte, Bool.false_eq_true, Nat.reduceAdd, atI_0, atI_1, ixN_0, ixN_1, gt_int, lt_int, le_int, ge_int, add_int, sub_int, eq_int, ne_int, eq_str, ne_str, decide_true, decide_false, Nat.zero_add, c1, c2, e1, h]
def N2 : GE Bool := orT (boolE (binE eqF (varE 1) (cE (.str "")))) (orT (boolE (binE gtF (appE lenF (consA (varE 1) nilA)) (cE c_MOST_DIGITS))) (notT (boolE (appE allF (consA (lstE (lcE [2] (seqI (varE 1)) (nameT 2) yesT (binE inF (varE 2) (cE c_DIGITS)))) nilA)))))
theorem N2_ok (x : SV) (q : List Nat) (hl : q.length ≤ 1000) : N2 [x, .d (.str (S q)), .un] = .ok (!okDig q) [x, .d (.str (S q)), .un] := by
  have hc : lcE [2] (seqI (varE 1)) (nameT 2) yesT (binE inF (varE 2) (cE c_DIGITS)) [x, .d (.str (S q)), .un] = .ok (q.map fun c => D.bl (dig c)) [x, .d (.str (S q)), .un] := by
    refine (lcE_pure (vs := [2]) (gi := seqI (varE 1)) (fun _ => true) (chD dig) (items := signs (S q)) (ρ1 := [x, .d (.str (S q)), .un]) rfl rfl (by unfold signs lim; simp; omega) rfl ?_).trans (by rw [signs_ch])
    intro d hd
    obtain ⟨c, hc, rfl⟩ := List.mem_map.mp hd
    refine ⟨[x, .d (.str (S q)), .d (.str ⟨#[c]⟩)], rfl, rfl, rfl, fun _ => ?_⟩
    simp only [seqS, ifS, boolE, binE, unE, appE, ixOwnE, popOwnE, lenOwnE, cE, varE, retS, retNS, asgS, asgOwnS, parS, parOwnS, appendS, dropS, nopS, forS, forGo, seqI, range1I, range2I, enumI, rangeL, callE, callIO, callL, consA, nilA, nameT, tupT, consT, nilT, ownIxT, andE, orE, notE, andT, orT, notT, chainE, ifE, slE, someO, noO, lstE, lstF, appL, methE, isStrD, raiseS, rsIO, rsOf, own0, ofOpt, R.bind_ok, R.bind_er, R.bindS_ok, R.bindS_er, Option.bind_some, Option.map_some, List.map_cons, List.map_nil, List.cons_append, List.nil_append, List.replicate_succ, List.replicate_zero, List.getElem?_cons_zero, List.getElem?_cons_succ, List.length_cons, List.length_nil, List.set_cons_zero, List.set_cons_succ, isOwn, if_true, reduceIte, Bool.false_eq_true, Nat.reduceAdd, atI_0, atI_1, ixN_0, ixN_1, gt_int, lt_int, le_int, ge_int, add_int, sub_int, eq_int, ne_int, eq_str, ne_str, decide_true, decide_false, Nat.zero_add, in_digits]
    rfl
  have e1 : eqF (.str (S q)) (.str ("" : Str)) = some (.bl q.isEmpty) := by
    show some (D.bl (decide (S q = S []))) = _
    rw [S_eq]
    cases q <;> rfl
  have e2 : lenF [.str (S q)] = some (.int q.length) := by
    unfold lenF lenSF lenTF
    simp only [S_len]
    rw [if_pos (by unfold lim; omega)]
  have e3 : c_MOST_DIGITS = .int 13 := rfl
  have e4 := all_map dig q
  unfold N2 okDig
  cases h0 : q.isEmpty
  · by_cases h1 : q.length ≤ 13
    · have h1' : ¬ ((13 : Int) < q.length) := by omega
      simp only [seqS, ifS, boolE, binE, unE, appE, ixOwnE, popOwnE, lenOwnE, cE, varE, retS, retNS, asgS, asgOwnS, parS, parOwnS, appendS, dropS, nopS, forS, forGo, seqI, range1I, range2I, enumI, rangeL, callE, callIO, callL, consA, nilA, nameT, tupT, consT, nilT, ownIxT, andE, orE, notE, andT, orT, notT, chainE, ifE, slE, someO, noO, lstE, lstF, appL, methE, isStrD, raiseS, rsIO, rsOf, own0, ofOpt, R.bind_ok, R.bind_er, R.bindS_ok, R.bindS_er, Option.bind_some, Option.map_some, List.map_cons, List.map_nil, List.cons_append, List.nil_append, List.replicate_succ, List.replicate_zero, List.getElem?_cons_zero, List.getElem?_cons_succ, List.length_cons, List.length_nil, List.set_cons_zero, List.set_cons_succ, isOwn, if_true, reduceIte, Bool.false_eq_true, Nat.reduceAdd, atI_0, atI_1, ixN_0, ixN_1, gt_int, lt_int, le_int, ge_int, add_int, sub_int, eq_int, ne_int, eq_str, ne_str, decide_true, decide_false, Nat.zero_add, e1, e2, e3, e4, hc, h0, h1, h1', Bool.not_false, Bool.true_and]
    · have h1' : ((13 : Int) < q.length) := by omega
      simp only [seqS, ifS, boolE, binE, unE, appE, ixOwnE, popOwnE, lenOwnE, cE, varE, retS, retNS, asgS, asgOwnS, parS, parOwnS, appendS, dropS, nopS, forS, forGo, seqI, range1I, range2I, enumI, rangeL, callE, callIO, callL, consA, nilA, nameT, tupT, consT, nilT, ownIxT, andE, orE, notE, andT, orT, notT, chainE, ifE, slE, someO, noO, lstE, lstF, appL, methE, isStrD, raiseS, rsIO, rsOf, own0, ofOpt, R.bind_ok, R.bind_er, R.bindS_ok, R.bindS_er, Option.bind_some, Option.map_some, List.map_cons, List.map_nil, List.cons_append, List.nil_append, List.replicate_succ, List.replicate_zero, List.getElem?_cons_zero, List.getElem?_cons_succ, List.length_cons, List.length_nil, List.set_cons_zero, List.set_cons_succ, isOwn, if_true, reduceIte, Bool.false_eq_true, Nat.reduceAdd, atI_0, atI_1, ixN_0, ixN_1, gt_int, lt_int, le_int, ge_int, add_int, sub_int, eq_int, ne_int, eq_str, ne_str, decide_true, decide_false, Nat.zero_add, e1, e2, e3, h0, h1, h1', Bool.not_false, Bool.true_and, Bool.false_and]
  · simp only [seqS, ifS, boolE, binE, unE, appE, ixOwnE, popOwnE, lenOwnE, cE, varE, retS, retNS, asgS, asgOwnS, parS, parOwnS, appendS, dropS, nopS, forS, forGo, seqI, range1I, range2I, enumI, rangeL, callE, callIO, callL, consA, nilA, nameT, tupT, consT, nilT, ownIxT, andE, orE, notE, andT, orT, notT, chainE, ifE, slE, someO, noO, lstE, lstF, appL, methE, isStrD, raiseS, rsIO, rsOf, own0, ofOpt, R.bind_ok, R.bind_er, R.bindS_ok, R.bindS_er, Option.bind_some, Option.map_some, List.map_cons, List.map_nil, List.cons_append, List.nil_append, List.replicate_succ, List.replicate_zero, List.getElem?_cons_zero, List.getElem?_cons_succ, List.length_cons, List.length_nil, List.set_cons_zero, List.set_cons_succ, isOwn, if_true, reduceIte, Bool.false_eq_true, Nat.reduceAdd, atI_0, atI_1, ixN_0, ixN_1, gt_int, lt_int, le_int, ge_int, add_int, sub_int, eq_int, ne_int, eq_str, ne_str, decide_true, decide_false, Nat.zero_add, e1, h0, Bool.not_true, Bool.false_and, Bool.not_false]
def N3 : GE Bool := andT (boolE (binE eqF (binE ixF (varE 1) (cE (.int 0))) (cE (.str "0")))) (boolE (binE neF (varE 0) (cE (.str "0"))))
theorem N3_ok (p q : List Nat) (y : SV) (h0 : q ≠ []) (hl : q.length ≤ 1000) : N3 [.d (.str (S p)), .d (.str (S q)), y] = .ok (lead p q) [.d (.str (S p)), .d (.str (S q)), y] := by
  have i0 : ixF (.str (S q)) (.int 0) = some (.str (S (q.take 1))) := by
    show (if (S q).length ≤ lim then (atI (S q).cps.toList 0).map fun c => D.str ⟨#[c]⟩ else none) = _
    rw [if_pos (by rw [S_len]; unfold lim; omega)]
    cases q with
    | nil => exact absurd rfl h0
    | cons c r =>
      show (atI (c :: r) 0).map _ = _
      rw [atI_0]
      rfl
  have e1 : eqF (.str (S (q.take 1))) (.str ("0" : Str)) = some (.bl (decide (q.take 1 = [48]))) := by
    show some (D.bl (decide (S (q.take 1) = S [48]))) = _
    rw [S_eq]
  have e2 : neF (.str (S p)) (.str ("0" : Str)) = some (.bl (!decide (p = [48]))) := by
    show some (D.bl (!decide (S p = S [48]))) = _
    rw [S_eq]
  unfold N3 lead
  cases h : decide (q.take 1 = [48])
  · simp only [seqS, ifS, boolE, binE, unE, appE, ixOwnE, popOwnE, lenOwnE, cE, varE, retS, retNS, asgS, asgOwnS, parS, parOwnS, appendS, dropS, nopS, forS, forGo, seqI, range1I, range2I, enumI, rangeL, callE, callIO, callL, consA, nilA, nameT, tupT, consT, nilT, ownIxT, andE, orE, notE, andT, orT, notT, chainE, ifE, slE, someO, noO, lstE, lstF, appL, methE, isStrD, raiseS, rsIO, rsOf, own0, ofOpt, R.bind_ok, R.bind_er, R.bindS_ok, R.bindS_er, Option.bind_some, Option.map_some, List.map_cons, List.map_nil, List.cons_append, List.nil_append, List.replicate_succ, List.replicate_zero, List.getElem?_cons_zero, List.getElem?_cons_succ, List.length_cons, List.length_nil, List.set_cons_zero, List.set_cons_succ, isOwn, if_true, reduceIte, Bool.false_eq_true, Nat.reduceAdd, atI_0, atI_1, ixN_0, ixN_1, gt_int, lt_int, le_int, ge_int, add_int, sub_int, eq_int, ne_int, eq_str, ne_str, decide_true, decide_false, Nat.zero_add, i0, e1, e2, h, Bool.false_and]
  · simp only [seqS, ifS, boolE, binE, unE, appE, ixOwnE, popOwnE, lenOwnE, cE, varE, retS, retNS, asgS, asgOwnS, parS, parOwnS, appendS, dropS, nopS, forS, forGo, seqI, range1I, range2I, enumI, rangeL, callE, callIO, callL, consA, nilA, nameT, tupT, consT, nilT, ownIxT, andE, orE, notE, andT, orT, notT, chainE, ifE, slE, someO, noO, lstE, lstF, appL, methE, isStrD, raiseS, rsIO, rsOf, own0, ofOpt, R.bind_ok, R.bind_er, R.bindS_ok, R.bindS_er, Option.bind_some, Option.map_some, List.map_cons, List.map_nil, List.cons_append, List.nil_append, List.replicate_succ, List.replicate_zero, List.getElem?_cons_zero, List.getElem?_cons_succ, List.length_cons, List.length_nil, List.set_cons_zero, List.set_cons_succ, isOwn, if_true, reduceIte, Bool.false_eq_true, Nat.reduceAdd, atI_0, atI_1, ixN_0, ixN_1, gt_int, lt_int, le_int, ge_int, add_int, sub_int, eq_int, ne_int, eq_str, ne_str, decide_true, decide_false, Nat.zero_add, i0, e1, e2, h, Bool.true_and]
theorem number_in_is : g_number_in = seqS (asgS numE1 (nameT 1)) (seqS (ifS N2 (retS (cE .non)) nopS) (seqS (ifS N3 (retS (cE .non)) nopS) (retS (appE intF (consA (varE 0) nilA))))) := rfl
theorem x_number_in (p : List Nat) (hl : p.length ≤ 640) : f_number_in [.str (S p)] = .ok (if numOk p then .int (numV p) else .non) := by
  have hc : (core p).length ≤ 1000 := by
    unfold core
    split
    · rw [List.length_drop]; omega
    · omega
  have n1 := numE1_ok p (by omega)
  unfold f_number_in runP numOk
  rw [number_in_is]
  cases h : okDig (core p)
  · simp only [seqS, ifS, boolE, binE, unE, appE, ixOwnE, popOwnE, lenOwnE, cE, varE, retS, retNS, asgS, asgOwnS, parS, parOwnS, appendS, dropS, nopS, forS, forGo, seqI, range1I, range2I, enumI, rangeL, callE, callIO, callL, consA, nilA, nameT, tupT, consT, nilT, ownIxT, andE, orE, notE, andT, orT, notT, chainE, ifE, slE, someO, noO, lstE, lstF, appL, methE, isStrD, raiseS, rsIO, rsOf, own0, ofOpt, R.bind_ok, R.bind_er, R.bindS_ok, R.bindS_er, Option.bind_some, Option.map_some, List.map_cons, List.map_nil, List.cons_append, List.nil_append, List.replicate_succ, List.replicate_zero, List.getElem?_cons_zero, List.getElem?_cons_succ, List.length_cons, List.length_nil, List.set_cons_zero, List.set_cons_succ, isOwn, if_true, reduceIte, Bool.false_eq_true, Nat.reduceAdd, atI_0, atI_1, ixN_0, ixN_1, gt_int, lt_int, le_int, ge_int, add_int, sub_int, eq_int, ne_int, eq_str, ne_str, decide_true, decide_false, Nat.zero_add, n1, N2_ok _ _ hc, h, Bool.not_false, Bool.false_and]
  · have hne : core p ≠ [] := fun z => by rw [z] at h; cases h
    have iv := intF_num p h hl
    cases k : lead p (core p)
    · simp only [seqS, ifS, boolE, binE, unE, appE, ixOwnE, popOwnE, lenOwnE, cE, varE, retS, retNS, asgS, asgOwnS, parS, parOwnS, appendS, dropS, nopS, forS, forGo, seqI, range1I, range2I, enumI, rangeL, callE, callIO, callL, consA, nilA, nameT, tupT, consT, nilT, ownIxT, andE, orE, notE, andT, orT, notT, chainE, ifE, slE, someO, noO, lstE, lstF, appL, methE, isStrD, raiseS, rsIO, rsOf, own0, ofOpt, R.bind_ok, R.bind_er, R.bindS_ok, R.bindS_er, Option.bind_some, Option.map_some, List.map_cons, List.map_nil, List.cons_append, List.nil_append, List.replicate_succ, List.replicate_zero, List.getElem?_cons_zero, List.getElem?_cons_succ, List.length_cons, List.length_nil, List.set_cons_zero, List.set_cons_succ, isOwn, if_true, reduceIte, Bool.false_eq_true, Nat.reduceAdd, atI_0, atI_1, ixN_0, ixN_1, gt_int, lt_int, le_int, ge_int, add_int, sub_int, eq_int, ne_int, eq_str, ne_str, decide_true, decide_false, Nat.zero_add, n1, N2_ok _ _ hc, N3_ok p (core p) _ hne hc, h, k, iv, Bool.not_true, Bool.not_false, Bool.true_and]
    · simp only [seqS, ifS, boolE, binE, unE, appE, ixOwnE, popOwnE, lenOwnE, cE, varE, retS, retNS, asgS, asgOwnS, parS, parOwnS, appendS, dropS, nopS, forS, forGo, seqI, range1I, range2I, enumI, rangeL, callE, callIO, callL, consA, nilA, nameT, tupT, consT, nilT, ownIxT, andE, orE, notE, andT, orT, notT, chainE, ifE, slE, someO, noO, lstE, lstF, appL, methE, isStrD, raiseS, rsIO, rsOf, own0, ofOpt, R.bind_ok, R.bind_er, R.bindS_ok, R.bindS_er, Option.bind_some, Option.map_some, List.map_cons, List.map_nil, List.cons_append, List.nil_append, List.replicate_succ, List.replicate_zero, List.getElem?_cons_zero, List.getElem?_cons_succ, List.length_cons, List.length_nil, List.set_cons_zero, List.set_cons_succ, isOwn, if_true, reduceIte, Bool.false_eq_true, Nat.reduceAdd, atI_0, atI_1, ixN_0, ixN_1, gt_int, lt_int, le_int, ge_int, add_int, sub_int, eq_int, ne_int, eq_str, ne_str, decide_true, decide_false, Nat.zero_add, n1, N2_ok _ _ hc, N3_ok p (core p) _ hne hc, h, k, Bool.not_true, Bool.not_false, Bool.true_and]
end K12
end L2
set_option linter.all false
set_option maxRecDepth 100000
set_option maxHeartbeats 2000000
namespace L2
namespace K12
open PySem PySem.Spec PL TL
open _root_.SX (S S_len S_cat S_tl S_inj split_S join_S num_S int_S)
/-! what is an event -/
theorem x_l_is_name (d : D) (h : okStr d) : f_l_is_name [d] = .ok (.bl (isNameD d)) := by
  unfold f_l_is_name g_l_is_name runP
  cases d with
  | str s =>
    obtain ⟨hl, ha⟩ := h s rfl
    have es : s = S s.cps.toList := (S_tl s).symm
    have ei : isNameD (.str s) = isName s.cps.toList := rfl
    rw [ei]
    have hl' : s.cps.toList.length ≤ 1000 := by rw [← S_len, ← es]; exact hl
    rw [es]
    have et : (S s.cps.toList).cps.toList = s.cps.toList := rfl
    rw [et]
    generalize s.cps.toList = a at *
    have hc : lcE [1] (seqI (varE 0)) (nameT 1) (notT (boolE (chainE leF leF (cE (.str "a")) (varE 1) (cE (.str "z"))))) (varE 1) [.d (.str (S a)), .un] = .ok ((a.filter fun c => !low c).map fun c => D.str ⟨#[c]⟩) [.d (.str (S a)), .un] := by
      refine (lcE_pure (vs := [1]) (gi := seqI (varE 0)) notLow id (items := signs (S a)) (ρ1 := [.d (.str (S a)), .un]) rfl rfl (by unfold signs lim; simp; omega) rfl ?_).trans (by rw [signs_notLow])
      intro d hd
      obtain ⟨c, hc, rfl⟩ := List.mem_map.mp hd
      refine ⟨[.d (.str (S a)), .d (.str ⟨#[c]⟩)], rfl, ?_, rfl, fun _ => rfl⟩
      have e1 : leF (.str ("a" : Str)) (.str ⟨#[c]⟩) = some (.bl (!decide (c < 97))) := by
        show some (D.bl (!sLt ⟨#[c]⟩ (S [97]))) = _
        rw [lt_one]
      have e2 : leF (.str ⟨#[c]⟩) (.str ("z" : Str)) = some (.bl (!decide (122 < c))) := by
        show some (D.bl (!sLt (S [122]) ⟨#[c]⟩)) = _
        rw [lt_one']
      show _ = R.ok (!low c) _
      unfold low
      by_cases h : c < 97
      · have h' : ¬ 97 ≤ c := by omega
        simp only [seqS, ifS, boolE, binE, unE, appE, ixOwnE, popOwnE, lenOwnE, cE, varE, retS, retNS, asgS, asgOwnS, parS, parOwnS, appendS, dropS, nopS, forS, forGo, seqI, range1I, range2I, enumI, rangeL, callE, callIO, callL, consA, nilA, nameT, tupT, consT, nilT, ownIxT, andE, orE, notE, andT, orT, notT, chainE, ifE, slE, someO, noO, lstE, lstF, appL, methE, isStrD, raiseS, rsIO, rsOf, own0, ofOpt, R.bind_ok, R.bind_er, R.bindS_ok, R.bindS_er, Option.bind_some, Option.map_some, List.map_cons, List.map_nil, List.cons_append, List.nil_append, List.replicate_succ, List.replicate_zero, List.getElem?_cons_zero, List.getElem?_cons_succ, List.length_cons, List.length_nil, List.set_cons_zero, List.set_cons_succ, isOwn, if_true, reduceIte, Bool.false_eq_true, Nat.reduceAdd, atI_0, atI_1, ixN_0, ixN_1, gt_int, lt_int, le_int, ge_int, add_int, sub_int, eq_int, ne_int, eq_str, ne_str, decide_true, decide_false, Nat.zero_add, e1, e2, h, h', Bool.not_true, Bool.not_false, Bool.false_and]
      · have h' : 97 ≤ c := by omega
        by_cases k : 122 < c
        · have k' : ¬ c ≤ 122 := by omega
          simp only [seqS, ifS, boolE, binE, unE, appE, ixOwnE, popOwnE, lenOwnE, cE, varE, retS, retNS, asgS, asgOwnS, parS, parOwnS, appendS, dropS, nopS, forS, forGo, seqI, range1I, range2I, enumI, rangeL, callE, callIO, callL, consA, nilA, nameT, tupT, consT, nilT, ownIxT, andE, orE, notE, andT, orT, notT, chainE, ifE, slE, someO, noO, lstE, lstF, appL, methE, isStrD, raiseS, rsIO, rsOf, own0, ofOpt, R.bind_ok, R.bind_er, R.bindS_ok, R.bindS_er, Option.bind_some, Option.map_some, List.map_cons, List.map_nil, List.cons_append, List.nil_append, List.replicate_succ, List.replicate_zero, List.getElem?_cons_zero, List.getElem?_cons_succ, List.length_cons, List.length_nil, List.set_cons_zero, List.set_cons_succ, isOwn, if_true, reduceIte, Bool.false_eq_true, Nat.reduceAdd, atI_0, atI_1, ixN_0, ixN_1, gt_int, lt_int, le_int, ge_int, add_int, sub_int, eq_int, ne_int, eq_str, ne_str, decide_true, decide_false, Nat.zero_add, e1, e2, h, h', k, k', Bool.not_true, Bool.not_false, Bool.true_and]
        · have k' : c ≤ 122 := by omega
          simp only [seqS, ifS, boolE, binE, unE, appE, ixOwnE, popOwnE, lenOwnE, cE, varE, retS, retNS, asgS, asgOwnS, parS, parOwnS, appendS, dropS, nopS, forS, forGo, seqI, range1I, range2I, enumI, rangeL, callE, callIO, callL, consA, nilA, nameT, tupT, consT, nilT, ownIxT, andE, orE, notE, andT, orT, notT, chainE, ifE, slE, someO, noO, lstE, lstF, appL, methE, isStrD, raiseS, rsIO, rsOf, own0, ofOpt, R.bind_ok, R.bind_er, R.bindS_ok, R.bindS_er, Option.bind_some, Option.map_some, List.map_cons, List.map_nil, List.cons_append, List.nil_append, List.replicate_succ, List.replicate_zero, List.getElem?_cons_zero, List.getElem?_cons_succ, List.length_cons, List.length_nil, List.set_cons_zero, List.set_cons_succ, isOwn, if_true, reduceIte, Bool.false_eq_true, Nat.reduceAdd, atI_0, atI_1, ixN_0, ixN_1, gt_int, lt_int, le_int, ge_int, add_int, sub_int, eq_int, ne_int, eq_str, ne_str, decide_true, decide_false, Nat.zero_add, e1, e2, h, h', k, k', Bool.not_true, Bool.not_false, Bool.true_and]
    have e0 : isiF "str" (.str (S a)) = some (.bl true) := rfl
    have e2 : lenF [.str (S a)] = some (.int a.length) := by
      unfold lenF lenSF lenTF
      simp only [S_len]
      rw [if_pos (by unfold lim; omega)]
    have e3 : eqF (.lst ((a.filter fun c => !low c).map fun c => D.str ⟨#[c]⟩)) (.lst []) = some (.bl (a.all low)) := by
      have z := ne_empty (a.filter fun c => !low c) (asc_filter ha _)
      rw [empty_filter] at z
      have q : ∀ x y : List D, ∀ b, neF (.lst x) (.lst y) = some (.bl (!b)) → eqF (.lst x) (.lst y) = some (.bl b) := fun x y b h => by
        have h' : eqPF true (.lst x) (.lst y) = some (.bl (!b)) := h
        show eqPF false (.lst x) (.lst y) = some (.bl b)
        unfold eqPF at h' ⊢
        split at h'
        · split at h'
          · rename_i hs
            rw [if_pos hs]
            injection h' with h'
            injection h' with h'
            simp only [if_true, Bool.not_eq_eq_eq_not, Bool.not_not, if_false, Bool.false_eq_true] at h' ⊢
            rw [h']
          · cases h'
        · cases h'
      exact q _ _ _ z
    have l0 : (0 : Nat) ≤ lim := by decide
    unfold isName
    by_cases h1 : 1 ≤ a.length
    · have h1' : (1 : Int) ≤ a.length := by omega
      by_cases h2 : a.length ≤ 12
      · have h2' : (a.length : Int) ≤ 12 := by omega
        simp only [seqS, ifS, boolE, binE, unE, appE, ixOwnE, popOwnE, lenOwnE, cE, varE, retS, retNS, asgS, asgOwnS, parS, parOwnS, appendS, dropS, nopS, forS, forGo, seqI, range1I, range2I, enumI, rangeL, callE, callIO, callL, consA, nilA, nameT, tupT, consT, nilT, ownIxT, andE, orE, notE, andT, orT, notT, chainE, ifE, slE, someO, noO, lstE, lstF, appL, methE, isStrD, raiseS, rsIO, rsOf, own0, ofOpt, R.bind_ok, R.bind_er, R.bindS_ok, R.bindS_er, Option.bind_some, Option.map_some, List.map_cons, List.map_nil, List.cons_append, List.nil_append, List.replicate_succ, List.replicate_zero, List.getElem?_cons_zero, List.getElem?_cons_succ, List.length_cons, List.length_nil, List.set_cons_zero, List.set_cons_succ, isOwn, if_true, reduceIte, Bool.false_eq_true, Nat.reduceAdd, atI_0, atI_1, ixN_0, ixN_1, gt_int, lt_int, le_int, ge_int, add_int, sub_int, eq_int, ne_int, eq_str, ne_str, decide_true, decide_false, Nat.zero_add, e0, e2, e3, h1', h2', hc, h1, h2, l0, Bool.true_and]
      · have h2' : ¬ (a.length : Int) ≤ 12 := by omega
        simp only [seqS, ifS, boolE, binE, unE, appE, ixOwnE, popOwnE, lenOwnE, cE, varE, retS, retNS, asgS, asgOwnS, parS, parOwnS, appendS, dropS, nopS, forS, forGo, seqI, range1I, range2I, enumI, rangeL, callE, callIO, callL, consA, nilA, nameT, tupT, consT, nilT, ownIxT, andE, orE, notE, andT, orT, notT, chainE, ifE, slE, someO, noO, lstE, lstF, appL, methE, isStrD, raiseS, rsIO, rsOf, own0, ofOpt, R.bind_ok, R.bind_er, R.bindS_ok, R.bindS_er, Option.bind_some, Option.map_some, List.map_cons, List.map_nil, List.cons_append, List.nil_append, List.replicate_succ, List.replicate_zero, List.getElem?_cons_zero, List.getElem?_cons_succ, List.length_cons, List.length_nil, List.set_cons_zero, List.set_cons_succ, isOwn, if_true, reduceIte, Bool.false_eq_true, Nat.reduceAdd, atI_0, atI_1, ixN_0, ixN_1, gt_int, lt_int, le_int, ge_int, add_int, sub_int, eq_int, ne_int, eq_str, ne_str, decide_true, decide_false, Nat.zero_add, e0, e2, e3, h1', h2', hc, h1, h2, l0, Bool.true_and, Bool.false_and]
    · have h1' : ¬ (1 : Int) ≤ a.length := by omega
      simp only [seqS, ifS, boolE, binE, unE, appE, ixOwnE, popOwnE, lenOwnE, cE, varE, retS, retNS, asgS, asgOwnS, parS, parOwnS, appendS, dropS, nopS, forS, forGo, seqI, range1I, range2I, enumI, rangeL, callE, callIO, callL, consA, nilA, nameT, tupT, consT, nilT, ownIxT, andE, orE, notE, andT, orT, notT, chainE, ifE, slE, someO, noO, lstE, lstF, appL, methE, isStrD, raiseS, rsIO, rsOf, own0, ofOpt, R.bind_ok, R.bind_er, R.bindS_ok, R.bindS_er, Option.bind_some, Option.map_some, List.map_cons, List.map_nil, List.cons_append, List.nil_append, List.replicate_succ, List.replicate_zero, List.getElem?_cons_zero, List.getElem?_cons_succ, List.length_cons, List.length_nil, List.set_cons_zero, List.set_cons_succ, isOwn, if_true, reduceIte, Bool.false_eq_true, Nat.reduceAdd, atI_0, atI_1, ixN_0, ixN_1, gt_int, lt_int, le_int, ge_int, add_int, sub_int, eq_int, ne_int, eq_str, ne_str, decide_true, decide_false, Nat.zero_add, e0, e2, h1', h1, Bool.false_and]
  | _ => rfl
def two (c d : D) : Bool := isNameD c && (isNameD d && !sameS c d)
theorem x_are_two (c d : D) (hc : okStr c) (hd : okStr d) : f_are_two [c, d] = .ok (.bl (two c d)) := by
  have n1 := x_is_nameD c fun x h => (hc x h).1
  have n2 := x_is_nameD d fun x h => (hd x h).1
  unfold f_are_two g_are_two runP two
  cases h1 : isNameD c
  · simp only [seqS, ifS, boolE, binE, unE, appE, ixOwnE, popOwnE, lenOwnE, cE, varE, retS, retNS, asgS, asgOwnS, parS, parOwnS, appendS, dropS, nopS, forS, forGo, seqI, range1I, range2I, enumI, rangeL, callE, callIO, callL, consA, nilA, nameT, tupT, consT, nilT, ownIxT, andE, orE, notE, andT, orT, notT, chainE, ifE, slE, someO, noO, lstE, lstF, appL, methE, isStrD, raiseS, rsIO, rsOf, own0, ofOpt, R.bind_ok, R.bind_er, R.bindS_ok, R.bindS_er, Option.bind_some, Option.map_some, List.map_cons, List.map_nil, List.cons_append, List.nil_append, List.replicate_succ, List.replicate_zero, List.getElem?_cons_zero, List.getElem?_cons_succ, List.length_cons, List.length_nil, List.set_cons_zero, List.set_cons_succ, isOwn, if_true, reduceIte, Bool.false_eq_true, Nat.reduceAdd, atI_0, atI_1, ixN_0, ixN_1, gt_int, lt_int, le_int, ge_int, add_int, sub_int, eq_int, ne_int, eq_str, ne_str, decide_true, decide_false, Nat.zero_add, n1, h1, Bool.false_and]
  · cases h2 : isNameD d
    · simp only [seqS, ifS, boolE, binE, unE, appE, ixOwnE, popOwnE, lenOwnE, cE, varE, retS, retNS, asgS, asgOwnS, parS, parOwnS, appendS, dropS, nopS, forS, forGo, seqI, range1I, range2I, enumI, rangeL, callE, callIO, callL, consA, nilA, nameT, tupT, consT, nilT, ownIxT, andE, orE, notE, andT, orT, notT, chainE, ifE, slE, someO, noO, lstE, lstF, appL, methE, isStrD, raiseS, rsIO, rsOf, own0, ofOpt, R.bind_ok, R.bind_er, R.bindS_ok, R.bindS_er, Option.bind_some, Option.map_some, List.map_cons, List.map_nil, List.cons_append, List.nil_append, List.replicate_succ, List.replicate_zero, List.getElem?_cons_zero, List.getElem?_cons_succ, List.length_cons, List.length_nil, List.set_cons_zero, List.set_cons_succ, isOwn, if_true, reduceIte, Bool.false_eq_true, Nat.reduceAdd, atI_0, atI_1, ixN_0, ixN_1, gt_int, lt_int, le_int, ge_int, add_int, sub_int, eq_int, ne_int, eq_str, ne_str, decide_true, decide_false, Nat.zero_add, n1, n2, h1, h2, Bool.false_and, Bool.true_and]
    · have e1 := ne_names h1 h2
      simp only [seqS, ifS, boolE, binE, unE, appE, ixOwnE, popOwnE, lenOwnE, cE, varE, retS, retNS, asgS, asgOwnS, parS, parOwnS, appendS, dropS, nopS, forS, forGo, seqI, range1I, range2I, enumI, rangeL, callE, callIO, callL, consA, nilA, nameT, tupT, consT, nilT, ownIxT, andE, orE, notE, andT, orT, notT, chainE, ifE, slE, someO, noO, lstE, lstF, appL, methE, isStrD, raiseS, rsIO, rsOf, own0, ofOpt, R.bind_ok, R.bind_er, R.bindS_ok, R.bindS_er, Option.bind_some, Option.map_some, List.map_cons, List.map_nil, List.cons_append, List.nil_append, List.replicate_succ, List.replicate_zero, List.getElem?_cons_zero, List.getElem?_cons_succ, List.length_cons, List.length_nil, List.set_cons_zero, List.set_cons_succ, isOwn, if_true, reduceIte, Bool.false_eq_true, Nat.reduceAdd, atI_0, atI_1, ixN_0, ixN_1, gt_int, lt_int, le_int, ge_int, add_int, sub_int, eq_int, ne_int, eq_str, ne_str, decide_true, decide_false, Nat.zero_add, n1, n2, h1, h2, e1, Bool.true_and]
def sLEAVE : Str := "leave"
def sTOLD : Str := "told"
def sFIX : Str := "fix"
def mLeave : List D → Bool
  | [a] => isNameD a
  | _ => false
def mTold : List D → Bool
  | [a, b, c] => two a b && within c 0 2
  | _ => false
def mFix : List D → Bool
  | [n, a, b, c] => within n 0 99 && (two a b && within c 0 2)
  | _ => false
theorem w_lt : sTOLD ≠ sLEAVE := by decide
theorem w_lf : sFIX ≠ sLEAVE := by decide
theorem w_tf : sFIX ≠ sTOLD := by decide
end K12
end L2
set_option linter.all false
set_option maxRecDepth 100000
set_option maxHeartbeats 4000000
namespace L2
namespace K12
open PySem PySem.Spec PL TL
open _root_.SX (S S_len S_cat S_tl S_inj split_S join_S num_S int_S)
theorem len_tup (xs : List D) : lenF [.tup xs] = some (.int xs.length) := rfl
theorem eq_w (w v : Str) : eqF (.str w) (.str v) = some (.bl (decide (w = v))) := rfl
theorem ne_w (w v : Str) : neF (.str w) (.str v) = some (.bl (!decide (w = v))) := rfl
section
variable {xs : List D}
/-- the first look, told once: a text ahead -/
theorem form_head (d : D) (h : ∀ w r, d ≠ .tup (.str w :: r)) : f_is_event_form [d] = .ok (.bl false) := by
  unfold f_is_event_form g_is_event_form runP
  cases d with
  | tup xs =>
    have t1 : isiF "tuple" (.tup xs) = some (.bl true) := rfl
    cases xs with
    | nil =>
      have l0 : lenF [.tup []] = some (.int 0) := rfl
      have l2 : ((0 : Int) < 2) := by decide
      simp only [seqS, ifS, boolE, binE, unE, appE, ixOwnE, popOwnE, lenOwnE, cE, varE, retS, retNS, asgS, asgOwnS, parS, parOwnS, appendS, dropS, nopS, forS, forGo, seqI, range1I, range2I, enumI, rangeL, callE, callIO, callL, consA, nilA, nameT, tupT, consT, nilT, ownIxT, andE, orE, notE, andT, orT, notT, chainE, ifE, slE, someO, noO, lstE, lstF, appL, methE, isStrD, raiseS, rsIO, rsOf, own0, ofOpt, R.bind_ok, R.bind_er, R.bindS_ok, R.bindS_er, Option.bind_some, Option.map_some, List.map_cons, List.map_nil, List.cons_append, List.nil_append, List.replicate_succ, List.replicate_zero, List.getElem?_cons_zero, List.getElem?_cons_succ, List.length_cons, List.length_nil, List.set_cons_zero, List.set_cons_succ, isOwn, if_true, reduceIte, Bool.false_eq_true, Nat.reduceAdd, atI_0, atI_1, ixN_0, ixN_1, gt_int, lt_int, le_int, ge_int, add_int, sub_int, eq_int, ne_int, eq_str, ne_str, decide_true, decide_false, Nat.zero_add, t1, l0, l2, Bool.not_true]
    | cons a r =>
      have l1 := len_tup (a :: r)
      have i0 : ixF (.tup (a :: r)) (.int 0) = some a := by
        show atI (a :: r) 0 = _
        rw [atI_0]
      by_cases hl : ((a :: r).length : Int) < 2
      · simp only [seqS, ifS, boolE, binE, unE, appE, ixOwnE, popOwnE, lenOwnE, cE, varE, retS, retNS, asgS, asgOwnS, parS, parOwnS, appendS, dropS, nopS, forS, forGo, seqI, range1I, range2I, enumI, rangeL, callE, callIO, callL, consA, nilA, nameT, tupT, consT, nilT, ownIxT, andE, orE, notE, andT, orT, notT, chainE, ifE, slE, someO, noO, lstE, lstF, appL, methE, isStrD, raiseS, rsIO, rsOf, own0, ofOpt, R.bind_ok, R.bind_er, R.bindS_ok, R.bindS_er, Option.bind_some, Option.map_some, List.map_cons, List.map_nil, List.cons_append, List.nil_append, List.replicate_succ, List.replicate_zero, List.getElem?_cons_zero, List.getElem?_cons_succ, List.length_cons, List.length_nil, List.set_cons_zero, List.set_cons_succ, isOwn, if_true, reduceIte, Bool.false_eq_true, Nat.reduceAdd, atI_0, atI_1, ixN_0, ixN_1, gt_int, lt_int, le_int, ge_int, add_int, sub_int, eq_int, ne_int, eq_str, ne_str, decide_true, decide_false, Nat.zero_add, t1, l1, hl, Bool.not_true] at *
        simp only [hl, seqS, ifS, boolE, binE, unE, appE, ixOwnE, popOwnE, lenOwnE, cE, varE, retS, retNS, asgS, asgOwnS, parS, parOwnS, appendS, dropS, nopS, forS, forGo, seqI, range1I, range2I, enumI, rangeL, callE, callIO, callL, consA, nilA, nameT, tupT, consT, nilT, ownIxT, andE, orE, notE, andT, orT, notT, chainE, ifE, slE, someO, noO, lstE, lstF, appL, methE, isStrD, raiseS, rsIO, rsOf, own0, ofOpt, R.bind_ok, R.bind_er, R.bindS_ok, R.bindS_er, Option.bind_some, Option.map_some, List.map_cons, List.map_nil, List.cons_append, List.nil_append, List.replicate_succ, List.replicate_zero, List.getElem?_cons_zero, List.getElem?_cons_succ, List.length_cons, List.length_nil, List.set_cons_zero, List.set_cons_succ, isOwn, if_true, reduceIte, Bool.false_eq_true, Nat.reduceAdd, atI_0, atI_1, ixN_0, ixN_1, gt_int, lt_int, le_int, ge_int, add_int, sub_int, eq_int, ne_int, eq_str, ne_str, decide_true, decide_false, Nat.zero_add]
      · have hs : isiF "str" a = some (.bl false) := by
          cases a with
          | str w => exact absurd rfl (h w r)
          | _ => rfl
        generalize (a :: r).length = n at *
        simp only [seqS, ifS, boolE, binE, unE, appE, ixOwnE, popOwnE, lenOwnE, cE, varE, retS, retNS, asgS, asgOwnS, parS, parOwnS, appendS, dropS, nopS, forS, forGo, seqI, range1I, range2I, enumI, rangeL, callE, callIO, callL, consA, nilA, nameT, tupT, consT, nilT, ownIxT, andE, orE, notE, andT, orT, notT, chainE, ifE, slE, someO, noO, lstE, lstF, appL, methE, isStrD, raiseS, rsIO, rsOf, own0, ofOpt, R.bind_ok, R.bind_er, R.bindS_ok, R.bindS_er, Option.bind_some, Option.map_some, List.map_cons, List.map_nil, List.cons_append, List.nil_append, List.replicate_succ, List.replicate_zero, List.getElem?_cons_zero, List.getElem?_cons_succ, List.length_cons, List.length_nil, List.set_cons_zero, List.set_cons_succ, isOwn, if_true, reduceIte, Bool.false_eq_true, Nat.reduceAdd, atI_0, atI_1, ixN_0, ixN_1, gt_int, lt_int, le_int, ge_int, add_int, sub_int, eq_int, ne_int, eq_str, ne_str, decide_true, decide_false, Nat.zero_add, t1, l1, hl, i0, hs, Bool.not_true, Bool.not_false]
  | _ => rfl
end
theorem form_leave (r : List D) (hr : ∀ d ∈ r, okStr d) : f_is_event_form [.tup (.str sLEAVE :: r)] = .ok (.bl (mLeave r)) := by
  have t1 : isiF "tuple" (.tup (.str sLEAVE :: r)) = some (.bl true) := rfl
  have l1 := len_tup (.str sLEAVE :: r)
  have i0 : ixF (.tup (.str sLEAVE :: r)) (.int 0) = some (.str sLEAVE) := by
    show atI (.str sLEAVE :: r) 0 = _
    rw [atI_0]
  have s1 : isiF "str" (.str sLEAVE) = some (.bl true) := rfl
  have c1 : c_LEAVE = .str sLEAVE := rfl
  have e1 : eqF (.str sLEAVE) (.str sLEAVE) = some (.bl true) := by rw [eq_w, decide_eq_true rfl]
  unfold f_is_event_form g_is_event_form runP
  match r, hr with
  | [], _ =>
    have hl : ((1 : Int) < 2) := by decide
    have l1' : lenF [.tup [.str sLEAVE]] = some (.int 1) := rfl
    simp only [seqS, ifS, boolE, binE, unE, appE, ixOwnE, popOwnE, lenOwnE, cE, varE, retS, retNS, asgS, asgOwnS, parS, parOwnS, appendS, dropS, nopS, forS, forGo, seqI, range1I, range2I, enumI, rangeL, callE, callIO, callL, consA, nilA, nameT, tupT, consT, nilT, ownIxT, andE, orE, notE, andT, orT, notT, chainE, ifE, slE, someO, noO, lstE, lstF, appL, methE, isStrD, raiseS, rsIO, rsOf, own0, ofOpt, R.bind_ok, R.bind_er, R.bindS_ok, R.bindS_er, Option.bind_some, Option.map_some, List.map_cons, List.map_nil, List.cons_append, List.nil_append, List.replicate_succ, List.replicate_zero, List.getElem?_cons_zero, List.getElem?_cons_succ, List.length_cons, List.length_nil, List.set_cons_zero, List.set_cons_succ, isOwn, if_true, reduceIte, Bool.false_eq_true, Nat.reduceAdd, atI_0, atI_1, ixN_0, ixN_1, gt_int, lt_int, le_int, ge_int, add_int, sub_int, eq_int, ne_int, eq_str, ne_str, decide_true, decide_false, Nat.zero_add, t1, l1', hl, Bool.not_true, mLeave]
  | [a], hr =>
    have hl : ¬ ((2 : Int) < 2) := by decide
    have l1' : lenF [.tup [.str sLEAVE, a]] = some (.int 2) := rfl
    have i1 : ixF (.tup [.str sLEAVE, a]) (.int 1) = some a := rfl
    have n1 := x_is_nameD a fun x h => (hr a (by simp) x h).1
    simp only [seqS, ifS, boolE, binE, unE, appE, ixOwnE, popOwnE, lenOwnE, cE, varE, retS, retNS, asgS, asgOwnS, parS, parOwnS, appendS, dropS, nopS, forS, forGo, seqI, range1I, range2I, enumI, rangeL, callE, callIO, callL, consA, nilA, nameT, tupT, consT, nilT, ownIxT, andE, orE, notE, andT, orT, notT, chainE, ifE, slE, someO, noO, lstE, lstF, appL, methE, isStrD, raiseS, rsIO, rsOf, own0, ofOpt, R.bind_ok, R.bind_er, R.bindS_ok, R.bindS_er, Option.bind_some, Option.map_some, List.map_cons, List.map_nil, List.cons_append, List.nil_append, List.replicate_succ, List.replicate_zero, List.getElem?_cons_zero, List.getElem?_cons_succ, List.length_cons, List.length_nil, List.set_cons_zero, List.set_cons_succ, isOwn, if_true, reduceIte, Bool.false_eq_true, Nat.reduceAdd, atI_0, atI_1, ixN_0, ixN_1, gt_int, lt_int, le_int, ge_int, add_int, sub_int, eq_int, ne_int, eq_str, ne_str, decide_true, decide_false, Nat.zero_add, t1, l1', hl, i0, i1, s1, c1, e1, n1, eq_self, Bool.not_true, mLeave]
  | a :: b :: r, _ =>
    have hl : ¬ (((r.length + 1 + 1 + 1 : Nat) : Int) < 2) := by omega
    have h2 : ¬ (((r.length + 1 + 1 + 1 : Nat) : Int) = 2) := by omega
    have l1' : lenF [.tup (.str sLEAVE :: a :: b :: r)] = some (.int (r.length + 1 + 1 + 1 : Nat)) := rfl
    simp only [seqS, ifS, boolE, binE, unE, appE, ixOwnE, popOwnE, lenOwnE, cE, varE, retS, retNS, asgS, asgOwnS, parS, parOwnS, appendS, dropS, nopS, forS, forGo, seqI, range1I, range2I, enumI, rangeL, callE, callIO, callL, consA, nilA, nameT, tupT, consT, nilT, ownIxT, andE, orE, notE, andT, orT, notT, chainE, ifE, slE, someO, noO, lstE, lstF, appL, methE, isStrD, raiseS, rsIO, rsOf, own0, ofOpt, R.bind_ok, R.bind_er, R.bindS_ok, R.bindS_er, Option.bind_some, Option.map_some, List.map_cons, List.map_nil, List.cons_append, List.nil_append, List.replicate_succ, List.replicate_zero, List.getElem?_cons_zero, List.getElem?_cons_succ, List.length_cons, List.length_nil, List.set_cons_zero, List.set_cons_succ, isOwn, if_true, reduceIte, Bool.false_eq_true, Nat.reduceAdd, atI_0, atI_1, ixN_0, ixN_1, gt_int, lt_int, le_int, ge_int, add_int, sub_int, eq_int, ne_int, eq_str, ne_str, decide_true, decide_false, Nat.zero_add, t1, l1', hl, h2, i0, s1, c1, e1, Bool.not_true, mLeave]
theorem form_told (r : List D) (hr : ∀ d ∈ r, okStr d) : f_is_event_form [.tup (.str sTOLD :: r)] = .ok (.bl (mTold r)) := by
  have t1 : isiF "tuple" (.tup (.str sTOLD :: r)) = some (.bl true) := rfl
  have i0 : ixF (.tup (.str sTOLD :: r)) (.int 0) = some (.str sTOLD) := by
    show atI (.str sTOLD :: r) 0 = _
    rw [atI_0]
  have s1 : isiF "str" (.str sTOLD) = some (.bl true) := rfl
  have c1 : c_LEAVE = .str sLEAVE := rfl
  have c2 : c_TOLD = .str sTOLD := rfl
  have e1 : eqF (.str sTOLD) (.str sLEAVE) = some (.bl false) := by rw [eq_w, decide_eq_false w_lt]
  have e2 : eqF (.str sTOLD) (.str sTOLD) = some (.bl true) := by rw [eq_w, decide_eq_true rfl]
  have gen : ∀ r : List D, r.length ≠ 3 → ixF (.tup (.str sTOLD :: r)) (.int 0) = some (.str sTOLD) → f_is_event_form [.tup (.str sTOLD :: r)] = .ok (.bl false) := fun r h3 i0 => by
    have t1 : isiF "tuple" (.tup (.str sTOLD :: r)) = some (.bl true) := rfl
    have l1 : lenF [.tup (.str sTOLD :: r)] = some (.int (r.length + 1 : Nat)) := rfl
    have h4 : ¬ (((r.length + 1 : Nat) : Int) = 4) := by omega
    unfold f_is_event_form g_is_event_form runP
    generalize (.tup (.str sTOLD :: r) : D) = T at *
    by_cases hl : ((r.length + 1 : Nat) : Int) < 2
    · simp only [seqS, ifS, boolE, binE, unE, appE, ixOwnE, popOwnE, lenOwnE, cE, varE, retS, retNS, asgS, asgOwnS, parS, parOwnS, appendS, dropS, nopS, forS, forGo, seqI, range1I, range2I, enumI, rangeL, callE, callIO, callL, consA, nilA, nameT, tupT, consT, nilT, ownIxT, andE, orE, notE, andT, orT, notT, chainE, ifE, slE, someO, noO, lstE, lstF, appL, methE, isStrD, raiseS, rsIO, rsOf, own0, ofOpt, R.bind_ok, R.bind_er, R.bindS_ok, R.bindS_er, Option.bind_some, Option.map_some, List.map_cons, List.map_nil, List.cons_append, List.nil_append, List.replicate_succ, List.replicate_zero, List.getElem?_cons_zero, List.getElem?_cons_succ, List.length_cons, List.length_nil, List.set_cons_zero, List.set_cons_succ, isOwn, if_true, reduceIte, Bool.false_eq_true, Nat.reduceAdd, atI_0, atI_1, ixN_0, ixN_1, gt_int, lt_int, le_int, ge_int, add_int, sub_int, eq_int, ne_int, eq_str, ne_str, decide_true, decide_false, Nat.zero_add, t1, l1, hl, Bool.not_true]
    · simp only [seqS, ifS, boolE, binE, unE, appE, ixOwnE, popOwnE, lenOwnE, cE, varE, retS, retNS, asgS, asgOwnS, parS, parOwnS, appendS, dropS, nopS, forS, forGo, seqI, range1I, range2I, enumI, rangeL, callE, callIO, callL, consA, nilA, nameT, tupT, consT, nilT, ownIxT, andE, orE, notE, andT, orT, notT, chainE, ifE, slE, someO, noO, lstE, lstF, appL, methE, isStrD, raiseS, rsIO, rsOf, own0, ofOpt, R.bind_ok, R.bind_er, R.bindS_ok, R.bindS_er, Option.bind_some, Option.map_some, List.map_cons, List.map_nil, List.cons_append, List.nil_append, List.replicate_succ, List.replicate_zero, List.getElem?_cons_zero, List.getElem?_cons_succ, List.length_cons, List.length_nil, List.set_cons_zero, List.set_cons_succ, isOwn, if_true, reduceIte, Bool.false_eq_true, Nat.reduceAdd, atI_0, atI_1, ixN_0, ixN_1, gt_int, lt_int, le_int, ge_int, add_int, sub_int, eq_int, ne_int, eq_str, ne_str, decide_true, decide_false, Nat.zero_add, t1, l1, hl, h4, i0, s1, c1, c2, e1, e2, Bool.not_true]
  match r, hr, i0 with
  | [], _, i0 => exact gen [] (by simp) i0
  | [a], _, i0 => exact gen [a] (by simp) i0
  | [a, b], _, i0 => exact gen [a, b] (by simp) i0
  | [a, b, c], hr, i0 =>
    have hl : ¬ ((4 : Int) < 2) := by decide
    have l1' : lenF [.tup [.str sTOLD, a, b, c]] = some (.int 4) := rfl
    have i1 : ixF (.tup [.str sTOLD, a, b, c]) (.int 1) = some a := rfl
    have i2 : ixF (.tup [.str sTOLD, a, b, c]) (.int 2) = some b := rfl
    have i3 : ixF (.tup [.str sTOLD, a, b, c]) (.int 3) = some c := rfl
    have n1 := x_are_two a b (hr a (by simp)) (hr b (by simp))
    have w1 := x_is_within c 0 2
    unfold f_is_event_form g_is_event_form runP
    cases ht : two a b
    · simp only [seqS, ifS, boolE, binE, unE, appE, ixOwnE, popOwnE, lenOwnE, cE, varE, retS, retNS, asgS, asgOwnS, parS, parOwnS, appendS, dropS, nopS, forS, forGo, seqI, range1I, range2I, enumI, rangeL, callE, callIO, callL, consA, nilA, nameT, tupT, consT, nilT, ownIxT, andE, orE, notE, andT, orT, notT, chainE, ifE, slE, someO, noO, lstE, lstF, appL, methE, isStrD, raiseS, rsIO, rsOf, own0, ofOpt, R.bind_ok, R.bind_er, R.bindS_ok, R.bindS_er, Option.bind_some, Option.map_some, List.map_cons, List.map_nil, List.cons_append, List.nil_append, List.replicate_succ, List.replicate_zero, List.getElem?_cons_zero, List.getElem?_cons_succ, List.length_cons, List.length_nil, List.set_cons_zero, List.set_cons_succ, isOwn, if_true, reduceIte, Bool.false_eq_true, Nat.reduceAdd, atI_0, atI_1, ixN_0, ixN_1, gt_int, lt_int, le_int, ge_int, add_int, sub_int, eq_int, ne_int, eq_str, ne_str, decide_true, decide_false, Nat.zero_add, t1, l1', hl, i0, i1, i2, i3, s1, c1, c2, e1, e2, n1, w1, ht, eq_self, Bool.not_true, Bool.false_and, mTold]
    · simp only [seqS, ifS, boolE, binE, unE, appE, ixOwnE, popOwnE, lenOwnE, cE, varE, retS, retNS, asgS, asgOwnS, parS, parOwnS, appendS, dropS, nopS, forS, forGo, seqI, range1I, range2I, enumI, rangeL, callE, callIO, callL, consA, nilA, nameT, tupT, consT, nilT, ownIxT, andE, orE, notE, andT, orT, notT, chainE, ifE, slE, someO, noO, lstE, lstF, appL, methE, isStrD, raiseS, rsIO, rsOf, own0, ofOpt, R.bind_ok, R.bind_er, R.bindS_ok, R.bindS_er, Option.bind_some, Option.map_some, List.map_cons, List.map_nil, List.cons_append, List.nil_append, List.replicate_succ, List.replicate_zero, List.getElem?_cons_zero, List.getElem?_cons_succ, List.length_cons, List.length_nil, List.set_cons_zero, List.set_cons_succ, isOwn, if_true, reduceIte, Bool.false_eq_true, Nat.reduceAdd, atI_0, atI_1, ixN_0, ixN_1, gt_int, lt_int, le_int, ge_int, add_int, sub_int, eq_int, ne_int, eq_str, ne_str, decide_true, decide_false, Nat.zero_add, t1, l1', hl, i0, i1, i2, i3, s1, c1, c2, e1, e2, n1, w1, ht, eq_self, Bool.not_true, Bool.true_and, mTold]
  | a :: b :: c :: d :: r, _, i0 => exact gen _ (by simp) i0
theorem form_fix (r : List D) (hr : ∀ d ∈ r, okStr d) : f_is_event_form [.tup (.str sFIX :: r)] = .ok (.bl (mFix r)) := by
  have i0 : ixF (.tup (.str sFIX :: r)) (.int 0) = some (.str sFIX) := by
    show atI (.str sFIX :: r) 0 = _
    rw [atI_0]
  have s1 : isiF "str" (.str sFIX) = some (.bl true) := rfl
  have c1 : c_LEAVE = .str sLEAVE := rfl
  have c2 : c_TOLD = .str sTOLD := rfl
  have c3 : c_FIX = .str sFIX := rfl
  have c4 : c_MOST_ROUND = .int 99 := rfl
  have e1 : eqF (.str sFIX) (.str sLEAVE) = some (.bl false) := by rw [eq_w, decide_eq_false w_lf]
  have e2 : eqF (.str sFIX) (.str sTOLD) = some (.bl false) := by rw [eq_w, decide_eq_false w_tf]
  have e3 : neF (.str sFIX) (.str sFIX) = some (.bl false) := by rw [ne_w, decide_eq_true rfl]; rfl
  have gen : ∀ r : List D, r.length ≠ 4 → ixF (.tup (.str sFIX :: r)) (.int 0) = some (.str sFIX) → f_is_event_form [.tup (.str sFIX :: r)] = .ok (.bl false) := fun r h3 i0 => by
    have t1 : isiF "tuple" (.tup (.str sFIX :: r)) = some (.bl true) := rfl
    have l1 : lenF [.tup (.str sFIX :: r)] = some (.int (r.length + 1 : Nat)) := rfl
    have h4 : ¬ (((r.length + 1 : Nat) : Int) = 5) := by omega
    unfold f_is_event_form g_is_event_form runP
    generalize (.tup (.str sFIX :: r) : D) = T at *
    by_cases hl : ((r.length + 1 : Nat) : Int) < 2
    · simp only [seqS, ifS, boolE, binE, unE, appE, ixOwnE, popOwnE, lenOwnE, cE, varE, retS, retNS, asgS, asgOwnS, parS, parOwnS, appendS, dropS, nopS, forS, forGo, seqI, range1I, range2I, enumI, rangeL, callE, callIO, callL, consA, nilA, nameT, tupT, consT, nilT, ownIxT, andE, orE, notE, andT, orT, notT, chainE, ifE, slE, someO, noO, lstE, lstF, appL, methE, isStrD, raiseS, rsIO, rsOf, own0, ofOpt, R.bind_ok, R.bind_er, R.bindS_ok, R.bindS_er, Option.bind_some, Option.map_some, List.map_cons, List.map_nil, List.cons_append, List.nil_append, List.replicate_succ, List.replicate_zero, List.getElem?_cons_zero, List.getElem?_cons_succ, List.length_cons, List.length_nil, List.set_cons_zero, List.set_cons_succ, isOwn, if_true, reduceIte, Bool.false_eq_true, Nat.reduceAdd, atI_0, atI_1, ixN_0, ixN_1, gt_int, lt_int, le_int, ge_int, add_int, sub_int, eq_int, ne_int, eq_str, ne_str, decide_true, decide_false, Nat.zero_add, t1, l1, hl, Bool.not_true]
    · simp only [seqS, ifS, boolE, binE, unE, appE, ixOwnE, popOwnE, lenOwnE, cE, varE, retS, retNS, asgS, asgOwnS, parS, parOwnS, appendS, dropS, nopS, forS, forGo, seqI, range1I, range2I, enumI, rangeL, callE, callIO, callL, consA, nilA, nameT, tupT, consT, nilT, ownIxT, andE, orE, notE, andT, orT, notT, chainE, ifE, slE, someO, noO, lstE, lstF, appL, methE, isStrD, raiseS, rsIO, rsOf, own0, ofOpt, R.bind_ok, R.bind_er, R.bindS_ok, R.bindS_er, Option.bind_some, Option.map_some, List.map_cons, List.map_nil, List.cons_append, List.nil_append, List.replicate_succ, List.replicate_zero, List.getElem?_cons_zero, List.getElem?_cons_succ, List.length_cons, List.length_nil, List.set_cons_zero, List.set_cons_succ, isOwn, if_true, reduceIte, Bool.false_eq_true, Nat.reduceAdd, atI_0, atI_1, ixN_0, ixN_1, gt_int, lt_int, le_int, ge_int, add_int, sub_int, eq_int, ne_int, eq_str, ne_str, decide_true, decide_false, Nat.zero_add, t1, l1, hl, h4, i0, s1, c1, c2, c3, e1, e2, e3, Bool.not_true, Bool.not_false]
  match r, hr, i0 with
  | [], _, i0 => exact gen [] (by simp) i0
  | [a], _, i0 => exact gen [a] (by simp) i0
  | [a, b], _, i0 => exact gen [a, b] (by simp) i0
  | [a, b, c], _, i0 => exact gen [a, b, c] (by simp) i0
  | [n, a, b, c], hr, i0 =>
    have t1 : isiF "tuple" (.tup [.str sFIX, n, a, b, c]) = some (.bl true) := rfl
    have hl : ¬ ((5 : Int) < 2) := by decide
    have l1' : lenF [.tup [.str sFIX, n, a, b, c]] = some (.int 5) := rfl
    have i1 : ixF (.tup [.str sFIX, n, a, b, c]) (.int 1) = some n := rfl
    have i2 : ixF (.tup [.str sFIX, n, a, b, c]) (.int 2) = some a := rfl
    have i3 : ixF (.tup [.str sFIX, n, a, b, c]) (.int 3) = some b := rfl
    have i4 : ixF (.tup [.str sFIX, n, a, b, c]) (.int 4) = some c := rfl
    have n1 := x_are_two a b (hr a (by simp)) (hr b (by simp))
    have w1 := x_is_within c 0 2
    have w2 := x_is_within n 0 99
    unfold f_is_event_form g_is_event_form runP
    cases hw : within n 0 99
    · simp only [seqS, ifS, boolE, binE, unE, appE, ixOwnE, popOwnE, lenOwnE, cE, varE, retS, retNS, asgS, asgOwnS, parS, parOwnS, appendS, dropS, nopS, forS, forGo, seqI, range1I, range2I, enumI, rangeL, callE, callIO, callL, consA, nilA, nameT, tupT, consT, nilT, ownIxT, andE, orE, notE, andT, orT, notT, chainE, ifE, slE, someO, noO, lstE, lstF, appL, methE, isStrD, raiseS, rsIO, rsOf, own0, ofOpt, R.bind_ok, R.bind_er, R.bindS_ok, R.bindS_er, Option.bind_some, Option.map_some, List.map_cons, List.map_nil, List.cons_append, List.nil_append, List.replicate_succ, List.replicate_zero, List.getElem?_cons_zero, List.getElem?_cons_succ, List.length_cons, List.length_nil, List.set_cons_zero, List.set_cons_succ, isOwn, if_true, reduceIte, Bool.false_eq_true, Nat.reduceAdd, atI_0, atI_1, ixN_0, ixN_1, gt_int, lt_int, le_int, ge_int, add_int, sub_int, eq_int, ne_int, eq_str, ne_str, decide_true, decide_false, Nat.zero_add, t1, l1', hl, i0, i1, s1, c1, c2, c3, c4, e1, e2, e3, w2, hw, eq_self, Bool.not_true, Bool.not_false, Bool.false_and, mFix]
    · cases ht : two a b
      · simp only [seqS, ifS, boolE, binE, unE, appE, ixOwnE, popOwnE, lenOwnE, cE, varE, retS, retNS, asgS, asgOwnS, parS, parOwnS, appendS, dropS, nopS, forS, forGo, seqI, range1I, range2I, enumI, rangeL, callE, callIO, callL, consA, nilA, nameT, tupT, consT, nilT, ownIxT, andE, orE, notE, andT, orT, notT, chainE, ifE, slE, someO, noO, lstE, lstF, appL, methE, isStrD, raiseS, rsIO, rsOf, own0, ofOpt, R.bind_ok, R.bind_er, R.bindS_ok, R.bindS_er, Option.bind_some, Option.map_some, List.map_cons, List.map_nil, List.cons_append, List.nil_append, List.replicate_succ, List.replicate_zero, List.getElem?_cons_zero, List.getElem?_cons_succ, List.length_cons, List.length_nil, List.set_cons_zero, List.set_cons_succ, isOwn, if_true, reduceIte, Bool.false_eq_true, Nat.reduceAdd, atI_0, atI_1, ixN_0, ixN_1, gt_int, lt_int, le_int, ge_int, add_int, sub_int, eq_int, ne_int, eq_str, ne_str, decide_true, decide_false, Nat.zero_add, t1, l1', hl, i0, i1, i2, i3, i4, s1, c1, c2, c3, c4, e1, e2, e3, n1, w1, w2, hw, ht, eq_self, Bool.not_true, Bool.not_false, Bool.false_and, Bool.true_and, mFix]
      · simp only [seqS, ifS, boolE, binE, unE, appE, ixOwnE, popOwnE, lenOwnE, cE, varE, retS, retNS, asgS, asgOwnS, parS, parOwnS, appendS, dropS, nopS, forS, forGo, seqI, range1I, range2I, enumI, rangeL, callE, callIO, callL, consA, nilA, nameT, tupT, consT, nilT, ownIxT, andE, orE, notE, andT, orT, notT, chainE, ifE, slE, someO, noO, lstE, lstF, appL, methE, isStrD, raiseS, rsIO, rsOf, own0, ofOpt, R.bind_ok, R.bind_er, R.bindS_ok, R.bindS_er, Option.bind_some, Option.map_some, List.map_cons, List.map_nil, List.cons_append, List.nil_append, List.replicate_succ, List.replicate_zero, List.getElem?_cons_zero, List.getElem?_cons_succ, List.length_cons, List.length_nil, List.set_cons_zero, List.set_cons_succ, isOwn, if_true, reduceIte, Bool.false_eq_true, Nat.reduceAdd, atI_0, atI_1, ixN_0, ixN_1, gt_int, lt_int, le_int, ge_int, add_int, sub_int, eq_int, ne_int, eq_str, ne_str, decide_true, decide_false, Nat.zero_add, t1, l1', hl, i0, i1, i2, i3, i4, s1, c1, c2, c3, c4, e1, e2, e3, n1, w1, w2, hw, ht, eq_self, Bool.not_true, Bool.not_false, Bool.true_and, mFix]
  | a :: b :: c :: d :: e :: r, _, i0 => exact gen _ (by simp) i0
theorem form_other (w : Str) (r : List D) (h1 : w ≠ sLEAVE) (h2 : w ≠ sTOLD) (h3 : w ≠ sFIX) : f_is_event_form [.tup (.str w :: r)] = .ok (.bl false) := by
  have i0 : ixF (.tup (.str w :: r)) (.int 0) = some (.str w) := by
    show atI (.str w :: r) 0 = _
    rw [atI_0]
  have s1 : isiF "str" (.str w) = some (.bl true) := rfl
  have c1 : c_LEAVE = .str sLEAVE := rfl
  have c2 : c_TOLD = .str sTOLD := rfl
  have c3 : c_FIX = .str sFIX := rfl
  have e1 : eqF (.str w) (.str sLEAVE) = some (.bl false) := by rw [eq_w, decide_eq_false h1]
  have e2 : eqF (.str w) (.str sTOLD) = some (.bl false) := by rw [eq_w, decide_eq_false h2]
  have e3 : neF (.str w) (.str sFIX) = some (.bl true) := by rw [ne_w, decide_eq_false h3]; rfl
  have t1 : isiF "tuple" (.tup (.str w :: r)) = some (.bl true) := rfl
  have l1 : lenF [.tup (.str w :: r)] = some (.int (r.length + 1 : Nat)) := rfl
  unfold f_is_event_form g_is_event_form runP
  generalize (.tup (.str w :: r) : D) = T at *
  by_cases hl : ((r.length + 1 : Nat) : Int) < 2
  · simp only [seqS, ifS, boolE, binE, unE, appE, ixOwnE, popOwnE, lenOwnE, cE, varE, retS, retNS, asgS, asgOwnS, parS, parOwnS, appendS, dropS, nopS, forS, forGo, seqI, range1I, range2I, enumI, rangeL, callE, callIO, callL, consA, nilA, nameT, tupT, consT, nilT, ownIxT, andE, orE, notE, andT, orT, notT, chainE, ifE, slE, someO, noO, lstE, lstF, appL, methE, isStrD, raiseS, rsIO, rsOf, own0, ofOpt, R.bind_ok, R.bind_er, R.bindS_ok, R.bindS_er, Option.bind_some, Option.map_some, List.map_cons, List.map_nil, List.cons_append, List.nil_append, List.replicate_succ, List.replicate_zero, List.getElem?_cons_zero, List.getElem?_cons_succ, List.length_cons, List.length_nil, List.set_cons_zero, List.set_cons_succ, isOwn, if_true, reduceIte, Bool.false_eq_true, Nat.reduceAdd, atI_0, atI_1, ixN_0, ixN_1, gt_int, lt_int, le_int, ge_int, add_int, sub_int, eq_int, ne_int, eq_str, ne_str, decide_true, decide_false, Nat.zero_add, t1, l1, hl, Bool.not_true]
  · simp only [seqS, ifS, boolE, binE, unE, appE, ixOwnE, popOwnE, lenOwnE, cE, varE, retS, retNS, asgS, asgOwnS, parS, parOwnS, appendS, dropS, nopS, forS, forGo, seqI, range1I, range2I, enumI, rangeL, callE, callIO, callL, consA, nilA, nameT, tupT, consT, nilT, ownIxT, andE, orE, notE, andT, orT, notT, chainE, ifE, slE, someO, noO, lstE, lstF, appL, methE, isStrD, raiseS, rsIO, rsOf, own0, ofOpt, R.bind_ok, R.bind_er, R.bindS_ok, R.bindS_er, Option.bind_some, Option.map_some, List.map_cons, List.map_nil, List.cons_append, List.nil_append, List.replicate_succ, List.replicate_zero, List.getElem?_cons_zero, List.getElem?_cons_succ, List.length_cons, List.length_nil, List.set_cons_zero, List.set_cons_succ, isOwn, if_true, reduceIte, Bool.false_eq_true, Nat.reduceAdd, atI_0, atI_1, ixN_0, ixN_1, gt_int, lt_int, le_int, ge_int, add_int, sub_int, eq_int, ne_int, eq_str, ne_str, decide_true, decide_false, Nat.zero_add, t1, l1, hl, i0, s1, c1, c2, c3, e1, e2, e3, Bool.not_true]
end K12
end L2
set_option linter.all false
set_option maxRecDepth 100000
set_option maxHeartbeats 4000000
namespace L2
namespace K12
open PySem PySem.Spec PL TL
open _root_.SX (S S_len S_cat S_tl S_inj split_S join_S num_S int_S)
mutual
theorem fine_lay : ∀ {p : PyData}, fine p = true → p.canLay0 = true
  | .none, _ => rfl
  | .bool _, _ => rfl
  | .int _, _ => rfl
  | .str x, h => strOk_asc (Asc.of (Bool.and_eq_true_iff.mp (show (decide (x.length ≤ 1000) && asc7 x.cps.toList) = true from h)).2)
  | .list xs, h => fineAll_lay (ps := xs) h
  | .tuple xs, h => fineAll_lay (ps := xs) h
  | .dict _, h => by cases h
theorem fineAll_lay : ∀ {ps : List PyData}, fineAll ps = true → PyData.canLayAll0 ps = true
  | [], _ => rfl
  | p :: ps, h => by
    obtain ⟨h1, h2⟩ := Bool.and_eq_true_iff.mp (show (fine p && fineAll ps) = true from h)
    show (p.canLay0 && PyData.canLayAll0 ps) = true
    rw [fine_lay h1, fineAll_lay h2]
    rfl
end
theorem eq_nil {xs : List D} {k c : Nat} (h : FDs xs k c) (hk : k ≤ 60) : eqF (.tup xs) (.tup []) = some (.bl xs.isEmpty) := by
  obtain ⟨ps, q1, q2, q3, q4⟩ := h
  have e : eqF (.tup xs) (.tup []) = eqPF false (.tup xs) (.tup []) := rfl
  have p1 : D.toP (.tup xs) = some (.tuple ps) := by
    show (D.toPs xs).map _ = _
    rw [q1]
    rfl
  have s1 : SeqAt.shaped (.tuple ps) = true := by
    show (PyData.canLayAll0 ps && decide (PyData.depthAll ps + 1 ≤ 64)) = true
    rw [fineAll_lay q2, decide_eq_true (by omega)]
    rfl
  have s2 : SeqAt.shaped (.tuple []) = true := by decide
  rw [e]
  unfold eqPF
  rw [p1]
  show (if (SeqAt.shaped (.tuple ps) && SeqAt.shaped (.tuple [])) = true then _ else _) = _
  rw [s1, s2]
  have : xs.isEmpty = ps.isEmpty := by
    cases xs with
    | nil => cases q1; rfl
    | cons d r =>
      have q1' : (match D.toP d, D.toPs r with | some p, some ps => some (p :: ps) | _, _ => none) = some ps := q1
      split at q1'
      · cases q1'; rfl
      · cases q1'
  rw [this]
  cases ps <;> rfl
def E1T : GE Bool := (orT (notT (boolE (unE (isiF "int") (varE 2)))) (orT (boolE (unE (isiF "bool") (varE 2))) (notT (boolE (chainE leF leF (cE (.int 0)) (varE 2) (varE 3))))))
theorem E1T_ok (x y : SV) (d : D) (most : Int) : E1T [x, y, .d d, .d (.int most)] = .ok (!within d 0 most) [x, y, .d d, .d (.int most)] := by
  unfold E1T
  cases d with
  | int i =>
    have e1 : isiF "int" (.int i) = some (.bl true) := rfl
    have e2 : isiF "bool" (.int i) = some (.bl false) := rfl
    unfold within
    by_cases h : 0 ≤ i
    · simp only [seqS, ifS, boolE, binE, unE, appE, ixOwnE, popOwnE, lenOwnE, cE, varE, retS, retNS, asgS, asgOwnS, parS, parOwnS, appendS, dropS, nopS, forS, forGo, seqI, range1I, range2I, enumI, rangeL, callE, callIO, callL, consA, nilA, nameT, tupT, consT, nilT, ownIxT, andE, orE, notE, andT, orT, notT, chainE, ifE, slE, someO, noO, lstE, lstF, appL, methE, isStrD, raiseS, rsIO, rsOf, own0, ofOpt, R.bind_ok, R.bind_er, R.bindS_ok, R.bindS_er, Option.bind_some, Option.map_some, List.map_cons, List.map_nil, List.cons_append, List.nil_append, List.replicate_succ, List.replicate_zero, List.getElem?_cons_zero, List.getElem?_cons_succ, List.length_cons, List.length_nil, List.set_cons_zero, List.set_cons_succ, isOwn, if_true, reduceIte, Bool.false_eq_true, Nat.reduceAdd, atI_0, atI_1, ixN_0, ixN_1, gt_int, lt_int, le_int, ge_int, add_int, sub_int, eq_int, ne_int, eq_str, ne_str, decide_true, decide_false, Nat.zero_add, e1, e2, h, Bool.not_true, Bool.not_false, Bool.true_and]
    · simp only [seqS, ifS, boolE, binE, unE, appE, ixOwnE, popOwnE, lenOwnE, cE, varE, retS, retNS, asgS, asgOwnS, parS, parOwnS, appendS, dropS, nopS, forS, forGo, seqI, range1I, range2I, enumI, rangeL, callE, callIO, callL, consA, nilA, nameT, tupT, consT, nilT, ownIxT, andE, orE, notE, andT, orT, notT, chainE, ifE, slE, someO, noO, lstE, lstF, appL, methE, isStrD, raiseS, rsIO, rsOf, own0, ofOpt, R.bind_ok, R.bind_er, R.bindS_ok, R.bindS_er, Option.bind_some, Option.map_some, List.map_cons, List.map_nil, List.cons_append, List.nil_append, List.replicate_succ, List.replicate_zero, List.getElem?_cons_zero, List.getElem?_cons_succ, List.length_cons, List.length_nil, List.set_cons_zero, List.set_cons_succ, isOwn, if_true, reduceIte, Bool.false_eq_true, Nat.reduceAdd, atI_0, atI_1, ixN_0, ixN_1, gt_int, lt_int, le_int, ge_int, add_int, sub_int, eq_int, ne_int, eq_str, ne_str, decide_true, decide_false, Nat.zero_add, e1, e2, h, Bool.not_true, Bool.not_false, Bool.false_and]
  | _ => rfl
def eA : GE Bool := (orT (notT (boolE (unE (isiF "tuple") (varE 0)))) (orT (boolE (binE eqF (varE 0) (appE tupF nilA))) (notT (boolE (unE (isiF "str") (binE ixF (varE 0) (cE (.int 0))))))))
def eFor : GS := (forS (seqI (appE tupF (consA (appE tupF (consA (varE 1) (consA (cE (.int 99)) nilA))) (consA (appE tupF (consA (binE ixF (varE 0) (unE negF (cE (.int 1)))) (consA (cE (.int 2)) nilA))) nilA)))) (tupT (consT (nameT 2) (consT (nameT 3) nilT))) (ifS E1T (retS (cE (.bl false))) nopS))
def eEnd : GS := (retS (andE (callE 1 f_l_is_name (consA (binE ixF (varE 0) (unE negF (cE (.int 3)))) nilA)) (andE (callE 1 f_l_is_name (consA (binE ixF (varE 0) (unE negF (cE (.int 2)))) nilA)) (binE neF (binE ixF (varE 0) (unE negF (cE (.int 3)))) (binE ixF (varE 0) (unE negF (cE (.int 2))))))))
theorem l_is_event_is : g_l_is_event = (seqS (ifS eA (retS (cE (.bl false))) nopS)
    (seqS (ifS (boolE (binE eqF (binE ixF (varE 0) (cE (.int 0))) (cE (.str "leave")))) (retS (andE (binE eqF (appE lenF (consA (varE 0) nilA)) (cE (.int 2))) (callE 1 f_l_is_name (consA (binE ixF (varE 0) (cE (.int 1))) nilA)))) nopS)
    (seqS (ifS (orT (boolE (binE notInF (binE ixF (varE 0) (cE (.int 0))) (appE tupF (consA (cE (.str "told")) (consA (cE (.str "fix")) nilA))))) (boolE (binE neF (appE lenF (consA (varE 0) nilA)) (ifE (boolE (binE eqF (binE ixF (varE 0) (cE (.int 0))) (cE (.str "told")))) (cE (.int 4)) (cE (.int 5)))))) (retS (cE (.bl false))) nopS)
    (seqS (asgS (ifE (boolE (binE eqF (binE ixF (varE 0) (cE (.int 0))) (cE (.str "fix")))) (binE ixF (varE 0) (cE (.int 1))) (cE (.int 0))) (nameT 1))
    (seqS eFor eEnd))))) := rfl
theorem eA_tup (w : Str) (r : List D) {k c : Nat} (h : FDs (.str w :: r) k c) (hk : k ≤ 60) (y z t : SV) : eA [.d (.tup (.str w :: r)), y, z, t] = .ok false [.d (.tup (.str w :: r)), y, z, t] := by
  have t1 : isiF "tuple" (.tup (.str w :: r)) = some (.bl true) := rfl
  have i0 : ixF (.tup (.str w :: r)) (.int 0) = some (.str w) := by
    show atI (.str w :: r) 0 = _
    rw [atI_0]
  have s1 : isiF "str" (.str w) = some (.bl true) := rfl
  have e1 : eqF (.tup (.str w :: r)) (.tup []) = some (.bl false) := eq_nil h hk
  have t0 : tupF [] = some (.tup []) := rfl
  generalize (.tup (.str w :: r) : D) = T at *
  unfold eA
  simp only [seqS, ifS, boolE, binE, unE, appE, ixOwnE, popOwnE, lenOwnE, cE, varE, retS, retNS, asgS, asgOwnS, parS, parOwnS, appendS, dropS, nopS, forS, forGo, seqI, range1I, range2I, enumI, rangeL, callE, callIO, callL, consA, nilA, nameT, tupT, consT, nilT, ownIxT, andE, orE, notE, andT, orT, notT, chainE, ifE, slE, someO, noO, lstE, lstF, appL, methE, isStrD, raiseS, rsIO, rsOf, own0, ofOpt, R.bind_ok, R.bind_er, R.bindS_ok, R.bindS_er, Option.bind_some, Option.map_some, List.map_cons, List.map_nil, List.cons_append, List.nil_append, List.replicate_succ, List.replicate_zero, List.getElem?_cons_zero, List.getElem?_cons_succ, List.length_cons, List.length_nil, List.set_cons_zero, List.set_cons_succ, isOwn, if_true, reduceIte, Bool.false_eq_true, Nat.reduceAdd, atI_0, atI_1, ixN_0, ixN_1, gt_int, lt_int, le_int, ge_int, add_int, sub_int, eq_int, ne_int, eq_str, ne_str, decide_true, decide_false, Nat.zero_add, t1, i0, s1, e1, t0, Bool.not_true]
theorem l_ev_head (d : D) (h : ∀ w r, d ≠ .tup (.str w :: r)) (hf : ∀ xs, d = .tup xs → ∃ k c, FDs xs k c ∧ k ≤ 60) : f_l_is_event [d] = .ok (.bl false) := by
  unfold f_l_is_event runP
  rw [l_is_event_is]
  have hA : ∀ y z t : SV, eA [.d d, y, z, t] = .ok true [.d d, y, z, t] := fun y z t => by
    unfold eA
    cases d with
    | tup xs =>
      have t1 : isiF "tuple" (.tup xs) = some (.bl true) := rfl
      have t0 : tupF [] = some (.tup []) := rfl
      obtain ⟨k, c, h1, h2⟩ := hf xs rfl
      have e1 := eq_nil h1 h2
      cases xs with
      | nil =>
        have e1' : eqF (.tup []) (.tup []) = some (.bl true) := e1
        simp only [seqS, ifS, boolE, binE, unE, appE, ixOwnE, popOwnE, lenOwnE, cE, varE, retS, retNS, asgS, asgOwnS, parS, parOwnS, appendS, dropS, nopS, forS, forGo, seqI, range1I, range2I, enumI, rangeL, callE, callIO, callL, consA, nilA, nameT, tupT, consT, nilT, ownIxT, andE, orE, notE, andT, orT, notT, chainE, ifE, slE, someO, noO, lstE, lstF, appL, methE, isStrD, raiseS, rsIO, rsOf, own0, ofOpt, R.bind_ok, R.bind_er, R.bindS_ok, R.bindS_er, Option.bind_some, Option.map_some, List.map_cons, List.map_nil, List.cons_append, List.nil_append, List.replicate_succ, List.replicate_zero, List.getElem?_cons_zero, List.getElem?_cons_succ, List.length_cons, List.length_nil, List.set_cons_zero, List.set_cons_succ, isOwn, if_true, reduceIte, Bool.false_eq_true, Nat.reduceAdd, atI_0, atI_1, ixN_0, ixN_1, gt_int, lt_int, le_int, ge_int, add_int, sub_int, eq_int, ne_int, eq_str, ne_str, decide_true, decide_false, Nat.zero_add, t1, t0, e1', Bool.not_true]
      | cons a r =>
        have i0 : ixF (.tup (a :: r)) (.int 0) = some a := by
          show atI (a :: r) 0 = _
          rw [atI_0]
        have hs : isiF "str" a = some (.bl false) := by
          cases a with
          | str w => exact absurd rfl (h w r)
          | _ => rfl
        have e1' : eqF (.tup (a :: r)) (.tup []) = some (.bl false) := e1
        generalize (.tup (a :: r) : D) = T at *
        simp only [seqS, ifS, boolE, binE, unE, appE, ixOwnE, popOwnE, lenOwnE, cE, varE, retS, retNS, asgS, asgOwnS, parS, parOwnS, appendS, dropS, nopS, forS, forGo, seqI, range1I, range2I, enumI, rangeL, callE, callIO, callL, consA, nilA, nameT, tupT, consT, nilT, ownIxT, andE, orE, notE, andT, orT, notT, chainE, ifE, slE, someO, noO, lstE, lstF, appL, methE, isStrD, raiseS, rsIO, rsOf, own0, ofOpt, R.bind_ok, R.bind_er, R.bindS_ok, R.bindS_er, Option.bind_some, Option.map_some, List.map_cons, List.map_nil, List.cons_append, List.nil_append, List.replicate_succ, List.replicate_zero, List.getElem?_cons_zero, List.getElem?_cons_succ, List.length_cons, List.length_nil, List.set_cons_zero, List.set_cons_succ, isOwn, if_true, reduceIte, Bool.false_eq_true, Nat.reduceAdd, atI_0, atI_1, ixN_0, ixN_1, gt_int, lt_int, le_int, ge_int, add_int, sub_int, eq_int, ne_int, eq_str, ne_str, decide_true, decide_false, Nat.zero_add, t1, t0, e1', i0, hs, Bool.not_true, Bool.not_false]
    | _ => rfl
  simp only [seqS, ifS, boolE, binE, unE, appE, ixOwnE, popOwnE, lenOwnE, cE, varE, retS, retNS, asgS, asgOwnS, parS, parOwnS, appendS, dropS, nopS, forS, forGo, seqI, range1I, range2I, enumI, rangeL, callE, callIO, callL, consA, nilA, nameT, tupT, consT, nilT, ownIxT, andE, orE, notE, andT, orT, notT, chainE, ifE, slE, someO, noO, lstE, lstF, appL, methE, isStrD, raiseS, rsIO, rsOf, own0, ofOpt, R.bind_ok, R.bind_er, R.bindS_ok, R.bindS_er, Option.bind_some, Option.map_some, List.map_cons, List.map_nil, List.cons_append, List.nil_append, List.replicate_succ, List.replicate_zero, List.getElem?_cons_zero, List.getElem?_cons_succ, List.length_cons, List.length_nil, List.set_cons_zero, List.set_cons_succ, isOwn, if_true, reduceIte, Bool.false_eq_true, Nat.reduceAdd, atI_0, atI_1, ixN_0, ixN_1, gt_int, lt_int, le_int, ge_int, add_int, sub_int, eq_int, ne_int, eq_str, ne_str, decide_true, decide_false, Nat.zero_add, hA]
theorem l_ev_leave (r : List D) (hr : ∀ d ∈ r, okStr d) {k c : Nat} (h : FDs (.str sLEAVE :: r) k c) (hk : k ≤ 60) : f_l_is_event [.tup (.str sLEAVE :: r)] = .ok (.bl (mLeave r)) := by
  have hA := eA_tup sLEAVE r h hk
  have i0 : ixF (.tup (.str sLEAVE :: r)) (.int 0) = some (.str sLEAVE) := by
    show atI (.str sLEAVE :: r) 0 = _
    rw [atI_0]
  have e1 : eqF (.str sLEAVE) (.str ("leave" : Str)) = some (.bl true) := by
    show eqF (.str sLEAVE) (.str sLEAVE) = _
    rw [eq_w, decide_eq_true rfl]
  have l1 : lenF [.tup (.str sLEAVE :: r)] = some (.int (r.length + 1 : Nat)) := rfl
  unfold f_l_is_event runP
  rw [l_is_event_is]
  by_cases hl : r.length = 1
  · match r, hl, hr with
    | [a], _, hr =>
      have n1 := x_l_is_name a (hr a (by simp))
      have i1 : ixF (.tup [.str sLEAVE, a]) (.int 1) = some a := rfl
      have l2 : lenF [.tup [.str sLEAVE, a]] = some (.int 2) := rfl
      simp only [seqS, ifS, boolE, binE, unE, appE, ixOwnE, popOwnE, lenOwnE, cE, varE, retS, retNS, asgS, asgOwnS, parS, parOwnS, appendS, dropS, nopS, forS, forGo, seqI, range1I, range2I, enumI, rangeL, callE, callIO, callL, consA, nilA, nameT, tupT, consT, nilT, ownIxT, andE, orE, notE, andT, orT, notT, chainE, ifE, slE, someO, noO, lstE, lstF, appL, methE, isStrD, raiseS, rsIO, rsOf, own0, ofOpt, R.bind_ok, R.bind_er, R.bindS_ok, R.bindS_er, Option.bind_some, Option.map_some, List.map_cons, List.map_nil, List.cons_append, List.nil_append, List.replicate_succ, List.replicate_zero, List.getElem?_cons_zero, List.getElem?_cons_succ, List.length_cons, List.length_nil, List.set_cons_zero, List.set_cons_succ, isOwn, if_true, reduceIte, Bool.false_eq_true, Nat.reduceAdd, atI_0, atI_1, ixN_0, ixN_1, gt_int, lt_int, le_int, ge_int, add_int, sub_int, eq_int, ne_int, eq_str, ne_str, decide_true, decide_false, Nat.zero_add, hA, i0, i1, e1, l2, n1, eq_self, mLeave]
  · have hl' : ¬ (((r.length + 1 : Nat) : Int) = 2) := by omega
    have em : mLeave r = false := by
      match r, hl with
      | [], _ => rfl
      | [a], hl => exact absurd rfl hl
      | a :: b :: r, _ => rfl
    rw [em]
    generalize (.tup (.str sLEAVE :: r) : D) = T at *
    simp only [seqS, ifS, boolE, binE, unE, appE, ixOwnE, popOwnE, lenOwnE, cE, varE, retS, retNS, asgS, asgOwnS, parS, parOwnS, appendS, dropS, nopS, forS, forGo, seqI, range1I, range2I, enumI, rangeL, callE, callIO, callL, consA, nilA, nameT, tupT, consT, nilT, ownIxT, andE, orE, notE, andT, orT, notT, chainE, ifE, slE, someO, noO, lstE, lstF, appL, methE, isStrD, raiseS, rsIO, rsOf, own0, ofOpt, R.bind_ok, R.bind_er, R.bindS_ok, R.bindS_er, Option.bind_some, Option.map_some, List.map_cons, List.map_nil, List.cons_append, List.nil_append, List.replicate_succ, List.replicate_zero, List.getElem?_cons_zero, List.getElem?_cons_succ, List.length_cons, List.length_nil, List.set_cons_zero, List.set_cons_succ, isOwn, if_true, reduceIte, Bool.false_eq_true, Nat.reduceAdd, atI_0, atI_1, ixN_0, ixN_1, gt_int, lt_int, le_int, ge_int, add_int, sub_int, eq_int, ne_int, eq_str, ne_str, decide_true, decide_false, Nat.zero_add, hA, i0, e1, l1, hl']
theorem beq_w (x w : Str) : (x == w) = decide (x = w) := by
  have e1 : x = S x.cps.toList := (S_tl x).symm
  have e2 : w = S w.cps.toList := (S_tl w).symm
  rw [e1, e2, S_beq, S_eq]
theorem notin_tf (w : Str) : notInF (.str w) (.tup [.str ("told" : Str), .str ("fix" : Str)]) = some (.bl (!(decide (sTOLD = w) || decide (sFIX = w)))) := by
  show some (D.bl (!((sTOLD == w) || ((sFIX == w) || false)))) = _
  rw [beq_w, beq_w, Bool.or_false]
theorem l_ev_other (w : Str) (r : List D) (h1 : w ≠ sLEAVE) (h2 : w ≠ sTOLD) (h3 : w ≠ sFIX) {k c : Nat} (h : FDs (.str w :: r) k c) (hk : k ≤ 60) : f_l_is_event [.tup (.str w :: r)] = .ok (.bl false) := by
  have hA := eA_tup w r h hk
  have i0 : ixF (.tup (.str w :: r)) (.int 0) = some (.str w) := by
    show atI (.str w :: r) 0 = _
    rw [atI_0]
  have e1 : eqF (.str w) (.str ("leave" : Str)) = some (.bl false) := by
    show eqF (.str w) (.str sLEAVE) = _
    rw [eq_w, decide_eq_false h1]
  have n1 := notin_tf w
  rw [decide_eq_false (fun z => h2 z.symm), decide_eq_false (fun z => h3 z.symm)] at n1
  have t2 : ∀ x y : D, tupF [x, y] = some (.tup [x, y]) := fun _ _ => rfl
  unfold f_l_is_event runP
  rw [l_is_event_is]
  generalize (.tup (.str w :: r) : D) = T at *
  simp only [seqS, ifS, boolE, binE, unE, appE, ixOwnE, popOwnE, lenOwnE, cE, varE, retS, retNS, asgS, asgOwnS, parS, parOwnS, appendS, dropS, nopS, forS, forGo, seqI, range1I, range2I, enumI, rangeL, callE, callIO, callL, consA, nilA, nameT, tupT, consT, nilT, ownIxT, andE, orE, notE, andT, orT, notT, chainE, ifE, slE, someO, noO, lstE, lstF, appL, methE, isStrD, raiseS, rsIO, rsOf, own0, ofOpt, R.bind_ok, R.bind_er, R.bindS_ok, R.bindS_er, Option.bind_some, Option.map_some, List.map_cons, List.map_nil, List.cons_append, List.nil_append, List.replicate_succ, List.replicate_zero, List.getElem?_cons_zero, List.getElem?_cons_succ, List.length_cons, List.length_nil, List.set_cons_zero, List.set_cons_succ, isOwn, if_true, reduceIte, Bool.false_eq_true, Nat.reduceAdd, atI_0, atI_1, ixN_0, ixN_1, gt_int, lt_int, le_int, ge_int, add_int, sub_int, eq_int, ne_int, eq_str, ne_str, decide_true, decide_false, Nat.zero_add, hA, i0, e1, n1, t2, Bool.or_self, Bool.not_false]
theorem l_ev_told (r : List D) (hr : ∀ d ∈ r, okStr d) {k c : Nat} (h : FDs (.str sTOLD :: r) k c) (hk : k ≤ 60) : f_l_is_event [.tup (.str sTOLD :: r)] = .ok (.bl (mTold r)) := by
  have hA := eA_tup sTOLD r h hk
  have i0 : ixF (.tup (.str sTOLD :: r)) (.int 0) = some (.str sTOLD) := by
    show atI (.str sTOLD :: r) 0 = _
    rw [atI_0]
  have e1 : eqF (.str sTOLD) (.str ("leave" : Str)) = some (.bl false) := by
    show eqF (.str sTOLD) (.str sLEAVE) = _
    rw [eq_w, decide_eq_false w_lt]
  have e2 : eqF (.str sTOLD) (.str ("told" : Str)) = some (.bl true) := by
    show eqF (.str sTOLD) (.str sTOLD) = _
    rw [eq_w, decide_eq_true rfl]
  have e3 : eqF (.str sTOLD) (.str ("fix" : Str)) = some (.bl false) := by
    show eqF (.str sTOLD) (.str sFIX) = _
    rw [eq_w, decide_eq_false fun z => w_tf z.symm]
  have n1 := notin_tf sTOLD
  rw [decide_eq_true rfl, Bool.true_or] at n1
  have t2 : ∀ x y : D, tupF [x, y] = some (.tup [x, y]) := fun _ _ => rfl
  have l1 : lenF [.tup (.str sTOLD :: r)] = some (.int (r.length + 1 : Nat)) := rfl
  unfold f_l_is_event runP
  rw [l_is_event_is]
  by_cases hl : r.length = 3
  · match r, hl, hr, hA, i0 with
    | [a, b, c], _, hr, hA, i0 =>
      have m1 := x_l_is_name a (hr a (by simp))
      have m2 := x_l_is_name b (hr b (by simp))
      have i1 : ixF (.tup [.str sTOLD, a, b, c]) (.int (-1)) = some c := rfl
      have i2 : ixF (.tup [.str sTOLD, a, b, c]) (.int (-2)) = some b := rfl
      have i3 : ixF (.tup [.str sTOLD, a, b, c]) (.int (-3)) = some a := rfl
      have g1 : negF (.int 1) = some (.int (-1)) := rfl
      have g2 : negF (.int 2) = some (.int (-2)) := rfl
      have g3 : negF (.int 3) = some (.int (-3)) := rfl
      have l2 : lenF [.tup [.str sTOLD, a, b, c]] = some (.int 4) := rfl
      have f4 : neF (.int 4) (.int 4) = some (.bl false) := rfl
      have w0 : within (.int 0) 0 99 = true := by decide
      unfold mTold two eFor eEnd
      cases hc : within c 0 2
      · simp only [seqS, ifS, boolE, binE, unE, appE, ixOwnE, popOwnE, lenOwnE, cE, varE, retS, retNS, asgS, asgOwnS, parS, parOwnS, appendS, dropS, nopS, forS, forGo, seqI, range1I, range2I, enumI, rangeL, callE, callIO, callL, consA, nilA, nameT, tupT, consT, nilT, ownIxT, andE, orE, notE, andT, orT, notT, chainE, ifE, slE, someO, noO, lstE, lstF, appL, methE, isStrD, raiseS, rsIO, rsOf, own0, ofOpt, R.bind_ok, R.bind_er, R.bindS_ok, R.bindS_er, Option.bind_some, Option.map_some, List.map_cons, List.map_nil, List.cons_append, List.nil_append, List.replicate_succ, List.replicate_zero, List.getElem?_cons_zero, List.getElem?_cons_succ, List.length_cons, List.length_nil, List.set_cons_zero, List.set_cons_succ, isOwn, if_true, reduceIte, Bool.false_eq_true, Nat.reduceAdd, atI_0, atI_1, ixN_0, ixN_1, gt_int, lt_int, le_int, ge_int, add_int, sub_int, eq_int, ne_int, eq_str, ne_str, decide_true, decide_false, Nat.zero_add, hA, i0, i1, e1, e2, e3, n1, t2, l2, f4, g1, E1T_ok, w0, hc, Bool.not_true, Bool.not_false, Bool.and_false]
      · cases ha : isNameD a
        · simp only [seqS, ifS, boolE, binE, unE, appE, ixOwnE, popOwnE, lenOwnE, cE, varE, retS, retNS, asgS, asgOwnS, parS, parOwnS, appendS, dropS, nopS, forS, forGo, seqI, range1I, range2I, enumI, rangeL, callE, callIO, callL, consA, nilA, nameT, tupT, consT, nilT, ownIxT, andE, orE, notE, andT, orT, notT, chainE, ifE, slE, someO, noO, lstE, lstF, appL, methE, isStrD, raiseS, rsIO, rsOf, own0, ofOpt, R.bind_ok, R.bind_er, R.bindS_ok, R.bindS_er, Option.bind_some, Option.map_some, List.map_cons, List.map_nil, List.cons_append, List.nil_append, List.replicate_succ, List.replicate_zero, List.getElem?_cons_zero, List.getElem?_cons_succ, List.length_cons, List.length_nil, List.set_cons_zero, List.set_cons_succ, isOwn, if_true, reduceIte, Bool.false_eq_true, Nat.reduceAdd, atI_0, atI_1, ixN_0, ixN_1, gt_int, lt_int, le_int, ge_int, add_int, sub_int, eq_int, ne_int, eq_str, ne_str, decide_true, decide_false, Nat.zero_add, hA, i0, i1, i3, e1, e2, e3, n1, t2, l2, f4, g1, g3, m1, E1T_ok, w0, hc, ha, Bool.not_true, Bool.not_false, Bool.false_and]
        · cases hb : isNameD b
          · simp only [seqS, ifS, boolE, binE, unE, appE, ixOwnE, popOwnE, lenOwnE, cE, varE, retS, retNS, asgS, asgOwnS, parS, parOwnS, appendS, dropS, nopS, forS, forGo, seqI, range1I, range2I, enumI, rangeL, callE, callIO, callL, consA, nilA, nameT, tupT, consT, nilT, ownIxT, andE, orE, notE, andT, orT, notT, chainE, ifE, slE, someO, noO, lstE, lstF, appL, methE, isStrD, raiseS, rsIO, rsOf, own0, ofOpt, R.bind_ok, R.bind_er, R.bindS_ok, R.bindS_er, Option.bind_some, Option.map_some, List.map_cons, List.map_nil, List.cons_append, List.nil_append, List.replicate_succ, List.replicate_zero, List.getElem?_cons_zero, List.getElem?_cons_succ, List.length_cons, List.length_nil, List.set_cons_zero, List.set_cons_succ, isOwn, if_true, reduceIte, Bool.false_eq_true, Nat.reduceAdd, atI_0, atI_1, ixN_0, ixN_1, gt_int, lt_int, le_int, ge_int, add_int, sub_int, eq_int, ne_int, eq_str, ne_str, decide_true, decide_false, Nat.zero_add, hA, i0, i1, i2, i3, e1, e2, e3, n1, t2, l2, f4, g1, g2, g3, m1, m2, E1T_ok, w0, hc, ha, hb, Bool.not_true, Bool.not_false, Bool.false_and, Bool.true_and]
          · have ne := ne_names ha hb
            simp only [seqS, ifS, boolE, binE, unE, appE, ixOwnE, popOwnE, lenOwnE, cE, varE, retS, retNS, asgS, asgOwnS, parS, parOwnS, appendS, dropS, nopS, forS, forGo, seqI, range1I, range2I, enumI, rangeL, callE, callIO, callL, consA, nilA, nameT, tupT, consT, nilT, ownIxT, andE, orE, notE, andT, orT, notT, chainE, ifE, slE, someO, noO, lstE, lstF, appL, methE, isStrD, raiseS, rsIO, rsOf, own0, ofOpt, R.bind_ok, R.bind_er, R.bindS_ok, R.bindS_er, Option.bind_some, Option.map_some, List.map_cons, List.map_nil, List.cons_append, List.nil_append, List.replicate_succ, List.replicate_zero, List.getElem?_cons_zero, List.getElem?_cons_succ, List.length_cons, List.length_nil, List.set_cons_zero, List.set_cons_succ, isOwn, if_true, reduceIte, Bool.false_eq_true, Nat.reduceAdd, atI_0, atI_1, ixN_0, ixN_1, gt_int, lt_int, le_int, ge_int, add_int, sub_int, eq_int, ne_int, eq_str, ne_str, decide_true, decide_false, Nat.zero_add, hA, i0, i1, i2, i3, e1, e2, e3, n1, t2, l2, f4, g1, g2, g3, m1, m2, ne, E1T_ok, w0, hc, ha, hb, Bool.not_true, Bool.not_false, Bool.true_and, Bool.and_true]
  · have hl' : neF (.int (r.length + 1 : Nat)) (.int 4) = some (.bl true) := by
      rw [ne_int, decide_eq_false (by omega)]
      rfl
    have em : mTold r = false := by
      match r, hl with
      | [], _ => rfl
      | [a], _ => rfl
      | [a, b], _ => rfl
      | [a, b, c], hl => exact absurd rfl hl
      | a :: b :: c :: d :: r, _ => rfl
    rw [em]
    generalize (.tup (.str sTOLD :: r) : D) = T at *
    simp only [seqS, ifS, boolE, binE, unE, appE, ixOwnE, popOwnE, lenOwnE, cE, varE, retS, retNS, asgS, asgOwnS, parS, parOwnS, appendS, dropS, nopS, forS, forGo, seqI, range1I, range2I, enumI, rangeL, callE, callIO, callL, consA, nilA, nameT, tupT, consT, nilT, ownIxT, andE, orE, notE, andT, orT, notT, chainE, ifE, slE, someO, noO, lstE, lstF, appL, methE, isStrD, raiseS, rsIO, rsOf, own0, ofOpt, R.bind_ok, R.bind_er, R.bindS_ok, R.bindS_er, Option.bind_some, Option.map_some, List.map_cons, List.map_nil, List.cons_append, List.nil_append, List.replicate_succ, List.replicate_zero, List.getElem?_cons_zero, List.getElem?_cons_succ, List.length_cons, List.length_nil, List.set_cons_zero, List.set_cons_succ, isOwn, if_true, reduceIte, Bool.false_eq_true, Nat.reduceAdd, atI_0, atI_1, ixN_0, ixN_1, gt_int, lt_int, le_int, ge_int, add_int, sub_int, eq_int, ne_int, eq_str, ne_str, decide_true, decide_false, Nat.zero_add, hA, i0, e1, e2, n1, t2, l1, hl', Bool.not_true]
theorem l_ev_fix (r : List D) (hr : ∀ d ∈ r, okStr d) {k c : Nat} (h : FDs (.str sFIX :: r) k c) (hk : k ≤ 60) : f_l_is_event [.tup (.str sFIX :: r)] = .ok (.bl (mFix r)) := by
  have hA := eA_tup sFIX r h hk
  have i0 : ixF (.tup (.str sFIX :: r)) (.int 0) = some (.str sFIX) := by
    show atI (.str sFIX :: r) 0 = _
    rw [atI_0]
  have e1 : eqF (.str sFIX) (.str ("leave" : Str)) = some (.bl false) := by
    show eqF (.str sFIX) (.str sLEAVE) = _
    rw [eq_w, decide_eq_false w_lf]
  have e2 : eqF (.str sFIX) (.str ("told" : Str)) = some (.bl false) := by
    show eqF (.str sFIX) (.str sTOLD) = _
    rw [eq_w, decide_eq_false w_tf]
  have e3 : eqF (.str sFIX) (.str ("fix" : Str)) = some (.bl true) := by
    show eqF (.str sFIX) (.str sFIX) = _
    rw [eq_w, decide_eq_true rfl]
  have n1 := notin_tf sFIX
  rw [decide_eq_true (show sFIX = sFIX from rfl), Bool.or_true] at n1
  have t2 : ∀ x y : D, tupF [x, y] = some (.tup [x, y]) := fun _ _ => rfl
  have l1 : lenF [.tup (.str sFIX :: r)] = some (.int (r.length + 1 : Nat)) := rfl
  unfold f_l_is_event runP
  rw [l_is_event_is]
  by_cases hl : r.length = 4
  · match r, hl, hr, hA, i0 with
    | [n, a, b, c], _, hr, hA, i0 =>
      have m1 := x_l_is_name a (hr a (by simp))
      have m2 := x_l_is_name b (hr b (by simp))
      have j1 : ixF (.tup [.str sFIX, n, a, b, c]) (.int 1) = some n := rfl
      have i1 : ixF (.tup [.str sFIX, n, a, b, c]) (.int (-1)) = some c := rfl
      have i2 : ixF (.tup [.str sFIX, n, a, b, c]) (.int (-2)) = some b := rfl
      have i3 : ixF (.tup [.str sFIX, n, a, b, c]) (.int (-3)) = some a := rfl
      have g1 : negF (.int 1) = some (.int (-1)) := rfl
      have g2 : negF (.int 2) = some (.int (-2)) := rfl
      have g3 : negF (.int 3) = some (.int (-3)) := rfl
      have l2 : lenF [.tup [.str sFIX, n, a, b, c]] = some (.int 5) := rfl
      have f4 : neF (.int 5) (.int 5) = some (.bl false) := rfl
      unfold mFix two eFor eEnd
      cases hn : within n 0 99
      · simp only [seqS, ifS, boolE, binE, unE, appE, ixOwnE, popOwnE, lenOwnE, cE, varE, retS, retNS, asgS, asgOwnS, parS, parOwnS, appendS, dropS, nopS, forS, forGo, seqI, range1I, range2I, enumI, rangeL, callE, callIO, callL, consA, nilA, nameT, tupT, consT, nilT, ownIxT, andE, orE, notE, andT, orT, notT, chainE, ifE, slE, someO, noO, lstE, lstF, appL, methE, isStrD, raiseS, rsIO, rsOf, own0, ofOpt, R.bind_ok, R.bind_er, R.bindS_ok, R.bindS_er, Option.bind_some, Option.map_some, List.map_cons, List.map_nil, List.cons_append, List.nil_append, List.replicate_succ, List.replicate_zero, List.getElem?_cons_zero, List.getElem?_cons_succ, List.length_cons, List.length_nil, List.set_cons_zero, List.set_cons_succ, isOwn, if_true, reduceIte, Bool.false_eq_true, Nat.reduceAdd, atI_0, atI_1, ixN_0, ixN_1, gt_int, lt_int, le_int, ge_int, add_int, sub_int, eq_int, ne_int, eq_str, ne_str, decide_true, decide_false, Nat.zero_add, hA, i0, i1, j1, e1, e2, e3, n1, t2, l2, f4, g1, E1T_ok, hn, Bool.not_true, Bool.not_false, Bool.false_and]
      · cases hc : within c 0 2
        · simp only [seqS, ifS, boolE, binE, unE, appE, ixOwnE, popOwnE, lenOwnE, cE, varE, retS, retNS, asgS, asgOwnS, parS, parOwnS, appendS, dropS, nopS, forS, forGo, seqI, range1I, range2I, enumI, rangeL, callE, callIO, callL, consA, nilA, nameT, tupT, consT, nilT, ownIxT, andE, orE, notE, andT, orT, notT, chainE, ifE, slE, someO, noO, lstE, lstF, appL, methE, isStrD, raiseS, rsIO, rsOf, own0, ofOpt, R.bind_ok, R.bind_er, R.bindS_ok, R.bindS_er, Option.bind_some, Option.map_some, List.map_cons, List.map_nil, List.cons_append, List.nil_append, List.replicate_succ, List.replicate_zero, List.getElem?_cons_zero, List.getElem?_cons_succ, List.length_cons, List.length_nil, List.set_cons_zero, List.set_cons_succ, isOwn, if_true, reduceIte, Bool.false_eq_true, Nat.reduceAdd, atI_0, atI_1, ixN_0, ixN_1, gt_int, lt_int, le_int, ge_int, add_int, sub_int, eq_int, ne_int, eq_str, ne_str, decide_true, decide_false, Nat.zero_add, hA, i0, i1, j1, e1, e2, e3, n1, t2, l2, f4, g1, E1T_ok, hn, hc, Bool.not_true, Bool.not_false, Bool.and_false]
        · cases ha : isNameD a
          · simp only [seqS, ifS, boolE, binE, unE, appE, ixOwnE, popOwnE, lenOwnE, cE, varE, retS, retNS, asgS, asgOwnS, parS, parOwnS, appendS, dropS, nopS, forS, forGo, seqI, range1I, range2I, enumI, rangeL, callE, callIO, callL, consA, nilA, nameT, tupT, consT, nilT, ownIxT, andE, orE, notE, andT, orT, notT, chainE, ifE, slE, someO, noO, lstE, lstF, appL, methE, isStrD, raiseS, rsIO, rsOf, own0, ofOpt, R.bind_ok, R.bind_er, R.bindS_ok, R.bindS_er, Option.bind_some, Option.map_some, List.map_cons, List.map_nil, List.cons_append, List.nil_append, List.replicate_succ, List.replicate_zero, List.getElem?_cons_zero, List.getElem?_cons_succ, List.length_cons, List.length_nil, List.set_cons_zero, List.set_cons_succ, isOwn, if_true, reduceIte, Bool.false_eq_true, Nat.reduceAdd, atI_0, atI_1, ixN_0, ixN_1, gt_int, lt_int, le_int, ge_int, add_int, sub_int, eq_int, ne_int, eq_str, ne_str, decide_true, decide_false, Nat.zero_add, hA, i0, i1, i3, j1, e1, e2, e3, n1, t2, l2, f4, g1, g3, m1, E1T_ok, hn, hc, ha, Bool.not_true, Bool.not_false, Bool.false_and, Bool.true_and]
          · cases hb : isNameD b
            · simp only [seqS, ifS, boolE, binE, unE, appE, ixOwnE, popOwnE, lenOwnE, cE, varE, retS, retNS, asgS, asgOwnS, parS, parOwnS, appendS, dropS, nopS, forS, forGo, seqI, range1I, range2I, enumI, rangeL, callE, callIO, callL, consA, nilA, nameT, tupT, consT, nilT, ownIxT, andE, orE, notE, andT, orT, notT, chainE, ifE, slE, someO, noO, lstE, lstF, appL, methE, isStrD, raiseS, rsIO, rsOf, own0, ofOpt, R.bind_ok, R.bind_er, R.bindS_ok, R.bindS_er, Option.bind_some, Option.map_some, List.map_cons, List.map_nil, List.cons_append, List.nil_append, List.replicate_succ, List.replicate_zero, List.getElem?_cons_zero, List.getElem?_cons_succ, List.length_cons, List.length_nil, List.set_cons_zero, List.set_cons_succ, isOwn, if_true, reduceIte, Bool.false_eq_true, Nat.reduceAdd, atI_0, atI_1, ixN_0, ixN_1, gt_int, lt_int, le_int, ge_int, add_int, sub_int, eq_int, ne_int, eq_str, ne_str, decide_true, decide_false, Nat.zero_add, hA, i0, i1, i2, i3, j1, e1, e2, e3, n1, t2, l2, f4, g1, g2, g3, m1, m2, E1T_ok, hn, hc, ha, hb, Bool.not_true, Bool.not_false, Bool.false_and, Bool.true_and]
            · have ne := ne_names ha hb
              simp only [seqS, ifS, boolE, binE, unE, appE, ixOwnE, popOwnE, lenOwnE, cE, varE, retS, retNS, asgS, asgOwnS, parS, parOwnS, appendS, dropS, nopS, forS, forGo, seqI, range1I, range2I, enumI, rangeL, callE, callIO, callL, consA, nilA, nameT, tupT, consT, nilT, ownIxT, andE, orE, notE, andT, orT, notT, chainE, ifE, slE, someO, noO, lstE, lstF, appL, methE, isStrD, raiseS, rsIO, rsOf, own0, ofOpt, R.bind_ok, R.bind_er, R.bindS_ok, R.bindS_er, Option.bind_some, Option.map_some, List.map_cons, List.map_nil, List.cons_append, List.nil_append, List.replicate_succ, List.replicate_zero, List.getElem?_cons_zero, List.getElem?_cons_succ, List.length_cons, List.length_nil, List.set_cons_zero, List.set_cons_succ, isOwn, if_true, reduceIte, Bool.false_eq_true, Nat.reduceAdd, atI_0, atI_1, ixN_0, ixN_1, gt_int, lt_int, le_int, ge_int, add_int, sub_int, eq_int, ne_int, eq_str, ne_str, decide_true, decide_false, Nat.zero_add, hA, i0, i1, i2, i3, j1, e1, e2, e3, n1, t2, l2, f4, g1, g2, g3, m1, m2, ne, E1T_ok, hn, hc, ha, hb, Bool.not_true, Bool.not_false, Bool.true_and, Bool.and_true]
  · have hl' : neF (.int (r.length + 1 : Nat)) (.int 5) = some (.bl true) := by
      rw [ne_int, decide_eq_false (by omega)]
      rfl
    have em : mFix r = false := by
      match r, hl with
      | [], _ => rfl
      | [a], _ => rfl
      | [a, b], _ => rfl
      | [a, b, c], _ => rfl
      | [a, b, c, d], hl => exact absurd rfl hl
      | a :: b :: c :: d :: e :: r, _ => rfl
    rw [em]
    generalize (.tup (.str sFIX :: r) : D) = T at *
    simp only [seqS, ifS, boolE, binE, unE, appE, ixOwnE, popOwnE, lenOwnE, cE, varE, retS, retNS, asgS, asgOwnS, parS, parOwnS, appendS, dropS, nopS, forS, forGo, seqI, range1I, range2I, enumI, rangeL, callE, callIO, callL, consA, nilA, nameT, tupT, consT, nilT, ownIxT, andE, orE, notE, andT, orT, notT, chainE, ifE, slE, someO, noO, lstE, lstF, appL, methE, isStrD, raiseS, rsIO, rsOf, own0, ofOpt, R.bind_ok, R.bind_er, R.bindS_ok, R.bindS_er, Option.bind_some, Option.map_some, List.map_cons, List.map_nil, List.cons_append, List.nil_append, List.replicate_succ, List.replicate_zero, List.getElem?_cons_zero, List.getElem?_cons_succ, List.length_cons, List.length_nil, List.set_cons_zero, List.set_cons_succ, isOwn, if_true, reduceIte, Bool.false_eq_true, Nat.reduceAdd, atI_0, atI_1, ixN_0, ixN_1, gt_int, lt_int, le_int, ge_int, add_int, sub_int, eq_int, ne_int, eq_str, ne_str, decide_true, decide_false, Nat.zero_add, hA, i0, e1, e2, n1, t2, l1, hl', Bool.not_true]
/-- what is an event, plainly -/
def evForm : D → Bool
  | .tup (.str w :: r) => if w = sLEAVE then mLeave r else if w = sTOLD then mTold r else if w = sFIX then mFix r else false
  | _ => false
theorem ev_prog (d : D) (h : ∀ w r, d = .tup (.str w :: r) → ∀ e ∈ r, okStr e) : f_is_event_form [d] = .ok (.bl (evForm d)) := by
  by_cases hd : ∀ w r, d ≠ .tup (.str w :: r)
  · rw [form_head d hd]
    congr 2
    unfold evForm
    split
    · exact absurd rfl (hd _ _)
    · rfl
  · simp only [ne_eq, Classical.not_forall, Classical.not_not] at hd
    obtain ⟨w, r, rfl⟩ := hd
    have hr := h w r rfl
    show _ = Rs.ok (D.bl (if w = sLEAVE then mLeave r else if w = sTOLD then mTold r else if w = sFIX then mFix r else false))
    by_cases h1 : w = sLEAVE
    · rw [if_pos h1, h1]; exact form_leave r hr
    · rw [if_neg h1]
      by_cases h2 : w = sTOLD
      · rw [if_pos h2, h2]; exact form_told r hr
      · rw [if_neg h2]
        by_cases h3 : w = sFIX
        · rw [if_pos h3, h3]; exact form_fix r hr
        · rw [if_neg h3]; exact form_other w r h1 h2 h3
theorem ev_law (d : D) (h : ∀ w r, d = .tup (.str w :: r) → ∀ e ∈ r, okStr e) (hf : ∀ xs, d = .tup xs → ∃ k c, FDs xs k c ∧ k ≤ 60) : f_l_is_event [d] = .ok (.bl (evForm d)) := by
  by_cases hd : ∀ w r, d ≠ .tup (.str w :: r)
  · rw [l_ev_head d hd hf]
    congr 2
    unfold evForm
    split
    · exact absurd rfl (hd _ _)
    · rfl
  · simp only [ne_eq, Classical.not_forall, Classical.not_not] at hd
    obtain ⟨w, r, rfl⟩ := hd
    have hr := h w r rfl
    obtain ⟨k, c, f1, f2⟩ := hf _ rfl
    show _ = Rs.ok (D.bl (if w = sLEAVE then mLeave r else if w = sTOLD then mTold r else if w = sFIX then mFix r else false))
    by_cases h1 : w = sLEAVE
    · subst h1; rw [if_pos rfl]; exact l_ev_leave r hr f1 f2
    · rw [if_neg h1]
      by_cases h2 : w = sTOLD
      · subst h2; rw [if_pos rfl]; exact l_ev_told r hr f1 f2
      · rw [if_neg h2]
        by_cases h3 : w = sFIX
        · subst h3; rw [if_pos rfl]; exact l_ev_fix r hr f1 f2
        · rw [if_neg h3]; exact l_ev_other w r h1 h2 h3 f1 f2
end K12
end L2
set_option linter.all false
set_option maxRecDepth 100000
set_option maxHeartbeats 4000000
namespace L2
namespace K12
open PySem PySem.Spec PL TL
open _root_.SX (S S_len S_cat S_tl S_inj split_S join_S num_S int_S)
/-! verbs, rounds, the event of a text's parts -/
def verb : Nat → List Nat
  | 0 => c' "yields"
  | 1 => c' "draws"
  | _ => c' "beats"
def isVerb (p : List Nat) : Bool := decide (p = verb 0) || (decide (p = verb 1) || decide (p = verb 2))
theorem in_verbs (p : List Nat) : inF (.str (S p)) c_VERBS = some (.bl (isVerb p)) := by
  show some (D.bl ((S (verb 0) == S p) || ((S (verb 1) == S p) || ((S (verb 2) == S p) || false)))) = _
  rw [S_beq, S_beq, S_beq, Bool.or_false]
  unfold isVerb
  rw [show decide (verb 0 = p) = decide (p = verb 0) from decide_eq_decide.mpr eq_comm, show decide (verb 1 = p) = decide (p = verb 1) from decide_eq_decide.mpr eq_comm, show decide (verb 2 = p) = decide (p = verb 2) from decide_eq_decide.mpr eq_comm]
theorem notin_bdy (p : List Nat) : notInF (.str (S p)) (.tup [.str ("beats" : Str), .str ("draws" : Str), .str ("yields" : Str)]) = some (.bl (!isVerb p)) := by
  show some (D.bl (!((S (verb 2) == S p) || ((S (verb 1) == S p) || ((S (verb 0) == S p) || false))))) = _
  rw [S_beq, S_beq, S_beq, Bool.or_false]
  unfold isVerb
  rw [show decide (verb 0 = p) = decide (p = verb 0) from decide_eq_decide.mpr eq_comm, show decide (verb 1 = p) = decide (p = verb 1) from decide_eq_decide.mpr eq_comm, show decide (verb 2 = p) = decide (p = verb 2) from decide_eq_decide.mpr eq_comm]
  cases decide (p = verb 0) <;> cases decide (p = verb 1) <;> cases decide (p = verb 2) <;> rfl
theorem verb_of {p : List Nat} (h : isVerb p = true) : ∃ t, t ≤ 2 ∧ p = verb t := by
  unfold isVerb at h
  rcases Bool.or_eq_true_iff.mp h with h | h
  · exact ⟨0, by decide, of_decide_eq_true h⟩
  · rcases Bool.or_eq_true_iff.mp h with h | h
    · exact ⟨1, by decide, of_decide_eq_true h⟩
    · exact ⟨2, by decide, of_decide_eq_true h⟩
theorem index_verb {t : Nat} (h : t ≤ 2) : indexF ss_VERBS [.str (S (verb t))] = some (.int t) := by
  have : t = 0 ∨ t = 1 ∨ t = 2 := by omega
  rcases this with e | e | e <;> subst e <;> rfl
theorem dict_verb {t : Nat} (h : t ≤ 2) : dictF [("beats", 2), ("draws", 1), ("yields", 0)] (.str (S (verb t))) = some (.int t) := by
  have : t = 0 ∨ t = 1 ∨ t = 2 := by omega
  rcases this with e | e | e <;> subst e <;> rfl
theorem isVerb_verb {t : Nat} (h : t ≤ 2) : isVerb (verb t) = true := by
  have : t = 0 ∨ t = 1 ∨ t = 2 := by omega
  rcases this with e | e | e <;> subst e <;> decide
/-- the number of a round's text -/
theorem numL_of {p : List Nat} (h0 : p ≠ []) (hd : NumText.AllDigits p) (hz : p.take 1 = [48] → p = [48]) : numL (NumText.digitsVal p) = p := by
  have hx : (p.length = 1 ∨ ∃ c r, p = c :: r ∧ 49 ≤ c) := by
    cases p with
    | nil => exact absurd rfl h0
    | cons c r =>
      have hc := hd c List.mem_cons_self
      by_cases h48 : c = 48
      · have := hz (by rw [h48]; rfl)
        injection this with _ hr
        left; rw [hr]; rfl
      · exact .inr ⟨c, r, rfl, by omega⟩
  have hl : p.length = (p.length - 1) + 1 := by
    have := List.length_pos_iff.mpr h0
    omega
  have z := NumText.toDigits_digitsVal (p.length - 1) p hl hd (by
    rcases hx with h | h
    · left; omega
    · exact .inr h)
  show (Nat.toDigits 10 (NumText.digitsVal p)).map Char.toNat = p
  rw [z, List.map_map]
  have : ∀ l : List Nat, (∀ c ∈ l, 48 ≤ c ∧ c ≤ 57) → l.map (Char.toNat ∘ Char.ofNat) = l := fun l => by
    induction l with
    | nil => intro _; rfl
    | cons c l ih =>
      intro h
      rw [List.map_cons, ih fun d hd => h d (List.mem_cons_of_mem _ hd)]
      have hc := h c List.mem_cons_self
      have e : ∀ c : Nat, c < 58 → (Char.toNat ∘ Char.ofNat) c = c := by decide
      rw [e c (by omega)]
  exact this p hd
theorem num99 (p : List Nat) : within (numD p) 0 99 = true ↔ ∃ n : Nat, n ≤ 99 ∧ p = numL n := by
  constructor
  · intro h
    obtain ⟨n, hn, hl⟩ := within_num (k := 99) h
    unfold numD at hn
    by_cases hk : numOk p = true
    · rw [if_pos hk] at hn
      injection hn with hv
      unfold numOk at hk
      obtain ⟨k1, k2⟩ := Bool.and_eq_true_iff.mp hk
      have k1' : (!(core p).isEmpty && (decide ((core p).length ≤ 13) && (core p).all dig)) = true := k1
      simp only [Bool.and_eq_true, Bool.not_eq_true', decide_eq_true_eq] at k1'
      have hne : core p ≠ [] := fun z => by rw [z] at k1'; cases k1'.1
      have hd : NumText.AllDigits (core p) := fun c hc => by
        obtain ⟨q1, q2⟩ := Bool.and_eq_true_iff.mp (List.all_eq_true.mp k1'.2.2 c hc)
        exact ⟨of_decide_eq_true q1, of_decide_eq_true q2⟩
      have kl : ¬ ((core p).take 1 = [48] ∧ p ≠ [48]) := fun ⟨z1, z2⟩ => by
        unfold lead at k2
        rw [decide_eq_true z1, decide_eq_false z2] at k2
        cases k2
      refine ⟨n, hl, ?_⟩
      unfold numV at hv
      cases hdash : dashed p with
      | false =>
        have ec : core p = p := by unfold core; rw [hdash]; rfl
        rw [hdash, ec] at hv
        rw [ec] at hne hd kl
        have := numL_of hne hd fun z => Classical.byContradiction fun y => kl ⟨z, y⟩
        have e : NumText.digitsVal p = n := by
          have : ((NumText.digitsVal p : Nat) : Int) = n := hv
          omega
        rw [← e, this]
      | true =>
        exfalso
        rw [hdash] at hv
        have hv' : -((NumText.digitsVal (core p) : Nat) : Int) = n := hv
        have h0 : NumText.digitsVal (core p) = 0 := by omega
        cases hcp : core p with
        | nil => exact hne hcp
        | cons c r =>
          rw [hcp] at h0 hd kl
          have hc := hd c List.mem_cons_self
          by_cases h48 : c = 48
          · refine kl ⟨by rw [h48]; rfl, fun z => ?_⟩
            rw [z] at hdash
            cases hdash
          · have := NumText.digitsVal_pos (c := c) (cs := r) (by omega)
            omega
    · rw [if_neg hk] at hn
      cases hn
  · rintro ⟨n, hn, rfl⟩
    rw [numD_numL hn]
    show (decide ((0 : Int) ≤ n) && decide ((n : Int) ≤ 99)) = true
    rw [decide_eq_true (by omega), decide_eq_true (by omega)]
    rfl
def LEAVES : List Nat := c' "leaves"
def FIX : List Nat := c' "fix"
/-- is a round's text -/
def isRnd (p : List Nat) : Bool := within (numD p) 0 99
/-- the event of a text's parts -/
def evOf : List (List Nat) → D
  | [p0, p1] => if (decide (p1 = LEAVES) && isName p0) = true then .tup [.str sLEAVE, .str (S p0)] else .non
  | [p0, p1, p2] => if (isVerb p1 && (isName p0 && (isName p2 && !decide (p0 = p2)))) = true then .tup [.str sTOLD, .str (S p0), .str (S p2), (indexF ss_VERBS [.str (S p1)]).getD .non] else .non
  | [p0, p1, p2, p3, p4] => if (decide (p0 = FIX) && (isRnd p1 && (isVerb p3 && (isName p2 && (isName p4 && !decide (p2 = p4)))))) = true then .tup [.str sFIX, numD p1, .str (S p2), .str (S p4), (indexF ss_VERBS [.str (S p3)]).getD .non] else .non
  | _ => .non
end K12
end L2
set_option linter.all false
set_option maxRecDepth 100000
set_option maxHeartbeats 4000000
namespace L2
namespace K12
open PySem PySem.Spec PL TL
open _root_.SX (S S_len S_cat S_tl S_inj split_S join_S num_S int_S)
/-! the event of a text: the program's -/
def sd (p : List Nat) : D := .str (S p)
theorem eqS' (p q : List Nat) : eqF (.str (S p)) (.str (S q)) = some (.bl (decide (p = q))) := by
  show some (D.bl (decide (S p = S q))) = _
  rw [S_eq]
theorem neS' (p q : List Nat) : neF (.str (S p)) (.str (S q)) = some (.bl (!decide (p = q))) := by
  show some (D.bl (!decide (S p = S q))) = _
  rw [S_eq]
theorem in35 (n : Nat) : inF (.int n) (.tup [.int 3, .int 5]) = some (.bl (decide (n = 3) || decide (n = 5))) := by
  show some (D.bl (decide ((3 : Int) = n) || (decide ((5 : Int) = n) || false))) = _
  rw [Bool.or_false, show decide ((3 : Int) = n) = decide (n = 3) from decide_eq_decide.mpr (by omega), show decide ((5 : Int) = n) = decide (n = 5) from decide_eq_decide.mpr (by omega)]
theorem okS' {p : List Nat} (hl : p.length ≤ 1000) (ha : asc p = true) : okStr (.str (S p)) := fun x h => by
  cases h
  exact ⟨by rw [S_len]; exact hl, ha⟩
theorem okI {i : Int} : okStr (.int i) := fun x h => by cases h
theorem okN : okStr .non := fun x h => by cases h
theorem okNum (p : List Nat) : okStr (numD p) := by
  unfold numD
  split
  · exact okI
  · exact okN
structure PartsOk (ps : List (List Nat)) : Prop where
  len : ∀ p ∈ ps, p.length ≤ 600
  as : ∀ p ∈ ps, asc p = true
  most : ps.length ≤ 1000
theorem within_t {t : Nat} (h : t ≤ 2) : within (.int t) 0 2 = true := by
  show (decide ((0 : Int) ≤ t) && decide ((t : Int) ≤ 2)) = true
  rw [decide_eq_true (by omega), decide_eq_true (by omega)]
  rfl
theorem two_S (p q : List Nat) : two (.str (S p)) (.str (S q)) = (isName p && (isName q && !decide (p = q))) := by
  show (isName p && (isName q && !decide (S p = S q))) = _
  rw [S_eq]
theorem evf_leave (r : List D) : evForm (.tup (.str sLEAVE :: r)) = mLeave r := by
  unfold evForm
  exact if_pos rfl
theorem evf_told (r : List D) : evForm (.tup (.str sTOLD :: r)) = mTold r := by
  unfold evForm
  exact (if_neg w_lt).trans (if_pos rfl)
theorem evf_fix (r : List D) : evForm (.tup (.str sFIX :: r)) = mFix r := by
  unfold evForm
  exact (if_neg w_lf).trans ((if_neg w_tf).trans (if_pos rfl))
theorem x_event_by (ps : List (List Nat)) (ho : PartsOk ps) : f_event_by [.lst (ps.map sd)] = .ok (evOf ps) := by
  have lL : ∀ ps : List (List Nat), lenF [.lst (ps.map sd)] = some (.int (ps.length : Nat)) := fun ps => by
    show some (D.int (ps.map sd).length) = _
    rw [List.length_map]
  have c1 : c_LEAVES = .str (S LEAVES) := rfl
  have c2 : c_LEAVE = .str sLEAVE := rfl
  have c3 : c_TOLD = .str sTOLD := rfl
  have c4 : c_FIX = .str sFIX := rfl
  have c4' : c_FIX = .str (S FIX) := rfl
  have t2 : ∀ x y : D, tupF [x, y] = some (.tup [x, y]) := fun _ _ => rfl
  have t4 : ∀ x y z t : D, tupF [x, y, z, t] = some (.tup [x, y, z, t]) := fun _ _ _ _ => rfl
  have nn : isNotF .non .non = some (.bl false) := rfl
  have nt : ∀ xs : List D, isNotF (.tup xs) .non = some (.bl true) := fun _ => rfl
  have g1 : negF (.int 1) = some (.int (-1)) := rfl
  have g2 : negF (.int 2) = some (.int (-2)) := rfl
  have g3 : negF (.int 3) = some (.int (-3)) := rfl
  -- no 2, 3, 5 parts
  have few : ∀ ps : List (List Nat), ps.length ≠ 2 → ps.length ≠ 3 → ps.length ≠ 5 → f_event_by [.lst (ps.map sd)] = .ok .non := fun ps h2 h3 h5 => by
    have l1 := lL ps
    have e2 : ¬ ((ps.length : Int) = 2) := by omega
    have i35 := in35 ps.length
    rw [decide_eq_false h3, decide_eq_false h5] at i35
    unfold f_event_by g_event_by runP
    generalize (ps.map sd) = L at *
    simp only [seqS, ifS, boolE, binE, unE, appE, ixOwnE, popOwnE, lenOwnE, cE, varE, retS, retNS, asgS, asgOwnS, parS, parOwnS, appendS, dropS, nopS, forS, forGo, seqI, range1I, range2I, enumI, rangeL, callE, callIO, callL, consA, nilA, nameT, tupT, consT, nilT, ownIxT, andE, orE, notE, andT, orT, notT, chainE, ifE, slE, someO, noO, lstE, lstF, appL, methE, isStrD, raiseS, rsIO, rsOf, own0, ofOpt, R.bind_ok, R.bind_er, R.bindS_ok, R.bindS_er, Option.bind_some, Option.map_some, List.map_cons, List.map_nil, List.cons_append, List.nil_append, List.replicate_succ, List.replicate_zero, List.getElem?_cons_zero, List.getElem?_cons_succ, List.length_cons, List.length_nil, List.set_cons_zero, List.set_cons_succ, isOwn, if_true, reduceIte, Bool.false_eq_true, Nat.reduceAdd, atI_0, atI_1, ixN_0, ixN_1, gt_int, lt_int, le_int, ge_int, add_int, sub_int, eq_int, ne_int, eq_str, ne_str, decide_true, decide_false, Nat.zero_add, l1, e2, i35, t2, nn, Bool.or_self]
  match ps, ho with
  | [], _ => exact few [] (by simp) (by simp) (by simp)
  | [_], _ => exact few _ (by simp) (by simp) (by simp)
  | [p0, p1], ho =>
    have i0 : ixF (.lst ([p0, p1].map sd)) (.int 0) = some (.str (S p0)) := rfl
    have i1 : ixF (.lst ([p0, p1].map sd)) (.int 1) = some (.str (S p1)) := rfl
    have l1 : lenF [.lst ([p0, p1].map sd)] = some (.int 2) := rfl
    have q0 := ho.len p0 (by simp)
    have ef := ev_prog (.tup [.str sLEAVE, .str (S p0)]) fun w r h e he => by
      injection h with h
      injection h with _ h
      subst h
      rw [List.mem_singleton.mp he]
      exact okS' (by omega) (ho.as p0 (by simp))
    have ev : evForm (.tup [.str sLEAVE, .str (S p0)]) = isName p0 := by
      rw [evf_leave]
      rfl
    rw [ev] at ef
    have i35 : inF (.int 2) (.tup [.int 3, .int 5]) = some (.bl false) := in35 2
    unfold f_event_by g_event_by runP evOf
    generalize ([p0, p1].map sd) = L at *
    have e1 := eqS' p1 LEAVES
    cases h1 : decide (p1 = LEAVES)
    · simp only [seqS, ifS, boolE, binE, unE, appE, ixOwnE, popOwnE, lenOwnE, cE, varE, retS, retNS, asgS, asgOwnS, parS, parOwnS, appendS, dropS, nopS, forS, forGo, seqI, range1I, range2I, enumI, rangeL, callE, callIO, callL, consA, nilA, nameT, tupT, consT, nilT, ownIxT, andE, orE, notE, andT, orT, notT, chainE, ifE, slE, someO, noO, lstE, lstF, appL, methE, isStrD, raiseS, rsIO, rsOf, own0, ofOpt, R.bind_ok, R.bind_er, R.bindS_ok, R.bindS_er, Option.bind_some, Option.map_some, List.map_cons, List.map_nil, List.cons_append, List.nil_append, List.replicate_succ, List.replicate_zero, List.getElem?_cons_zero, List.getElem?_cons_succ, List.length_cons, List.length_nil, List.set_cons_zero, List.set_cons_succ, isOwn, if_true, reduceIte, Bool.false_eq_true, Nat.reduceAdd, atI_0, atI_1, ixN_0, ixN_1, gt_int, lt_int, le_int, ge_int, add_int, sub_int, eq_int, ne_int, eq_str, ne_str, decide_true, decide_false, Nat.zero_add, l1, i0, i1, c1, e1, h1, t2, nn, i35, eq_self, Bool.false_and]
    · cases h0 : isName p0
      · simp only [seqS, ifS, boolE, binE, unE, appE, ixOwnE, popOwnE, lenOwnE, cE, varE, retS, retNS, asgS, asgOwnS, parS, parOwnS, appendS, dropS, nopS, forS, forGo, seqI, range1I, range2I, enumI, rangeL, callE, callIO, callL, consA, nilA, nameT, tupT, consT, nilT, ownIxT, andE, orE, notE, andT, orT, notT, chainE, ifE, slE, someO, noO, lstE, lstF, appL, methE, isStrD, raiseS, rsIO, rsOf, own0, ofOpt, R.bind_ok, R.bind_er, R.bindS_ok, R.bindS_er, Option.bind_some, Option.map_some, List.map_cons, List.map_nil, List.cons_append, List.nil_append, List.replicate_succ, List.replicate_zero, List.getElem?_cons_zero, List.getElem?_cons_succ, List.length_cons, List.length_nil, List.set_cons_zero, List.set_cons_succ, isOwn, if_true, reduceIte, Bool.false_eq_true, Nat.reduceAdd, atI_0, atI_1, ixN_0, ixN_1, gt_int, lt_int, le_int, ge_int, add_int, sub_int, eq_int, ne_int, eq_str, ne_str, decide_true, decide_false, Nat.zero_add, l1, i0, i1, c1, c2, e1, h1, t2, nt, ef, h0, eq_self, Bool.true_and]
      · simp only [seqS, ifS, boolE, binE, unE, appE, ixOwnE, popOwnE, lenOwnE, cE, varE, retS, retNS, asgS, asgOwnS, parS, parOwnS, appendS, dropS, nopS, forS, forGo, seqI, range1I, range2I, enumI, rangeL, callE, callIO, callL, consA, nilA, nameT, tupT, consT, nilT, ownIxT, andE, orE, notE, andT, orT, notT, chainE, ifE, slE, someO, noO, lstE, lstF, appL, methE, isStrD, raiseS, rsIO, rsOf, own0, ofOpt, R.bind_ok, R.bind_er, R.bindS_ok, R.bindS_er, Option.bind_some, Option.map_some, List.map_cons, List.map_nil, List.cons_append, List.nil_append, List.replicate_succ, List.replicate_zero, List.getElem?_cons_zero, List.getElem?_cons_succ, List.length_cons, List.length_nil, List.set_cons_zero, List.set_cons_succ, isOwn, if_true, reduceIte, Bool.false_eq_true, Nat.reduceAdd, atI_0, atI_1, ixN_0, ixN_1, gt_int, lt_int, le_int, ge_int, add_int, sub_int, eq_int, ne_int, eq_str, ne_str, decide_true, decide_false, Nat.zero_add, l1, i0, i1, c1, c2, e1, h1, t2, nt, ef, h0, eq_self, Bool.true_and]
  | [p0, p1, p2], ho =>
    have i1 : ixF (.lst ([p0, p1, p2].map sd)) (.int (-1)) = some (.str (S p2)) := rfl
    have i2 : ixF (.lst ([p0, p1, p2].map sd)) (.int (-2)) = some (.str (S p1)) := rfl
    have i3 : ixF (.lst ([p0, p1, p2].map sd)) (.int (-3)) = some (.str (S p0)) := rfl
    have l1 : lenF [.lst ([p0, p1, p2].map sd)] = some (.int 3) := rfl
    have q0 := ho.len p0 (by simp)
    have q2 := ho.len p2 (by simp)
    have i35 : inF (.int 3) (.tup [.int 3, .int 5]) = some (.bl true) := in35 3
    have iv := in_verbs p1
    have n2 : ¬ ((3 : Int) = 2) := by decide
    have n5 : ¬ ((3 : Int) = 5) := by decide
    unfold f_event_by g_event_by runP evOf
    generalize ([p0, p1, p2].map sd) = L at *
    cases hv : isVerb p1
    · simp only [seqS, ifS, boolE, binE, unE, appE, ixOwnE, popOwnE, lenOwnE, cE, varE, retS, retNS, asgS, asgOwnS, parS, parOwnS, appendS, dropS, nopS, forS, forGo, seqI, range1I, range2I, enumI, rangeL, callE, callIO, callL, consA, nilA, nameT, tupT, consT, nilT, ownIxT, andE, orE, notE, andT, orT, notT, chainE, ifE, slE, someO, noO, lstE, lstF, appL, methE, isStrD, raiseS, rsIO, rsOf, own0, ofOpt, R.bind_ok, R.bind_er, R.bindS_ok, R.bindS_er, Option.bind_some, Option.map_some, List.map_cons, List.map_nil, List.cons_append, List.nil_append, List.replicate_succ, List.replicate_zero, List.getElem?_cons_zero, List.getElem?_cons_succ, List.length_cons, List.length_nil, List.set_cons_zero, List.set_cons_succ, isOwn, if_true, reduceIte, Bool.false_eq_true, Nat.reduceAdd, atI_0, atI_1, ixN_0, ixN_1, gt_int, lt_int, le_int, ge_int, add_int, sub_int, eq_int, ne_int, eq_str, ne_str, decide_true, decide_false, Nat.zero_add, l1, i2, iv, hv, t2, nn, i35, g2, n2, Bool.false_and]
    · obtain ⟨t, ht, rfl⟩ := verb_of hv
      have ix := index_verb ht
      have ef := ev_prog (.tup [.str sTOLD, .str (S p0), .str (S p2), .int t]) fun w r h e he => by
        injection h with h
        injection h with _ h
        subst h
        simp only [List.mem_cons, List.not_mem_nil, or_false] at he
        rcases he with rfl | rfl | rfl
        · exact okS' (by omega) (ho.as p0 (by simp))
        · exact okS' (by omega) (ho.as p2 (by simp))
        · exact okI
      have ev : evForm (.tup [.str sTOLD, .str (S p0), .str (S p2), .int t]) = (isName p0 && (isName p2 && !decide (p0 = p2))) := by
        rw [evf_told]
        show (two (.str (S p0)) (.str (S p2)) && within (.int t) 0 2) = _
        rw [two_S, within_t ht, Bool.and_true]
      rw [ev] at ef
      cases hx : (isName p0 && (isName p2 && !decide (p0 = p2)))
      · simp only [seqS, ifS, boolE, binE, unE, appE, ixOwnE, popOwnE, lenOwnE, cE, varE, retS, retNS, asgS, asgOwnS, parS, parOwnS, appendS, dropS, nopS, forS, forGo, seqI, range1I, range2I, enumI, rangeL, callE, callIO, callL, consA, nilA, nameT, tupT, consT, nilT, ownIxT, andE, orE, notE, andT, orT, notT, chainE, ifE, slE, someO, noO, lstE, lstF, appL, methE, isStrD, raiseS, rsIO, rsOf, own0, ofOpt, R.bind_ok, R.bind_er, R.bindS_ok, R.bindS_er, Option.bind_some, Option.map_some, List.map_cons, List.map_nil, List.cons_append, List.nil_append, List.replicate_succ, List.replicate_zero, List.getElem?_cons_zero, List.getElem?_cons_succ, List.length_cons, List.length_nil, List.set_cons_zero, List.set_cons_succ, isOwn, if_true, reduceIte, Bool.false_eq_true, Nat.reduceAdd, atI_0, atI_1, ixN_0, ixN_1, gt_int, lt_int, le_int, ge_int, add_int, sub_int, eq_int, ne_int, eq_str, ne_str, decide_true, decide_false, Nat.zero_add, l1, i1, i2, i3, iv, hv, t2, t4, nt, i35, g1, g2, g3, n2, n5, c3, ix, ef, hx, Bool.true_and]
      · simp only [seqS, ifS, boolE, binE, unE, appE, ixOwnE, popOwnE, lenOwnE, cE, varE, retS, retNS, asgS, asgOwnS, parS, parOwnS, appendS, dropS, nopS, forS, forGo, seqI, range1I, range2I, enumI, rangeL, callE, callIO, callL, consA, nilA, nameT, tupT, consT, nilT, ownIxT, andE, orE, notE, andT, orT, notT, chainE, ifE, slE, someO, noO, lstE, lstF, appL, methE, isStrD, raiseS, rsIO, rsOf, own0, ofOpt, R.bind_ok, R.bind_er, R.bindS_ok, R.bindS_er, Option.bind_some, Option.map_some, List.map_cons, List.map_nil, List.cons_append, List.nil_append, List.replicate_succ, List.replicate_zero, List.getElem?_cons_zero, List.getElem?_cons_succ, List.length_cons, List.length_nil, List.set_cons_zero, List.set_cons_succ, isOwn, if_true, reduceIte, Bool.false_eq_true, Nat.reduceAdd, atI_0, atI_1, ixN_0, ixN_1, gt_int, lt_int, le_int, ge_int, add_int, sub_int, eq_int, ne_int, eq_str, ne_str, decide_true, decide_false, Nat.zero_add, l1, i1, i2, i3, iv, hv, t2, t4, nt, i35, g1, g2, g3, n2, n5, c3, ix, ef, hx, Bool.true_and, Option.getD_some]
  | [_, _, _, _], _ => exact few _ (by simp) (by simp) (by simp)
  | [p0, p1, p2, p3, p4], ho =>
    have j0 : ixF (.lst ([p0, p1, p2, p3, p4].map sd)) (.int 0) = some (.str (S p0)) := rfl
    have j1 : ixF (.lst ([p0, p1, p2, p3, p4].map sd)) (.int 1) = some (.str (S p1)) := rfl
    have i1 : ixF (.lst ([p0, p1, p2, p3, p4].map sd)) (.int (-1)) = some (.str (S p4)) := rfl
    have i2 : ixF (.lst ([p0, p1, p2, p3, p4].map sd)) (.int (-2)) = some (.str (S p3)) := rfl
    have i3 : ixF (.lst ([p0, p1, p2, p3, p4].map sd)) (.int (-3)) = some (.str (S p2)) := rfl
    have l1 : lenF [.lst ([p0, p1, p2, p3, p4].map sd)] = some (.int 5) := rfl
    have q1 := ho.len p1 (by simp)
    have q2 := ho.len p2 (by simp)
    have q4 := ho.len p4 (by simp)
    have i35 : inF (.int 5) (.tup [.int 3, .int 5]) = some (.bl true) := in35 5
    have iv := in_verbs p3
    have n2 : ¬ ((5 : Int) = 2) := by decide
    have nm : f_number_in [.str (S p1)] = .ok (numD p1) := x_number_in p1 (by omega)
    have e0 : decide (S p0 = sFIX) = decide (p0 = FIX) := S_eq p0 FIX
    unfold f_event_by g_event_by runP evOf
    generalize ([p0, p1, p2, p3, p4].map sd) = L at *
    cases hv : isVerb p3
    · simp only [seqS, ifS, boolE, binE, unE, appE, ixOwnE, popOwnE, lenOwnE, cE, varE, retS, retNS, asgS, asgOwnS, parS, parOwnS, appendS, dropS, nopS, forS, forGo, seqI, range1I, range2I, enumI, rangeL, callE, callIO, callL, consA, nilA, nameT, tupT, consT, nilT, ownIxT, andE, orE, notE, andT, orT, notT, chainE, ifE, slE, someO, noO, lstE, lstF, appL, methE, isStrD, raiseS, rsIO, rsOf, own0, ofOpt, R.bind_ok, R.bind_er, R.bindS_ok, R.bindS_er, Option.bind_some, Option.map_some, List.map_cons, List.map_nil, List.cons_append, List.nil_append, List.replicate_succ, List.replicate_zero, List.getElem?_cons_zero, List.getElem?_cons_succ, List.length_cons, List.length_nil, List.set_cons_zero, List.set_cons_succ, isOwn, if_true, reduceIte, Bool.false_eq_true, Nat.reduceAdd, atI_0, atI_1, ixN_0, ixN_1, gt_int, lt_int, le_int, ge_int, add_int, sub_int, eq_int, ne_int, eq_str, ne_str, decide_true, decide_false, Nat.zero_add, l1, i2, iv, hv, t2, nn, i35, g2, n2, Bool.false_and, Bool.and_false]
    · obtain ⟨t, ht, rfl⟩ := verb_of hv
      have ix := index_verb ht
      cases h0 : decide (p0 = FIX)
      · simp only [seqS, ifS, boolE, binE, unE, appE, ixOwnE, popOwnE, lenOwnE, cE, varE, retS, retNS, asgS, asgOwnS, parS, parOwnS, appendS, dropS, nopS, forS, forGo, seqI, range1I, range2I, enumI, rangeL, callE, callIO, callL, consA, nilA, nameT, tupT, consT, nilT, ownIxT, andE, orE, notE, andT, orT, notT, chainE, ifE, slE, someO, noO, lstE, lstF, appL, methE, isStrD, raiseS, rsIO, rsOf, own0, ofOpt, R.bind_ok, R.bind_er, R.bindS_ok, R.bindS_er, Option.bind_some, Option.map_some, List.map_cons, List.map_nil, List.cons_append, List.nil_append, List.replicate_succ, List.replicate_zero, List.getElem?_cons_zero, List.getElem?_cons_succ, List.length_cons, List.length_nil, List.set_cons_zero, List.set_cons_succ, isOwn, if_true, reduceIte, Bool.false_eq_true, Nat.reduceAdd, atI_0, atI_1, ixN_0, ixN_1, gt_int, lt_int, le_int, ge_int, add_int, sub_int, eq_int, ne_int, eq_str, ne_str, decide_true, decide_false, Nat.zero_add, l1, i1, i2, i3, j0, iv, hv, t2, t4, nn, i35, g1, g2, g3, n2, c3, c4, ix, e0, h0, eq_self, Bool.false_and]
      · have ef := ev_prog (.tup [.str sFIX, numD p1, .str (S p2), .str (S p4), .int t]) fun w r h e he => by
          injection h with h
          injection h with _ h
          subst h
          simp only [List.mem_cons, List.not_mem_nil, or_false] at he
          rcases he with rfl | rfl | rfl | rfl
          · exact okNum p1
          · exact okS' (by omega) (ho.as p2 (by simp))
          · exact okS' (by omega) (ho.as p4 (by simp))
          · exact okI
        have ev : evForm (.tup [.str sFIX, numD p1, .str (S p2), .str (S p4), .int t]) = (isRnd p1 && (isName p2 && (isName p4 && !decide (p2 = p4)))) := by
          rw [evf_fix]
          show (within (numD p1) 0 99 && (two (.str (S p2)) (.str (S p4)) && within (.int t) 0 2)) = _
          rw [two_S, within_t ht, Bool.and_true]
          rfl
        rw [ev] at ef
        have sf : ∀ a b c : D, slF (.tup [.str sTOLD, a, b, c]) (some 1) none = some (.tup [a, b, c]) := fun _ _ _ => rfl
        have ad : ∀ a b c d e : D, addF (.tup [a, b]) (.tup [c, d, e]) = some (.tup [a, b, c, d, e]) := fun _ _ _ _ _ => add_tup (show 2 + 3 ≤ 100 by decide)
        cases hx : (isRnd p1 && (isName p2 && (isName p4 && !decide (p2 = p4))))
        · simp only [seqS, ifS, boolE, binE, unE, appE, ixOwnE, popOwnE, lenOwnE, cE, varE, retS, retNS, asgS, asgOwnS, parS, parOwnS, appendS, dropS, nopS, forS, forGo, seqI, range1I, range2I, enumI, rangeL, callE, callIO, callL, consA, nilA, nameT, tupT, consT, nilT, ownIxT, andE, orE, notE, andT, orT, notT, chainE, ifE, slE, someO, noO, lstE, lstF, appL, methE, isStrD, raiseS, rsIO, rsOf, own0, ofOpt, R.bind_ok, R.bind_er, R.bindS_ok, R.bindS_er, Option.bind_some, Option.map_some, List.map_cons, List.map_nil, List.cons_append, List.nil_append, List.replicate_succ, List.replicate_zero, List.getElem?_cons_zero, List.getElem?_cons_succ, List.length_cons, List.length_nil, List.set_cons_zero, List.set_cons_succ, isOwn, if_true, reduceIte, Bool.false_eq_true, Nat.reduceAdd, atI_0, atI_1, ixN_0, ixN_1, gt_int, lt_int, le_int, ge_int, add_int, sub_int, eq_int, ne_int, eq_str, ne_str, decide_true, decide_false, Nat.zero_add, l1, i1, i2, i3, j0, j1, iv, hv, t2, t4, nt, i35, g1, g2, g3, n2, c3, c4, ix, e0, h0, nm, sf, ad, ef, hx, eq_self, Bool.true_and]
        · simp only [seqS, ifS, boolE, binE, unE, appE, ixOwnE, popOwnE, lenOwnE, cE, varE, retS, retNS, asgS, asgOwnS, parS, parOwnS, appendS, dropS, nopS, forS, forGo, seqI, range1I, range2I, enumI, rangeL, callE, callIO, callL, consA, nilA, nameT, tupT, consT, nilT, ownIxT, andE, orE, notE, andT, orT, notT, chainE, ifE, slE, someO, noO, lstE, lstF, appL, methE, isStrD, raiseS, rsIO, rsOf, own0, ofOpt, R.bind_ok, R.bind_er, R.bindS_ok, R.bindS_er, Option.bind_some, Option.map_some, List.map_cons, List.map_nil, List.cons_append, List.nil_append, List.replicate_succ, List.replicate_zero, List.getElem?_cons_zero, List.getElem?_cons_succ, List.length_cons, List.length_nil, List.set_cons_zero, List.set_cons_succ, isOwn, if_true, reduceIte, Bool.false_eq_true, Nat.reduceAdd, atI_0, atI_1, ixN_0, ixN_1, gt_int, lt_int, le_int, ge_int, add_int, sub_int, eq_int, ne_int, eq_str, ne_str, decide_true, decide_false, Nat.zero_add, l1, i1, i2, i3, j0, j1, iv, hv, t2, t4, nt, i35, g1, g2, g3, n2, c3, c4, ix, e0, h0, nm, sf, ad, ef, hx, eq_self, Bool.true_and, Option.getD_some]
  | p0 :: p1 :: p2 :: p3 :: p4 :: p5 :: r, _ => exact few _ (by simp) (by simp) (by simp)
end K12
end L2
set_option linter.all false
set_option maxRecDepth 100000
set_option maxHeartbeats 4000000
namespace L2
namespace K12
open PySem PySem.Spec PL TL
open _root_.SX (S S_len S_cat S_tl S_inj split_S join_S num_S int_S)
/-! the event of a text: the law's -/
def strs100 : List D := (List.range 100).map fun n => .str (S (numL n))
theorem notin100 (p : List Nat) : notInF (.str (S p)) (.lst strs100) = some (.bl (!isRnd p)) := by
  have hf : strs100.all flatD = true := by
    unfold strs100
    rw [List.all_map]
    exact List.all_eq_true.mpr fun _ _ => rfl
  have ha : (strs100.any fun z => eqFl z (.str (S p))) = isRnd p := by
    have h1 : (strs100.any fun z => eqFl z (.str (S p))) = true ↔ isRnd p = true := by
      unfold isRnd
      rw [num99, List.any_eq_true]
      unfold strs100
      constructor
      · rintro ⟨d, hd, he⟩
        obtain ⟨n, hn, rfl⟩ := List.mem_map.mp hd
        have he' : (S (numL n) == S p) = true := he
        rw [S_beq] at he'
        exact ⟨n, by have := List.mem_range.mp hn; omega, (of_decide_eq_true he').symm⟩
      · rintro ⟨n, hn, rfl⟩
        refine ⟨.str (S (numL n)), List.mem_map.mpr ⟨n, List.mem_range.mpr (by omega), rfl⟩, ?_⟩
        show (S (numL n) == S (numL n)) = true
        rw [S_beq, decide_eq_true rfl]
    cases h2 : isRnd p
    · cases h3 : (strs100.any fun z => eqFl z (.str (S p)))
      · rfl
      · rw [h1.mp h3] at h2; cases h2
    · exact h1.mpr h2
  have e : notInF (.str (S p)) (.lst strs100) = some (.bl (!(strs100.any fun z => eqFl z (.str (S p))))) := by
    have z : inSeqF true (.str (S p)) (.lst strs100) = some (.bl (!(strs100.any fun z => eqFl z (.str (S p))))) := by
      show (if (true && strs100.all flatD) = true then _ else none) = _
      rw [hf]
      rfl
    unfold notInF orF
    rw [z]
  rw [e, ha]
theorem lc100_5 (a b c d e : SV) : lcE [5] (range1I (consA (cE (.int 100)) nilA)) (nameT 5) yesT (appE strIF (consA (varE 5) nilA)) [a, b, c, d, e, .un] = .ok strs100 [a, b, c, d, e, .un] := by
  have rg : range1I (consA (cE (.int 100)) nilA) [a, b, c, d, e, .un] = .ok ((List.range 100).map fun (i : Nat) => D.int i) [a, b, c, d, e, .un] := range1_nat (n := 100) rfl (by decide)
  let f : D → D := fun d => match d with | .int i => .str (S (numL i.toNat)) | d => d
  refine (lcE_pure (vs := [5]) (fun _ => true) f rg rfl (by rw [List.length_map, List.length_range]; decide) rfl fun d hd => ?_).trans ?_
  · obtain ⟨n, hn, rfl⟩ := List.mem_map.mp hd
    have := List.mem_range.mp hn
    have s1 := strI_ok n (by omega)
    refine ⟨[a, b, c, _, e, .d (.int n)], rfl, rfl, rfl, fun _ => ?_⟩
    simp only [seqS, ifS, boolE, binE, unE, appE, ixOwnE, popOwnE, lenOwnE, cE, varE, retS, retNS, asgS, asgOwnS, parS, parOwnS, appendS, dropS, nopS, forS, forGo, seqI, range1I, range2I, enumI, rangeL, callE, callIO, callL, consA, nilA, nameT, tupT, consT, nilT, ownIxT, andE, orE, notE, andT, orT, notT, chainE, ifE, slE, someO, noO, lstE, lstF, appL, methE, isStrD, raiseS, rsIO, rsOf, own0, ofOpt, R.bind_ok, R.bind_er, R.bindS_ok, R.bindS_er, Option.bind_some, Option.map_some, List.map_cons, List.map_nil, List.cons_append, List.nil_append, List.replicate_succ, List.replicate_zero, List.getElem?_cons_zero, List.getElem?_cons_succ, List.length_cons, List.length_nil, List.set_cons_zero, List.set_cons_succ, isOwn, if_true, reduceIte, Bool.false_eq_true, Nat.reduceAdd, atI_0, atI_1, ixN_0, ixN_1, gt_int, lt_int, le_int, ge_int, add_int, sub_int, eq_int, ne_int, eq_str, ne_str, decide_true, decide_false, Nat.zero_add, s1]
    rfl
  · rw [filt, List.map_map]
    rfl
theorem lc100_2 (a b c : SV) : lcE [2] (range1I (consA (cE (.int 100)) nilA)) (nameT 2) yesT (appE strIF (consA (varE 2) nilA)) [a, b, .un, c] = .ok strs100 [a, b, .un, c] := by
  have rg : range1I (consA (cE (.int 100)) nilA) [a, b, .un, c] = .ok ((List.range 100).map fun (i : Nat) => D.int i) [a, b, .un, c] := range1_nat (n := 100) rfl (by decide)
  let f : D → D := fun d => match d with | .int i => .str (S (numL i.toNat)) | d => d
  refine (lcE_pure (vs := [2]) (fun _ => true) f rg rfl (by rw [List.length_map, List.length_range]; decide) rfl fun d hd => ?_).trans ?_
  · obtain ⟨n, hn, rfl⟩ := List.mem_map.mp hd
    have := List.mem_range.mp hn
    have s1 := strI_ok n (by omega)
    refine ⟨[a, b, .d (.int n), c], rfl, rfl, rfl, fun _ => ?_⟩
    simp only [seqS, ifS, boolE, binE, unE, appE, ixOwnE, popOwnE, lenOwnE, cE, varE, retS, retNS, asgS, asgOwnS, parS, parOwnS, appendS, dropS, nopS, forS, forGo, seqI, range1I, range2I, enumI, rangeL, callE, callIO, callL, consA, nilA, nameT, tupT, consT, nilT, ownIxT, andE, orE, notE, andT, orT, notT, chainE, ifE, slE, someO, noO, lstE, lstF, appL, methE, isStrD, raiseS, rsIO, rsOf, own0, ofOpt, R.bind_ok, R.bind_er, R.bindS_ok, R.bindS_er, Option.bind_some, Option.map_some, List.map_cons, List.map_nil, List.cons_append, List.nil_append, List.replicate_succ, List.replicate_zero, List.getElem?_cons_zero, List.getElem?_cons_succ, List.length_cons, List.length_nil, List.set_cons_zero, List.set_cons_succ, isOwn, if_true, reduceIte, Bool.false_eq_true, Nat.reduceAdd, atI_0, atI_1, ixN_0, ixN_1, gt_int, lt_int, le_int, ge_int, add_int, sub_int, eq_int, ne_int, eq_str, ne_str, decide_true, decide_false, Nat.zero_add, s1]
    rfl
  · rw [filt, List.map_map]
    rfl
theorem parts_ok {a : List Nat} (hl : a.length ≤ 600) (ha : asc a = true) : PartsOk (parts a) := by
  refine ⟨fun p hp => Nat.le_trans (part_len hp) hl, fun p hp => part_asc ha hp, ?_⟩
  have : ∀ (sep a acc : List Nat) (k : Nat), (TL.spl sep k acc a).length ≤ a.length + 1 := by
    intro sep a
    induction a with
    | nil => intro acc k; cases k <;> simp [TL.spl]
    | cons c r ih =>
      intro acc k
      cases k with
      | zero =>
        unfold TL.spl
        split
        · rw [List.length_cons]
          have := ih [] (sep.length - 1)
          rw [List.length_cons]
          omega
        · have := ih (acc ++ [c]) 0
          rw [List.length_cons]
          omega
      | succ k =>
        unfold TL.spl
        have := ih acc k
        rw [List.length_cons]
        omega
  have h3 := this [32] a [] 0
  show (TL.spl [32] 0 [] a).length ≤ 1000
  omega
theorem x_event_in {a : List Nat} (hl : a.length ≤ 600) (ha : asc a = true) : f_event_in [.str (S a)] = .ok (evOf (parts a)) := by
  have s1 : splitF (.str (S a)) [.str (" " : Str)] = some (.lst ((parts a).map sd)) := split_ok a (by omega)
  have e1 := x_event_by (parts a) (parts_ok hl ha)
  unfold f_event_in g_event_in runP
  simp only [seqS, ifS, boolE, binE, unE, appE, ixOwnE, popOwnE, lenOwnE, cE, varE, retS, retNS, asgS, asgOwnS, parS, parOwnS, appendS, dropS, nopS, forS, forGo, seqI, range1I, range2I, enumI, rangeL, callE, callIO, callL, consA, nilA, nameT, tupT, consT, nilT, ownIxT, andE, orE, notE, andT, orT, notT, chainE, ifE, slE, someO, noO, lstE, lstF, appL, methE, isStrD, raiseS, rsIO, rsOf, own0, ofOpt, R.bind_ok, R.bind_er, R.bindS_ok, R.bindS_er, Option.bind_some, Option.map_some, List.map_cons, List.map_nil, List.cons_append, List.nil_append, List.replicate_succ, List.replicate_zero, List.getElem?_cons_zero, List.getElem?_cons_succ, List.length_cons, List.length_nil, List.set_cons_zero, List.set_cons_succ, isOwn, if_true, reduceIte, Bool.false_eq_true, Nat.reduceAdd, atI_0, atI_1, ixN_0, ixN_1, gt_int, lt_int, le_int, ge_int, add_int, sub_int, eq_int, ne_int, eq_str, ne_str, decide_true, decide_false, Nat.zero_add, s1, e1]
def l4 : GS := (seqS (asgS (binE addF (binE addF (appE tupF (consA (varE 2) nilA)) (varE 3)) (appE tupF (consA (binE ixF (varE 1) (cE (.int 0))) (consA (binE ixF (varE 1) (cE (.int 2))) (consA (unE (dictF [("beats", 2), ("draws", 1), ("yields", 0)]) (binE ixF (varE 1) (cE (.int 1)))) nilA))))) (nameT 4))
    (retS (ifE (boolE (callE 1 f_l_is_event (consA (varE 4) nilA))) (varE 4) (cE .non))))
def l3 : GS := (seqS (ifS (orT (boolE (binE neF (appE lenF (consA (varE 1) nilA)) (cE (.int 3)))) (boolE (binE notInF (binE ixF (varE 1) (cE (.int 1))) (appE tupF (consA (cE (.str "beats")) (consA (cE (.str "draws")) (consA (cE (.str "yields")) nilA))))))) (retS (cE .non)) nopS) l4)
def l2 : GS := (seqS (ifS (andT (boolE (binE eqF (appE lenF (consA (varE 1) nilA)) (cE (.int 5)))) (boolE (binE eqF (binE ixF (varE 1) (cE (.int 0))) (cE (.str "fix"))))) (seqS (ifS (boolE (binE notInF (binE ixF (varE 1) (cE (.int 1))) (lstE (lcE [5] (range1I (consA (cE (.int 100)) nilA)) (nameT 5) yesT (appE strIF (consA (varE 5) nilA)))))) (retS (cE .non)) nopS)
    (par3S 1 2 3 (slE (varE 1) (someO (cE (.int 2))) noO) (cE (.str "fix")) (appE tupF (consA (appE intF (consA (binE ixF (varE 1) (cE (.int 1))) nilA)) nilA)))) nopS) l3)
theorem l_event_is : g_l_event = (seqS (par3S 1 2 3 (methE splitF (varE 0) (consA (cE (.str " ")) nilA)) (cE (.str "told")) (appE tupF nilA))
    (seqS (ifS (andT (boolE (binE eqF (appE lenF (consA (varE 1) nilA)) (cE (.int 2)))) (boolE (binE eqF (binE ixF (varE 1) (cE (.int 1))) (cE (.str "leaves"))))) (retS (ifE (boolE (callE 1 f_l_is_name (consA (binE ixF (varE 1) (cE (.int 0))) nilA))) (appE tupF (consA (cE (.str "leave")) (consA (binE ixF (varE 1) (cE (.int 0))) nilA))) (cE .non))) nopS) l2)) := rfl
theorem ne3 (n : Nat) (h : n ≠ 3) : neF (.int n) (.int 3) = some (.bl true) := by
  rw [ne_int, decide_eq_false (by omega)]
  rfl
/-- three parts, told so, with what stands ahead -/
theorem l3_no {L : List D} {n : Nat} (hl : lenF [.lst L] = some (.int n)) (h : n ≠ 3) (x y z t u : SV) : l3 [x, .d (.lst L), y, z, t, u] = .rt .non [x, .d (.lst L), y, z, t, u] := by
  have e1 := ne3 n h
  unfold l3
  simp only [seqS, ifS, boolE, binE, unE, appE, ixOwnE, popOwnE, lenOwnE, cE, varE, retS, retNS, asgS, asgOwnS, parS, parOwnS, appendS, dropS, nopS, forS, forGo, seqI, range1I, range2I, enumI, rangeL, callE, callIO, callL, consA, nilA, nameT, tupT, consT, nilT, ownIxT, andE, orE, notE, andT, orT, notT, chainE, ifE, slE, someO, noO, lstE, lstF, appL, methE, isStrD, raiseS, rsIO, rsOf, own0, ofOpt, R.bind_ok, R.bind_er, R.bindS_ok, R.bindS_er, Option.bind_some, Option.map_some, List.map_cons, List.map_nil, List.cons_append, List.nil_append, List.replicate_succ, List.replicate_zero, List.getElem?_cons_zero, List.getElem?_cons_succ, List.length_cons, List.length_nil, List.set_cons_zero, List.set_cons_succ, isOwn, if_true, reduceIte, Bool.false_eq_true, Nat.reduceAdd, atI_0, atI_1, ixN_0, ixN_1, gt_int, lt_int, le_int, ge_int, add_int, sub_int, eq_int, ne_int, eq_str, ne_str, decide_true, decide_false, Nat.zero_add, hl, e1]
theorem fdNum (p : List Nat) (h : isRnd p = true) {k : Nat} : FD (numD p) k 8 := by
  obtain ⟨n, hn, rfl⟩ := (num99 p).mp h
  rw [numD_numL hn]
  exact fdNat (by omega)
theorem l34 {p0 p1 p2 : List Nat} {L : List D} (hl : lenF [.lst L] = some (.int 3)) (i0 : ixF (.lst L) (.int 0) = some (sd p0)) (i1 : ixF (.lst L) (.int 1) = some (sd p1)) (i2 : ixF (.lst L) (.int 2) = some (sd p2)) (w : Str) (ns : List D) (hn : ns.length ≤ 1)
    (hok : okStr (sd p0) ∧ okStr (sd p2)) (hns : ∀ d ∈ ns, okStr d) (hfd : ∀ t : Nat, t ≤ 2 → ∃ k c, FDs (.str w :: (ns ++ [sd p0, sd p2, .int t])) k c ∧ k ≤ 60) (x u : SV) :
    rsOf (l3 [x, .d (.lst L), .d (.str w), .d (.tup ns), .un, u]) = .ok (if isVerb p1 = true then (if evForm (.tup (.str w :: (ns ++ [sd p0, sd p2, (indexF ss_VERBS [sd p1]).getD .non]))) = true then .tup (.str w :: (ns ++ [sd p0, sd p2, (indexF ss_VERBS [sd p1]).getD .non])) else .non) else .non) := by
  have f3 : neF (.int 3) (.int 3) = some (.bl false) := rfl
  have nv := notin_bdy p1
  have t1 : ∀ x : D, tupF [x] = some (.tup [x]) := fun _ => rfl
  have t3 : ∀ x y z : D, tupF [x, y, z] = some (.tup [x, y, z]) := fun _ _ _ => rfl
  unfold sd at *
  unfold l3 l4
  cases hv : isVerb p1
  · simp only [seqS, ifS, boolE, binE, unE, appE, ixOwnE, popOwnE, lenOwnE, cE, varE, retS, retNS, asgS, asgOwnS, parS, parOwnS, appendS, dropS, nopS, forS, forGo, seqI, range1I, range2I, enumI, rangeL, callE, callIO, callL, consA, nilA, nameT, tupT, consT, nilT, ownIxT, andE, orE, notE, andT, orT, notT, chainE, ifE, slE, someO, noO, lstE, lstF, appL, methE, isStrD, raiseS, rsIO, rsOf, own0, ofOpt, R.bind_ok, R.bind_er, R.bindS_ok, R.bindS_er, Option.bind_some, Option.map_some, List.map_cons, List.map_nil, List.cons_append, List.nil_append, List.replicate_succ, List.replicate_zero, List.getElem?_cons_zero, List.getElem?_cons_succ, List.length_cons, List.length_nil, List.set_cons_zero, List.set_cons_succ, isOwn, if_true, reduceIte, Bool.false_eq_true, Nat.reduceAdd, atI_0, atI_1, ixN_0, ixN_1, gt_int, lt_int, le_int, ge_int, add_int, sub_int, eq_int, ne_int, eq_str, ne_str, decide_true, decide_false, Nat.zero_add, hl, f3, i1, t3, nv, hv, Bool.not_false]
  · obtain ⟨t, ht, rfl⟩ := verb_of hv
    have ix := index_verb ht
    have dv := dict_verb ht
    have a1 : addF (.tup [.str w]) (.tup ns) = some (.tup (.str w :: ns)) := add_tup (xs := [.str w]) (ys := ns) (by rw [List.length_singleton]; omega)
    have a2 : addF (.tup (.str w :: ns)) (.tup [.str (S p0), .str (S p2), .int t]) = some (.tup (.str w :: (ns ++ [.str (S p0), .str (S p2), .int t]))) := add_tup (xs := .str w :: ns) (ys := [.str (S p0), .str (S p2), .int t]) (by rw [List.length_cons]; show ns.length + 1 + 3 ≤ 100; omega)
    have ef := ev_law (.tup (.str w :: (ns ++ [.str (S p0), .str (S p2), .int t]))) (fun w' r h e he => by
      injection h with h
      injection h with _ h
      subst h
      rcases List.mem_append.mp he with he | he
      · exact hns e he
      · simp only [List.mem_cons, List.not_mem_nil, or_false] at he
        rcases he with rfl | rfl | rfl
        · exact hok.1
        · exact hok.2
        · exact okI) (fun xs h => by injection h with h; subst h; exact hfd t ht)
    rw [ix, Option.getD_some]
    generalize (.str w :: (ns ++ [.str (S p0), .str (S p2), .int t]) : List D) = RR at *
    cases hx : evForm (.tup RR)
    · simp only [seqS, ifS, boolE, binE, unE, appE, ixOwnE, popOwnE, lenOwnE, cE, varE, retS, retNS, asgS, asgOwnS, parS, parOwnS, appendS, dropS, nopS, forS, forGo, seqI, range1I, range2I, enumI, rangeL, callE, callIO, callL, consA, nilA, nameT, tupT, consT, nilT, ownIxT, andE, orE, notE, andT, orT, notT, chainE, ifE, slE, someO, noO, lstE, lstF, appL, methE, isStrD, raiseS, rsIO, rsOf, own0, ofOpt, R.bind_ok, R.bind_er, R.bindS_ok, R.bindS_er, Option.bind_some, Option.map_some, List.map_cons, List.map_nil, List.cons_append, List.nil_append, List.replicate_succ, List.replicate_zero, List.getElem?_cons_zero, List.getElem?_cons_succ, List.length_cons, List.length_nil, List.set_cons_zero, List.set_cons_succ, isOwn, if_true, reduceIte, Bool.false_eq_true, Nat.reduceAdd, atI_0, atI_1, ixN_0, ixN_1, gt_int, lt_int, le_int, ge_int, add_int, sub_int, eq_int, ne_int, eq_str, ne_str, decide_true, decide_false, Nat.zero_add, hl, f3, i0, i1, i2, t1, t3, nv, hv, dv, a1, a2, ef, hx, Bool.not_true]
    · simp only [seqS, ifS, boolE, binE, unE, appE, ixOwnE, popOwnE, lenOwnE, cE, varE, retS, retNS, asgS, asgOwnS, parS, parOwnS, appendS, dropS, nopS, forS, forGo, seqI, range1I, range2I, enumI, rangeL, callE, callIO, callL, consA, nilA, nameT, tupT, consT, nilT, ownIxT, andE, orE, notE, andT, orT, notT, chainE, ifE, slE, someO, noO, lstE, lstF, appL, methE, isStrD, raiseS, rsIO, rsOf, own0, ofOpt, R.bind_ok, R.bind_er, R.bindS_ok, R.bindS_er, Option.bind_some, Option.map_some, List.map_cons, List.map_nil, List.cons_append, List.nil_append, List.replicate_succ, List.replicate_zero, List.getElem?_cons_zero, List.getElem?_cons_succ, List.length_cons, List.length_nil, List.set_cons_zero, List.set_cons_succ, isOwn, if_true, reduceIte, Bool.false_eq_true, Nat.reduceAdd, atI_0, atI_1, ixN_0, ixN_1, gt_int, lt_int, le_int, ge_int, add_int, sub_int, eq_int, ne_int, eq_str, ne_str, decide_true, decide_false, Nat.zero_add, hl, f3, i0, i1, i2, t1, t3, nv, hv, dv, a1, a2, ef, hx, Bool.not_true]
end K12
end L2
set_option linter.all false
set_option maxRecDepth 100000
set_option maxHeartbeats 4000000
namespace L2
namespace K12
open PySem PySem.Spec PL TL
open _root_.SX (S S_len S_cat S_tl S_inj split_S join_S num_S int_S)
/-! the event of a text: the law's, all of it -/
theorem rnd_int {p : List Nat} (h : isRnd p = true) (hl : p.length ≤ 600) : intF [.str (S p)] = some (numD p) := by
  unfold isRnd at h
  by_cases hk : numOk p = true
  · have := intF_num p (by
      unfold numOk at hk
      exact (Bool.and_eq_true_iff.mp hk).1) (by omega)
    rw [this]
    unfold numD
    rw [if_pos hk]
  · unfold numD at h
    rw [if_neg hk] at h
    cases h
theorem fdS4 {p0 p2 : List Nat} {w : Str} (hw : w.length ≤ 10) (hwa : asc7 w.cps.toList = true) (q0 : p0.length ≤ 600) (q2 : p2.length ≤ 600) (a0 : asc p0 = true) (a2 : asc p2 = true) {t : Nat} (ht : t ≤ 2) : ∃ k c, FDs [.str w, sd p0, sd p2, .int t] k c ∧ k ≤ 60 :=
  ⟨0, _, FDs.cons (FD.str (by omega) hwa) (FDs.cons (fdS (by omega) a0) (FDs.cons (fdS (by omega) a2) (FDs.cons (fdNat (by omega)) FDs.nil))), by decide⟩
theorem fdS5 {p0 p1 p2 : List Nat} {w : Str} (hw : w.length ≤ 10) (hwa : asc7 w.cps.toList = true) (h1 : isRnd p1 = true) (q0 : p0.length ≤ 600) (q2 : p2.length ≤ 600) (a0 : asc p0 = true) (a2 : asc p2 = true) {t : Nat} (ht : t ≤ 2) : ∃ k c, FDs [.str w, numD p1, sd p0, sd p2, .int t] k c ∧ k ≤ 60 :=
  ⟨0, _, FDs.cons (FD.str (by omega) hwa) (FDs.cons (fdNum p1 h1) (FDs.cons (fdS (by omega) a0) (FDs.cons (fdS (by omega) a2) (FDs.cons (fdNat (by omega)) FDs.nil)))), by decide⟩
def l1 : GS := (seqS (ifS (andT (boolE (binE eqF (appE lenF (consA (varE 1) nilA)) (cE (.int 2)))) (boolE (binE eqF (binE ixF (varE 1) (cE (.int 1))) (cE (.str "leaves"))))) (retS (ifE (boolE (callE 1 f_l_is_name (consA (binE ixF (varE 1) (cE (.int 0))) nilA))) (appE tupF (consA (cE (.str "leave")) (consA (binE ixF (varE 1) (cE (.int 0))) nilA))) (cE .non))) nopS) l2)
theorem evOf2 (p0 p1 : List Nat) : evOf [p0, p1] = if (decide (p1 = LEAVES) && isName p0) = true then .tup [.str sLEAVE, .str (S p0)] else .non := rfl
theorem evOf3 (p0 p1 p2 : List Nat) : evOf [p0, p1, p2] = if (isVerb p1 && (isName p0 && (isName p2 && !decide (p0 = p2)))) = true then .tup [.str sTOLD, .str (S p0), .str (S p2), (indexF ss_VERBS [.str (S p1)]).getD .non] else .non := rfl
theorem evOf5 (p0 p1 p2 p3 p4 : List Nat) : evOf [p0, p1, p2, p3, p4] = if (decide (p0 = FIX) && (isRnd p1 && (isVerb p3 && (isName p2 && (isName p4 && !decide (p2 = p4)))))) = true then .tup [.str sFIX, numD p1, .str (S p2), .str (S p4), (indexF ss_VERBS [.str (S p3)]).getD .non] else .non := rfl
theorem l1_ok (x : SV) (ps : List (List Nat)) (ho : PartsOk ps) : rsOf (l1 [x, .d (.lst (ps.map sd)), .d (.str sTOLD), .d (.tup []), .un, .un]) = .ok (evOf ps) := by
  have lL : ∀ ps : List (List Nat), lenF [.lst (ps.map sd)] = some (.int (ps.length : Nat)) := fun ps => by
    show some (D.int (ps.map sd).length) = _
    rw [List.length_map]
  have few : ∀ ps : List (List Nat), ps.length ≠ 2 → ps.length ≠ 3 → ps.length ≠ 5 → rsOf (l1 [x, .d (.lst (ps.map sd)), .d (.str sTOLD), .d (.tup []), .un, .un]) = .ok .non := fun ps h2 h3 h5 => by
    have ll := lL ps
    have e2 : ¬ ((ps.length : Int) = 2) := by omega
    have e5 : ¬ ((ps.length : Int) = 5) := by omega
    have e3 := l3_no ll h3 x (.d (.str sTOLD)) (.d (.tup [])) .un .un
    unfold l1 l2
    generalize (ps.map sd) = L at *
    simp only [seqS, ifS, boolE, binE, unE, appE, ixOwnE, popOwnE, lenOwnE, cE, varE, retS, retNS, asgS, asgOwnS, parS, parOwnS, appendS, dropS, nopS, forS, forGo, seqI, range1I, range2I, enumI, rangeL, callE, callIO, callL, consA, nilA, nameT, tupT, consT, nilT, ownIxT, andE, orE, notE, andT, orT, notT, chainE, ifE, slE, someO, noO, lstE, lstF, appL, methE, isStrD, raiseS, rsIO, rsOf, own0, ofOpt, R.bind_ok, R.bind_er, R.bindS_ok, R.bindS_er, Option.bind_some, Option.map_some, List.map_cons, List.map_nil, List.cons_append, List.nil_append, List.replicate_succ, List.replicate_zero, List.getElem?_cons_zero, List.getElem?_cons_succ, List.length_cons, List.length_nil, List.set_cons_zero, List.set_cons_succ, isOwn, if_true, reduceIte, Bool.false_eq_true, Nat.reduceAdd, atI_0, atI_1, ixN_0, ixN_1, gt_int, lt_int, le_int, ge_int, add_int, sub_int, eq_int, ne_int, eq_str, ne_str, decide_true, decide_false, Nat.zero_add, ll, e2, e5, e3]
  match ps, ho with
  | [], _ => exact few [] (by simp) (by simp) (by simp)
  | [_], _ => exact few _ (by simp) (by simp) (by simp)
  | [p0, p1], ho =>
    have i0 : ixF (.lst ([p0, p1].map sd)) (.int 0) = some (.str (S p0)) := rfl
    have i1 : ixF (.lst ([p0, p1].map sd)) (.int 1) = some (.str (S p1)) := rfl
    have ll : lenF [.lst ([p0, p1].map sd)] = some (.int 2) := rfl
    have q0 := ho.len p0 (by simp)
    have n5 : ¬ ((2 : Int) = 5) := by decide
    have e1 : decide (S p1 = ("leaves" : Str)) = decide (p1 = LEAVES) := S_eq p1 LEAVES
    have e3 := l3_no (n := 2) ll (by decide) x (.d (.str sTOLD)) (.d (.tup [])) .un .un
    have nm : f_l_is_name [.str (S p0)] = .ok (.bl (isName p0)) := x_l_is_name (.str (S p0)) (okS' (by omega) (ho.as p0 (by simp)))
    have t2 : ∀ x y : D, tupF [x, y] = some (.tup [x, y]) := fun _ _ => rfl
    rw [evOf2]
    unfold l1 l2
    generalize ([p0, p1].map sd) = L at *
    cases h1 : decide (p1 = LEAVES)
    · simp only [seqS, ifS, boolE, binE, unE, appE, ixOwnE, popOwnE, lenOwnE, cE, varE, retS, retNS, asgS, asgOwnS, parS, parOwnS, appendS, dropS, nopS, forS, forGo, seqI, range1I, range2I, enumI, rangeL, callE, callIO, callL, consA, nilA, nameT, tupT, consT, nilT, ownIxT, andE, orE, notE, andT, orT, notT, chainE, ifE, slE, someO, noO, lstE, lstF, appL, methE, isStrD, raiseS, rsIO, rsOf, own0, ofOpt, R.bind_ok, R.bind_er, R.bindS_ok, R.bindS_er, Option.bind_some, Option.map_some, List.map_cons, List.map_nil, List.cons_append, List.nil_append, List.replicate_succ, List.replicate_zero, List.getElem?_cons_zero, List.getElem?_cons_succ, List.length_cons, List.length_nil, List.set_cons_zero, List.set_cons_succ, isOwn, if_true, reduceIte, Bool.false_eq_true, Nat.reduceAdd, atI_0, atI_1, ixN_0, ixN_1, gt_int, lt_int, le_int, ge_int, add_int, sub_int, eq_int, ne_int, eq_str, ne_str, decide_true, decide_false, Nat.zero_add, ll, i0, i1, n5, e1, h1, e3, eq_self, Bool.false_and]
    · cases h0 : isName p0
      · simp only [seqS, ifS, boolE, binE, unE, appE, ixOwnE, popOwnE, lenOwnE, cE, varE, retS, retNS, asgS, asgOwnS, parS, parOwnS, appendS, dropS, nopS, forS, forGo, seqI, range1I, range2I, enumI, rangeL, callE, callIO, callL, consA, nilA, nameT, tupT, consT, nilT, ownIxT, andE, orE, notE, andT, orT, notT, chainE, ifE, slE, someO, noO, lstE, lstF, appL, methE, isStrD, raiseS, rsIO, rsOf, own0, ofOpt, R.bind_ok, R.bind_er, R.bindS_ok, R.bindS_er, Option.bind_some, Option.map_some, List.map_cons, List.map_nil, List.cons_append, List.nil_append, List.replicate_succ, List.replicate_zero, List.getElem?_cons_zero, List.getElem?_cons_succ, List.length_cons, List.length_nil, List.set_cons_zero, List.set_cons_succ, isOwn, if_true, reduceIte, Bool.false_eq_true, Nat.reduceAdd, atI_0, atI_1, ixN_0, ixN_1, gt_int, lt_int, le_int, ge_int, add_int, sub_int, eq_int, ne_int, eq_str, ne_str, decide_true, decide_false, Nat.zero_add, ll, i0, i1, n5, e1, h1, t2, nm, h0, eq_self, Bool.true_and]
      · simp only [seqS, ifS, boolE, binE, unE, appE, ixOwnE, popOwnE, lenOwnE, cE, varE, retS, retNS, asgS, asgOwnS, parS, parOwnS, appendS, dropS, nopS, forS, forGo, seqI, range1I, range2I, enumI, rangeL, callE, callIO, callL, consA, nilA, nameT, tupT, consT, nilT, ownIxT, andE, orE, notE, andT, orT, notT, chainE, ifE, slE, someO, noO, lstE, lstF, appL, methE, isStrD, raiseS, rsIO, rsOf, own0, ofOpt, R.bind_ok, R.bind_er, R.bindS_ok, R.bindS_er, Option.bind_some, Option.map_some, List.map_cons, List.map_nil, List.cons_append, List.nil_append, List.replicate_succ, List.replicate_zero, List.getElem?_cons_zero, List.getElem?_cons_succ, List.length_cons, List.length_nil, List.set_cons_zero, List.set_cons_succ, isOwn, if_true, reduceIte, Bool.false_eq_true, Nat.reduceAdd, atI_0, atI_1, ixN_0, ixN_1, gt_int, lt_int, le_int, ge_int, add_int, sub_int, eq_int, ne_int, eq_str, ne_str, decide_true, decide_false, Nat.zero_add, ll, i0, i1, n5, e1, h1, t2, nm, h0, eq_self, Bool.true_and]
        rfl
  | [p0, p1, p2], ho =>
    have ll : lenF [.lst ([p0, p1, p2].map sd)] = some (.int 3) := rfl
    have n5 : ¬ ((3 : Int) = 5) := by decide
    have n2 : ¬ ((3 : Int) = 2) := by decide
    have q0 := ho.len p0 (by simp)
    have q2 := ho.len p2 (by simp)
    have a0 := ho.as p0 (by simp)
    have a2 := ho.as p2 (by simp)
    have e := l34 (L := [p0, p1, p2].map sd) (p0 := p0) (p1 := p1) (p2 := p2) ll rfl rfl rfl sTOLD [] (by decide) ⟨okS' (by omega) a0, okS' (by omega) a2⟩ (fun d hd => by cases hd) (fun t ht => fdS4 (by decide) (by decide) q0 q2 a0 a2 ht) x .un
    have e' : rsOf (l1 [x, .d (.lst ([p0, p1, p2].map sd)), .d (.str sTOLD), .d (.tup []), .un, .un]) = rsOf (l3 [x, .d (.lst ([p0, p1, p2].map sd)), .d (.str sTOLD), .d (.tup []), .un, .un]) := by
      unfold l1 l2
      generalize ([p0, p1, p2].map sd) = L at *
      simp only [seqS, ifS, boolE, binE, unE, appE, ixOwnE, popOwnE, lenOwnE, cE, varE, retS, retNS, asgS, asgOwnS, parS, parOwnS, appendS, dropS, nopS, forS, forGo, seqI, range1I, range2I, enumI, rangeL, callE, callIO, callL, consA, nilA, nameT, tupT, consT, nilT, ownIxT, andE, orE, notE, andT, orT, notT, chainE, ifE, slE, someO, noO, lstE, lstF, appL, methE, isStrD, raiseS, rsIO, rsOf, own0, ofOpt, R.bind_ok, R.bind_er, R.bindS_ok, R.bindS_er, Option.bind_some, Option.map_some, List.map_cons, List.map_nil, List.cons_append, List.nil_append, List.replicate_succ, List.replicate_zero, List.getElem?_cons_zero, List.getElem?_cons_succ, List.length_cons, List.length_nil, List.set_cons_zero, List.set_cons_succ, isOwn, if_true, reduceIte, Bool.false_eq_true, Nat.reduceAdd, atI_0, atI_1, ixN_0, ixN_1, gt_int, lt_int, le_int, ge_int, add_int, sub_int, eq_int, ne_int, eq_str, ne_str, decide_true, decide_false, Nat.zero_add, ll, n2, n5]
    rw [e', e, evOf3]
    cases hv : isVerb p1
    · rfl
    · obtain ⟨t, ht, rfl⟩ := verb_of hv
      have ix := index_verb ht
      have ev : evForm (.tup [.str sTOLD, .str (S p0), .str (S p2), .int t]) = (isName p0 && (isName p2 && !decide (p0 = p2))) := by
        rw [evf_told]
        show (two (.str (S p0)) (.str (S p2)) && within (.int t) 0 2) = _
        rw [two_S, within_t ht, Bool.and_true]
      unfold sd at *
      rw [ix, if_pos rfl, Option.getD_some, Bool.true_and, List.nil_append, ev]
  | [_, _, _, _], _ => exact few _ (by simp) (by simp) (by simp)
  | [p0, p1, p2, p3, p4], ho =>
    have j0 : ixF (.lst ([p0, p1, p2, p3, p4].map sd)) (.int 0) = some (.str (S p0)) := rfl
    have j1 : ixF (.lst ([p0, p1, p2, p3, p4].map sd)) (.int 1) = some (.str (S p1)) := rfl
    have ll : lenF [.lst ([p0, p1, p2, p3, p4].map sd)] = some (.int 5) := rfl
    have sl : slF (.lst ([p0, p1, p2, p3, p4].map sd)) (some 2) none = some (.lst ([p2, p3, p4].map sd)) := rfl
    have ll3 : lenF [.lst ([p2, p3, p4].map sd)] = some (.int 3) := rfl
    have n2 : ¬ ((5 : Int) = 2) := by decide
    have q1 := ho.len p1 (by simp)
    have q2 := ho.len p2 (by simp)
    have q4 := ho.len p4 (by simp)
    have a2 := ho.as p2 (by simp)
    have a4 := ho.as p4 (by simp)
    have e0 : decide (S p0 = ("fix" : Str)) = decide (p0 = FIX) := S_eq p0 FIX
    have e3 := l3_no (n := 5) ll (by decide) x (.d (.str sTOLD)) (.d (.tup [])) .un .un
    have ni := notin100 p1
    have t1 : ∀ x : D, tupF [x] = some (.tup [x]) := fun _ => rfl
    rw [evOf5]
    cases h0 : decide (p0 = FIX)
    · unfold l1 l2
      generalize ([p0, p1, p2, p3, p4].map sd) = L at *
      simp only [seqS, ifS, boolE, binE, unE, appE, ixOwnE, popOwnE, lenOwnE, cE, varE, retS, retNS, asgS, asgOwnS, parS, parOwnS, appendS, dropS, nopS, forS, forGo, seqI, range1I, range2I, enumI, rangeL, callE, callIO, callL, consA, nilA, nameT, tupT, consT, nilT, ownIxT, andE, orE, notE, andT, orT, notT, chainE, ifE, slE, someO, noO, lstE, lstF, appL, methE, isStrD, raiseS, rsIO, rsOf, own0, ofOpt, R.bind_ok, R.bind_er, R.bindS_ok, R.bindS_er, Option.bind_some, Option.map_some, List.map_cons, List.map_nil, List.cons_append, List.nil_append, List.replicate_succ, List.replicate_zero, List.getElem?_cons_zero, List.getElem?_cons_succ, List.length_cons, List.length_nil, List.set_cons_zero, List.set_cons_succ, isOwn, if_true, reduceIte, Bool.false_eq_true, Nat.reduceAdd, atI_0, atI_1, ixN_0, ixN_1, gt_int, lt_int, le_int, ge_int, add_int, sub_int, eq_int, ne_int, eq_str, ne_str, decide_true, decide_false, Nat.zero_add, ll, n2, j0, e0, h0, e3, eq_self, Bool.false_and]
    · cases h1 : isRnd p1
      · rw [h1] at ni
        have lc := lc100_5 x (.d (.lst ([p0, p1, p2, p3, p4].map sd))) (.d (.str sTOLD)) (.d (.tup [])) .un
        unfold l1 l2
        generalize ([p0, p1, p2, p3, p4].map sd) = L at *
        generalize strs100 = X at *
        simp only [seqS, ifS, boolE, binE, unE, appE, ixOwnE, popOwnE, lenOwnE, cE, varE, retS, retNS, asgS, asgOwnS, parS, parOwnS, appendS, dropS, nopS, forS, forGo, seqI, range1I, range2I, enumI, rangeL, callE, callIO, callL, consA, nilA, nameT, tupT, consT, nilT, ownIxT, andE, orE, notE, andT, orT, notT, chainE, ifE, slE, someO, noO, lstE, lstF, appL, methE, isStrD, raiseS, rsIO, rsOf, own0, ofOpt, R.bind_ok, R.bind_er, R.bindS_ok, R.bindS_er, Option.bind_some, Option.map_some, List.map_cons, List.map_nil, List.cons_append, List.nil_append, List.replicate_succ, List.replicate_zero, List.getElem?_cons_zero, List.getElem?_cons_succ, List.length_cons, List.length_nil, List.set_cons_zero, List.set_cons_succ, isOwn, if_true, reduceIte, Bool.false_eq_true, Nat.reduceAdd, atI_0, atI_1, ixN_0, ixN_1, gt_int, lt_int, le_int, ge_int, add_int, sub_int, eq_int, ne_int, eq_str, ne_str, decide_true, decide_false, Nat.zero_add, ll, n2, j0, j1, e0, h0, ni, lc, eq_self, Bool.not_false, Bool.false_and, Bool.and_false]
      · rw [h1] at ni
        have ri := rnd_int h1 q1
        have e := l34 (L := [p2, p3, p4].map sd) (p0 := p2) (p1 := p3) (p2 := p4) ll3 rfl rfl rfl sFIX [numD p1] (by rw [List.length_singleton]; exact Nat.le_refl 1) ⟨okS' (by omega) a2, okS' (by omega) a4⟩ (fun d hd => by rw [List.mem_singleton.mp hd]; exact okNum p1) (fun t ht => fdS5 (by decide) (by decide) h1 q2 q4 a2 a4 ht) x .un
        have lc := lc100_5 x (.d (.lst ([p0, p1, p2, p3, p4].map sd))) (.d (.str sTOLD)) (.d (.tup [])) .un
        have e' : rsOf (l1 [x, .d (.lst ([p0, p1, p2, p3, p4].map sd)), .d (.str sTOLD), .d (.tup []), .un, .un]) = rsOf (l3 [x, .d (.lst ([p2, p3, p4].map sd)), .d (.str sFIX), .d (.tup [numD p1]), .un, .un]) := by
          have c : ("fix" : Str) = sFIX := rfl
          unfold l1 l2
          generalize ([p0, p1, p2, p3, p4].map sd) = L at *
          generalize ([p2, p3, p4].map sd) = L' at *
          generalize strs100 = X at *
          simp only [seqS, ifS, boolE, binE, unE, appE, ixOwnE, popOwnE, lenOwnE, cE, varE, retS, retNS, asgS, asgOwnS, parS, parOwnS, appendS, dropS, nopS, forS, forGo, seqI, range1I, range2I, enumI, rangeL, callE, callIO, callL, consA, nilA, nameT, tupT, consT, nilT, ownIxT, andE, orE, notE, andT, orT, notT, chainE, ifE, slE, someO, noO, lstE, lstF, appL, methE, isStrD, raiseS, rsIO, rsOf, own0, ofOpt, R.bind_ok, R.bind_er, R.bindS_ok, R.bindS_er, Option.bind_some, Option.map_some, List.map_cons, List.map_nil, List.cons_append, List.nil_append, List.replicate_succ, List.replicate_zero, List.getElem?_cons_zero, List.getElem?_cons_succ, List.length_cons, List.length_nil, List.set_cons_zero, List.set_cons_succ, isOwn, if_true, reduceIte, Bool.false_eq_true, Nat.reduceAdd, atI_0, atI_1, ixN_0, ixN_1, gt_int, lt_int, le_int, ge_int, add_int, sub_int, eq_int, ne_int, eq_str, ne_str, decide_true, decide_false, Nat.zero_add, par3S, ll, n2, j0, j1, e0, h0, ni, lc, eq_self, Bool.not_true, sl, t1, ri]
          rfl
        rw [e', e]
        cases hv : isVerb p3
        · rfl
        · obtain ⟨t, ht, rfl⟩ := verb_of hv
          have ix := index_verb ht
          have ev : evForm (.tup [.str sFIX, numD p1, .str (S p2), .str (S p4), .int t]) = (isRnd p1 && (isName p2 && (isName p4 && !decide (p2 = p4)))) := by
            rw [evf_fix]
            show (within (numD p1) 0 99 && (two (.str (S p2)) (.str (S p4)) && within (.int t) 0 2)) = _
            rw [two_S, within_t ht, Bool.and_true]
            rfl
          rw [h1, Bool.true_and] at ev
          unfold sd at *
          rw [ix, if_pos rfl, Option.getD_some, Bool.true_and, Bool.true_and, Bool.true_and, List.singleton_append, ev]
  | p0 :: p1 :: p2 :: p3 :: p4 :: p5 :: r, _ => exact few _ (by simp) (by simp) (by simp)
theorem x_l_event {a : List Nat} (hl : a.length ≤ 600) (ha : asc a = true) : f_l_event [.str (S a)] = .ok (evOf (parts a)) := by
  have s1 : splitF (.str (S a)) [.str (" " : Str)] = some (.lst ((parts a).map sd)) := split_ok a (by omega)
  have e1 := l1_ok (.d (.str (S a))) (parts a) (parts_ok hl ha)
  have t0 : tupF [] = some (.tup []) := rfl
  have e2 : ∀ ρ, (seqS (par3S 1 2 3 (methE splitF (varE 0) (consA (cE (.str " ")) nilA)) (cE (.str "told")) (appE tupF nilA)) l1) ρ = g_l_event ρ := fun _ => rfl
  unfold f_l_event runP
  show rsOf (g_l_event [.d (.str (S a)), .un, .un, .un, .un, .un]) = _
  rw [← e2, ← e1]
  congr 1
  generalize l1 = X
  simp only [seqS, ifS, boolE, binE, unE, appE, ixOwnE, popOwnE, lenOwnE, cE, varE, retS, retNS, asgS, asgOwnS, parS, parOwnS, appendS, dropS, nopS, forS, forGo, seqI, range1I, range2I, enumI, rangeL, callE, callIO, callL, consA, nilA, nameT, tupT, consT, nilT, ownIxT, andE, orE, notE, andT, orT, notT, chainE, ifE, slE, someO, noO, lstE, lstF, appL, methE, isStrD, raiseS, rsIO, rsOf, own0, ofOpt, R.bind_ok, R.bind_er, R.bindS_ok, R.bindS_er, Option.bind_some, Option.map_some, List.map_cons, List.map_nil, List.cons_append, List.nil_append, List.replicate_succ, List.replicate_zero, List.getElem?_cons_zero, List.getElem?_cons_succ, List.length_cons, List.length_nil, List.set_cons_zero, List.set_cons_succ, isOwn, if_true, reduceIte, Bool.false_eq_true, Nat.reduceAdd, atI_0, atI_1, ixN_0, ixN_1, gt_int, lt_int, le_int, ge_int, add_int, sub_int, eq_int, ne_int, eq_str, ne_str, decide_true, decide_false, Nat.zero_add, par3S, s1, t0]
  rfl
end K12
end L2
set_option linter.all false
set_option maxRecDepth 100000
set_option maxHeartbeats 4000000
namespace L2
namespace K12
open PySem PySem.Spec PL TL
open _root_.SX (S S_len S_cat S_tl S_inj split_S join_S num_S int_S)
/-! what can begin an event's text: the program's -/
theorem cut_to (p : List Nat) (n : Nat) (h : p.length ≤ 2000) : slF (.str (S p)) none (some (n : Int)) = some (.str (S (p.take n))) := by
  show (if (S p).length ≤ lim then some (D.str (cutS (S p) none (some (n : Int)))) else none) = _
  rw [if_pos (by rw [S_len]; unfold lim; omega)]
  unfold cutS
  rw [S_len]
  have i1 : HT.sIx p.length p.length (some (n : Int)) = min n p.length := HT.sIx_nat p.length p.length n
  have i0 : HT.sIx p.length 0 none = 0 := rfl
  rw [i1, i0]
  show some (D.str (S ((p.drop 0).take (min n p.length - 0)))) = _
  rw [List.drop_zero, Nat.sub_zero]
  congr 3
  by_cases hn : n ≤ p.length
  · rw [Nat.min_eq_left hn]
  · rw [Nat.min_eq_right (by omega), List.take_length, List.take_of_length_le (by omega)]
theorem lenS (p : List Nat) (h : p.length ≤ 2000) : lenF [.str (S p)] = some (.int (p.length : Nat)) := by
  unfold lenF lenSF lenTF
  simp only [S_len]
  rw [if_pos (by unfold lim; omega)]
def canName (p : List Nat) : Bool := decide (p.length ≤ 12) && p.all low
theorem canName_eq (p : List Nat) : canName p = (decide (p = []) || isName p) := by
  unfold canName isName
  cases p with
  | nil => rfl
  | cons c r =>
    rw [decide_eq_false (List.cons_ne_nil c r), Bool.false_or, decide_eq_true (show 1 ≤ (c :: r).length by rw [List.length_cons]; omega), Bool.true_and]
def pre (p v : List Nat) : Bool := decide (v.take p.length = p)
def preV (p : List Nat) : Bool := pre p (verb 0) || (pre p (verb 1) || pre p (verb 2))
def same12 (p q : List Nat) : Bool := decide (p.length = 12) && decide (p = q)
def canGame : List (List Nat) → Bool
  | [p0] => canName p0
  | [p0, p1] => isName p0 && preV p1
  | [p0, p1, p2] => isName p0 && (isVerb p1 && (canName p2 && !same12 p2 p0))
  | _ => false
def begin2 : List (List Nat) → Bool
  | [p0, p1] => isName p0 && pre p1 LEAVES
  | _ => false
def beginF : List (List Nat) → Bool
  | [p0, p1] => decide (p0 = FIX) && (decide (p1 = []) || isRnd p1)
  | p0 :: p1 :: q :: r => decide (p0 = FIX) && (!decide (p1 = []) && (isRnd p1 && canGame (q :: r)))
  | _ => false
def beginOf (ps : List (List Nat)) : Bool := canGame ps || (begin2 ps || beginF ps)
theorem x_can_be_name (a : List Nat) (hl : a.length ≤ 1000) : f_can_be_name [.str (S a)] = .ok (.bl (canName a)) := by
  have hc : lcE [1] (seqI (varE 0)) (nameT 1) yesT (binE inF (varE 1) (cE c_LETTERS)) [.d (.str (S a)), .un] = .ok (a.map fun c => D.bl (low c)) [.d (.str (S a)), .un] := by
    refine (lcE_pure (vs := [1]) (gi := seqI (varE 0)) (fun _ => true) (chD low) (items := signs (S a)) (ρ1 := [.d (.str (S a)), .un]) rfl rfl (by unfold signs lim; simp; omega) rfl ?_).trans (by rw [signs_ch])
    intro d hd
    obtain ⟨c, hc, rfl⟩ := List.mem_map.mp hd
    refine ⟨[.d (.str (S a)), .d (.str ⟨#[c]⟩)], rfl, rfl, rfl, fun _ => ?_⟩
    simp only [seqS, ifS, boolE, binE, unE, appE, ixOwnE, popOwnE, lenOwnE, cE, varE, retS, retNS, asgS, asgOwnS, parS, parOwnS, appendS, dropS, nopS, forS, forGo, seqI, range1I, range2I, enumI, rangeL, callE, callIO, callL, consA, nilA, nameT, tupT, consT, nilT, ownIxT, andE, orE, notE, andT, orT, notT, chainE, ifE, slE, someO, noO, lstE, lstF, appL, methE, isStrD, raiseS, rsIO, rsOf, own0, ofOpt, R.bind_ok, R.bind_er, R.bindS_ok, R.bindS_er, Option.bind_some, Option.map_some, List.map_cons, List.map_nil, List.cons_append, List.nil_append, List.replicate_succ, List.replicate_zero, List.getElem?_cons_zero, List.getElem?_cons_succ, List.length_cons, List.length_nil, List.set_cons_zero, List.set_cons_succ, isOwn, if_true, reduceIte, Bool.false_eq_true, Nat.reduceAdd, atI_0, atI_1, ixN_0, ixN_1, gt_int, lt_int, le_int, ge_int, add_int, sub_int, eq_int, ne_int, eq_str, ne_str, decide_true, decide_false, Nat.zero_add, in_letters]
    rfl
  have e2 := lenS a (by omega)
  have e3 : c_MOST_NAME = .int 12 := rfl
  have e4 := all_map low a
  unfold f_can_be_name g_can_be_name runP canName
  by_cases h2 : a.length ≤ 12
  · have h2' : (a.length : Int) ≤ 12 := by omega
    simp only [seqS, ifS, boolE, binE, unE, appE, ixOwnE, popOwnE, lenOwnE, cE, varE, retS, retNS, asgS, asgOwnS, parS, parOwnS, appendS, dropS, nopS, forS, forGo, seqI, range1I, range2I, enumI, rangeL, callE, callIO, callL, consA, nilA, nameT, tupT, consT, nilT, ownIxT, andE, orE, notE, andT, orT, notT, chainE, ifE, slE, someO, noO, lstE, lstF, appL, methE, isStrD, raiseS, rsIO, rsOf, own0, ofOpt, R.bind_ok, R.bind_er, R.bindS_ok, R.bindS_er, Option.bind_some, Option.map_some, List.map_cons, List.map_nil, List.cons_append, List.nil_append, List.replicate_succ, List.replicate_zero, List.getElem?_cons_zero, List.getElem?_cons_succ, List.length_cons, List.length_nil, List.set_cons_zero, List.set_cons_succ, isOwn, if_true, reduceIte, Bool.false_eq_true, Nat.reduceAdd, atI_0, atI_1, ixN_0, ixN_1, gt_int, lt_int, le_int, ge_int, add_int, sub_int, eq_int, ne_int, eq_str, ne_str, decide_true, decide_false, Nat.zero_add, e2, e3, h2', hc, e4, h2, Bool.true_and]
  · have h2' : ¬ (a.length : Int) ≤ 12 := by omega
    simp only [seqS, ifS, boolE, binE, unE, appE, ixOwnE, popOwnE, lenOwnE, cE, varE, retS, retNS, asgS, asgOwnS, parS, parOwnS, appendS, dropS, nopS, forS, forGo, seqI, range1I, range2I, enumI, rangeL, callE, callIO, callL, consA, nilA, nameT, tupT, consT, nilT, ownIxT, andE, orE, notE, andT, orT, notT, chainE, ifE, slE, someO, noO, lstE, lstF, appL, methE, isStrD, raiseS, rsIO, rsOf, own0, ofOpt, R.bind_ok, R.bind_er, R.bindS_ok, R.bindS_er, Option.bind_some, Option.map_some, List.map_cons, List.map_nil, List.cons_append, List.nil_append, List.replicate_succ, List.replicate_zero, List.getElem?_cons_zero, List.getElem?_cons_succ, List.length_cons, List.length_nil, List.set_cons_zero, List.set_cons_succ, isOwn, if_true, reduceIte, Bool.false_eq_true, Nat.reduceAdd, atI_0, atI_1, ixN_0, ixN_1, gt_int, lt_int, le_int, ge_int, add_int, sub_int, eq_int, ne_int, eq_str, ne_str, decide_true, decide_false, Nat.zero_add, e2, e3, h2', hc, e4, h2, Bool.true_and, Bool.false_and]
theorem x_can_be_round (p : List Nat) (hl : p.length ≤ 600) : f_can_be_round [.str (S p)] = .ok (.bl (decide (p = []) || isRnd p)) := by
  have e1 : decide (S p = ("" : Str)) = decide (p = []) := S_eq p []
  have e2 : f_number_in [.str (S p)] = .ok (numD p) := x_number_in p (by omega)
  have e3 : c_MOST_ROUND = .int 99 := rfl
  have e4 := x_is_within (numD p) 0 99
  unfold f_can_be_round g_can_be_round runP isRnd
  cases h : decide (p = [])
  · simp only [seqS, ifS, boolE, binE, unE, appE, ixOwnE, popOwnE, lenOwnE, cE, varE, retS, retNS, asgS, asgOwnS, parS, parOwnS, appendS, dropS, nopS, forS, forGo, seqI, range1I, range2I, enumI, rangeL, callE, callIO, callL, consA, nilA, nameT, tupT, consT, nilT, ownIxT, andE, orE, notE, andT, orT, notT, chainE, ifE, slE, someO, noO, lstE, lstF, appL, methE, isStrD, raiseS, rsIO, rsOf, own0, ofOpt, R.bind_ok, R.bind_er, R.bindS_ok, R.bindS_er, Option.bind_some, Option.map_some, List.map_cons, List.map_nil, List.cons_append, List.nil_append, List.replicate_succ, List.replicate_zero, List.getElem?_cons_zero, List.getElem?_cons_succ, List.length_cons, List.length_nil, List.set_cons_zero, List.set_cons_succ, isOwn, if_true, reduceIte, Bool.false_eq_true, Nat.reduceAdd, atI_0, atI_1, ixN_0, ixN_1, gt_int, lt_int, le_int, ge_int, add_int, sub_int, eq_int, ne_int, eq_str, ne_str, decide_true, decide_false, Nat.zero_add, e1, e2, e3, e4, h, Bool.false_or]
  · simp only [seqS, ifS, boolE, binE, unE, appE, ixOwnE, popOwnE, lenOwnE, cE, varE, retS, retNS, asgS, asgOwnS, parS, parOwnS, appendS, dropS, nopS, forS, forGo, seqI, range1I, range2I, enumI, rangeL, callE, callIO, callL, consA, nilA, nameT, tupT, consT, nilT, ownIxT, andE, orE, notE, andT, orT, notT, chainE, ifE, slE, someO, noO, lstE, lstF, appL, methE, isStrD, raiseS, rsIO, rsOf, own0, ofOpt, R.bind_ok, R.bind_er, R.bindS_ok, R.bindS_er, Option.bind_some, Option.map_some, List.map_cons, List.map_nil, List.cons_append, List.nil_append, List.replicate_succ, List.replicate_zero, List.getElem?_cons_zero, List.getElem?_cons_succ, List.length_cons, List.length_nil, List.set_cons_zero, List.set_cons_succ, isOwn, if_true, reduceIte, Bool.false_eq_true, Nat.reduceAdd, atI_0, atI_1, ixN_0, ixN_1, gt_int, lt_int, le_int, ge_int, add_int, sub_int, eq_int, ne_int, eq_str, ne_str, decide_true, decide_false, Nat.zero_add, e1, h, Bool.true_or]
theorem bls_mapL {α : Type} (p : α → Bool) : ∀ l : List α, blsOf (l.map fun c => D.bl (p c)) = some (l.map p)
  | [] => rfl
  | c :: l => by
    show (blsOf (l.map fun c => D.bl (p c))).map (p c :: ·) = _
    rw [bls_mapL p l]
    rfl
theorem any_mapL {α : Type} (p : α → Bool) (l : List α) : anyF [.lst (l.map fun c => D.bl (p c))] = some (.bl (l.any p)) := by
  show (blsOf _).map _ = _
  rw [bls_mapL]
  show some (D.bl ((l.map p).any id)) = _
  rw [List.any_map]
  rfl
def preD (p : List Nat) : D → Bool
  | .str x => pre p x.cps.toList
  | _ => false
theorem x_can_be_verb (p : List Nat) (ws : List (List Nat)) (hp : p.length ≤ 1000) (hw : ∀ w ∈ ws, w.length ≤ 1000) (hn : ws.length ≤ 100) : f_can_be_verb [.str (S p), .tup (ws.map sd)] = .ok (.bl (ws.any (pre p))) := by
  have hc : lcE [2] (seqI (varE 1)) (nameT 2) yesT (binE eqF (slE (varE 2) noO (someO (appE lenF (consA (varE 0) nilA)))) (varE 0)) [.d (.str (S p)), .d (.tup (ws.map sd)), .un] = .ok (ws.map fun w => D.bl (pre p w)) [.d (.str (S p)), .d (.tup (ws.map sd)), .un] := by
    refine (lcE_pure (vs := [2]) (gi := seqI (varE 1)) (fun _ => true) (fun d => .bl (preD p d)) (items := ws.map sd) (ρ1 := [.d (.str (S p)), .d (.tup (ws.map sd)), .un]) rfl rfl (by rw [List.length_map]; unfold lim; omega) rfl ?_).trans (by rw [filt, List.map_map]; rfl)
    intro d hd
    obtain ⟨w, hw', rfl⟩ := List.mem_map.mp hd
    refine ⟨[.d (.str (S p)), .d (.tup (ws.map sd)), .d (sd w)], rfl, rfl, rfl, fun _ => ?_⟩
    have e1 := lenS p (by omega)
    have e2 : slF (sd w) none (some (p.length : Nat)) = some (.str (S (w.take p.length))) := cut_to w p.length (by have := hw w hw'; omega)
    have e3 : decide (S (w.take p.length) = S p) = pre p w := S_eq _ _
    generalize (ws.map sd) = L at *
    simp only [seqS, ifS, boolE, binE, unE, appE, ixOwnE, popOwnE, lenOwnE, cE, varE, retS, retNS, asgS, asgOwnS, parS, parOwnS, appendS, dropS, nopS, forS, forGo, seqI, range1I, range2I, enumI, rangeL, callE, callIO, callL, consA, nilA, nameT, tupT, consT, nilT, ownIxT, andE, orE, notE, andT, orT, notT, chainE, ifE, slE, someO, noO, lstE, lstF, appL, methE, isStrD, raiseS, rsIO, rsOf, own0, ofOpt, R.bind_ok, R.bind_er, R.bindS_ok, R.bindS_er, Option.bind_some, Option.map_some, List.map_cons, List.map_nil, List.cons_append, List.nil_append, List.replicate_succ, List.replicate_zero, List.getElem?_cons_zero, List.getElem?_cons_succ, List.length_cons, List.length_nil, List.set_cons_zero, List.set_cons_succ, isOwn, if_true, reduceIte, Bool.false_eq_true, Nat.reduceAdd, atI_0, atI_1, ixN_0, ixN_1, gt_int, lt_int, le_int, ge_int, add_int, sub_int, eq_int, ne_int, eq_str, ne_str, decide_true, decide_false, Nat.zero_add, e1, e2, e3]
    rfl
  have e4 := any_mapL (pre p) ws
  unfold f_can_be_verb g_can_be_verb runP
  generalize (ws.map sd) = L at *
  simp only [seqS, ifS, boolE, binE, unE, appE, ixOwnE, popOwnE, lenOwnE, cE, varE, retS, retNS, asgS, asgOwnS, parS, parOwnS, appendS, dropS, nopS, forS, forGo, seqI, range1I, range2I, enumI, rangeL, callE, callIO, callL, consA, nilA, nameT, tupT, consT, nilT, ownIxT, andE, orE, notE, andT, orT, notT, chainE, ifE, slE, someO, noO, lstE, lstF, appL, methE, isStrD, raiseS, rsIO, rsOf, own0, ofOpt, R.bind_ok, R.bind_er, R.bindS_ok, R.bindS_er, Option.bind_some, Option.map_some, List.map_cons, List.map_nil, List.cons_append, List.nil_append, List.replicate_succ, List.replicate_zero, List.getElem?_cons_zero, List.getElem?_cons_succ, List.length_cons, List.length_nil, List.set_cons_zero, List.set_cons_succ, isOwn, if_true, reduceIte, Bool.false_eq_true, Nat.reduceAdd, atI_0, atI_1, ixN_0, ixN_1, gt_int, lt_int, le_int, ge_int, add_int, sub_int, eq_int, ne_int, eq_str, ne_str, decide_true, decide_false, Nat.zero_add, hc, e4]
theorem verbs_is : c_VERBS = .tup ([verb 0, verb 1, verb 2].map sd) := rfl
theorem x_pre_verbs (p : List Nat) (hp : p.length ≤ 1000) : f_can_be_verb [.str (S p), c_VERBS] = .ok (.bl (preV p)) := by
  rw [verbs_is, x_can_be_verb p _ hp (by decide) (by decide)]
  show _ = Rs.ok (.bl (pre p (verb 0) || (pre p (verb 1) || pre p (verb 2))))
  simp only [List.any_cons, List.any_nil, Bool.or_false]
theorem x_pre_leaves (p : List Nat) (hp : p.length ≤ 1000) : f_can_be_verb [.str (S p), .tup [c_LEAVES]] = .ok (.bl (pre p LEAVES)) := by
  have : (.tup [c_LEAVES] : D) = .tup ([LEAVES].map sd) := rfl
  rw [this, x_can_be_verb p _ hp (by decide) (by decide)]
  simp only [List.any_cons, List.any_nil, Bool.or_false]
theorem x_can_be_game (ps : List (List Nat)) (h0 : ps ≠ []) (ho : PartsOk ps) : f_can_be_game [.lst (ps.map sd)] = .ok (.bl (canGame ps)) := by
  have e12 : c_MOST_NAME = .int 12 := rfl
  match ps, h0, ho with
  | [p0], _, ho =>
    have i0 : ixF (.lst ([p0].map sd)) (.int 0) = some (.str (S p0)) := rfl
    have ll : lenF [.lst ([p0].map sd)] = some (.int 1) := rfl
    have q0 := ho.len p0 (by simp)
    have e1 := x_can_be_name p0 (by omega)
    have eq : canGame [p0] = canName p0 := rfl
    rw [eq]
    unfold f_can_be_game g_can_be_game runP
    generalize ([p0].map sd) = L at *
    simp only [seqS, ifS, boolE, binE, unE, appE, ixOwnE, popOwnE, lenOwnE, cE, varE, retS, retNS, asgS, asgOwnS, parS, parOwnS, appendS, dropS, nopS, forS, forGo, seqI, range1I, range2I, enumI, rangeL, callE, callIO, callL, consA, nilA, nameT, tupT, consT, nilT, ownIxT, andE, orE, notE, andT, orT, notT, chainE, ifE, slE, someO, noO, lstE, lstF, appL, methE, isStrD, raiseS, rsIO, rsOf, own0, ofOpt, R.bind_ok, R.bind_er, R.bindS_ok, R.bindS_er, Option.bind_some, Option.map_some, List.map_cons, List.map_nil, List.cons_append, List.nil_append, List.replicate_succ, List.replicate_zero, List.getElem?_cons_zero, List.getElem?_cons_succ, List.length_cons, List.length_nil, List.set_cons_zero, List.set_cons_succ, isOwn, if_true, reduceIte, Bool.false_eq_true, Nat.reduceAdd, atI_0, atI_1, ixN_0, ixN_1, gt_int, lt_int, le_int, ge_int, add_int, sub_int, eq_int, ne_int, eq_str, ne_str, decide_true, decide_false, Nat.zero_add, ll, i0, e1]
  | [p0, p1], _, ho =>
    have i0 : ixF (.lst ([p0, p1].map sd)) (.int 0) = some (.str (S p0)) := rfl
    have i1 : ixF (.lst ([p0, p1].map sd)) (.int 1) = some (.str (S p1)) := rfl
    have ll : lenF [.lst ([p0, p1].map sd)] = some (.int 2) := rfl
    have q0 := ho.len p0 (by simp)
    have q1 := ho.len p1 (by simp)
    have e1 := x_is_name p0 (by omega)
    have e2 := x_pre_verbs p1 (by omega)
    have n1 : ¬ ((2 : Int) = 1) := by decide
    have n3 : ¬ ((3 : Int) < 2) := by decide
    have eq : canGame [p0, p1] = (isName p0 && preV p1) := rfl
    rw [eq]
    unfold f_can_be_game g_can_be_game runP
    generalize ([p0, p1].map sd) = L at *
    cases hn : isName p0
    · simp only [seqS, ifS, boolE, binE, unE, appE, ixOwnE, popOwnE, lenOwnE, cE, varE, retS, retNS, asgS, asgOwnS, parS, parOwnS, appendS, dropS, nopS, forS, forGo, seqI, range1I, range2I, enumI, rangeL, callE, callIO, callL, consA, nilA, nameT, tupT, consT, nilT, ownIxT, andE, orE, notE, andT, orT, notT, chainE, ifE, slE, someO, noO, lstE, lstF, appL, methE, isStrD, raiseS, rsIO, rsOf, own0, ofOpt, R.bind_ok, R.bind_er, R.bindS_ok, R.bindS_er, Option.bind_some, Option.map_some, List.map_cons, List.map_nil, List.cons_append, List.nil_append, List.replicate_succ, List.replicate_zero, List.getElem?_cons_zero, List.getElem?_cons_succ, List.length_cons, List.length_nil, List.set_cons_zero, List.set_cons_succ, isOwn, if_true, reduceIte, Bool.false_eq_true, Nat.reduceAdd, atI_0, atI_1, ixN_0, ixN_1, gt_int, lt_int, le_int, ge_int, add_int, sub_int, eq_int, ne_int, eq_str, ne_str, decide_true, decide_false, Nat.zero_add, ll, i0, e1, n1, hn, Bool.not_false, Bool.false_and]
    · simp only [seqS, ifS, boolE, binE, unE, appE, ixOwnE, popOwnE, lenOwnE, cE, varE, retS, retNS, asgS, asgOwnS, parS, parOwnS, appendS, dropS, nopS, forS, forGo, seqI, range1I, range2I, enumI, rangeL, callE, callIO, callL, consA, nilA, nameT, tupT, consT, nilT, ownIxT, andE, orE, notE, andT, orT, notT, chainE, ifE, slE, someO, noO, lstE, lstF, appL, methE, isStrD, raiseS, rsIO, rsOf, own0, ofOpt, R.bind_ok, R.bind_er, R.bindS_ok, R.bindS_er, Option.bind_some, Option.map_some, List.map_cons, List.map_nil, List.cons_append, List.nil_append, List.replicate_succ, List.replicate_zero, List.getElem?_cons_zero, List.getElem?_cons_succ, List.length_cons, List.length_nil, List.set_cons_zero, List.set_cons_succ, isOwn, if_true, reduceIte, Bool.false_eq_true, Nat.reduceAdd, atI_0, atI_1, ixN_0, ixN_1, gt_int, lt_int, le_int, ge_int, add_int, sub_int, eq_int, ne_int, eq_str, ne_str, decide_true, decide_false, Nat.zero_add, ll, i0, i1, e1, e2, n1, n3, hn, Bool.not_true, Bool.true_and]
  | [p0, p1, p2], _, ho =>
    have i0 : ixF (.lst ([p0, p1, p2].map sd)) (.int 0) = some (.str (S p0)) := rfl
    have i1 : ixF (.lst ([p0, p1, p2].map sd)) (.int 1) = some (.str (S p1)) := rfl
    have i2 : ixF (.lst ([p0, p1, p2].map sd)) (.int 2) = some (.str (S p2)) := rfl
    have ll : lenF [.lst ([p0, p1, p2].map sd)] = some (.int 3) := rfl
    have q0 := ho.len p0 (by simp)
    have q2 := ho.len p2 (by simp)
    have e1 := x_is_name p0 (by omega)
    have e2 := x_can_be_name p2 (by omega)
    have e3 := lenS p2 (by omega)
    have e4 : decide (((p2.length : Nat) : Int) = 12) = decide (p2.length = 12) := decide_eq_decide.mpr (by omega)
    have e5 : decide (S p2 = S p0) = decide (p2 = p0) := S_eq p2 p0
    have iv := in_verbs p1
    have n1 : ¬ ((3 : Int) = 1) := by decide
    have n2 : ¬ ((3 : Int) = 2) := by decide
    have n3 : ¬ ((3 : Int) < 3) := by decide
    have eq : canGame [p0, p1, p2] = (isName p0 && (isVerb p1 && (canName p2 && !same12 p2 p0))) := rfl
    rw [eq]
    unfold same12
    unfold f_can_be_game g_can_be_game runP
    generalize ([p0, p1, p2].map sd) = L at *
    cases hn : isName p0
    · simp only [seqS, ifS, boolE, binE, unE, appE, ixOwnE, popOwnE, lenOwnE, cE, varE, retS, retNS, asgS, asgOwnS, parS, parOwnS, appendS, dropS, nopS, forS, forGo, seqI, range1I, range2I, enumI, rangeL, callE, callIO, callL, consA, nilA, nameT, tupT, consT, nilT, ownIxT, andE, orE, notE, andT, orT, notT, chainE, ifE, slE, someO, noO, lstE, lstF, appL, methE, isStrD, raiseS, rsIO, rsOf, own0, ofOpt, R.bind_ok, R.bind_er, R.bindS_ok, R.bindS_er, Option.bind_some, Option.map_some, List.map_cons, List.map_nil, List.cons_append, List.nil_append, List.replicate_succ, List.replicate_zero, List.getElem?_cons_zero, List.getElem?_cons_succ, List.length_cons, List.length_nil, List.set_cons_zero, List.set_cons_succ, isOwn, if_true, reduceIte, Bool.false_eq_true, Nat.reduceAdd, atI_0, atI_1, ixN_0, ixN_1, gt_int, lt_int, le_int, ge_int, add_int, sub_int, eq_int, ne_int, eq_str, ne_str, decide_true, decide_false, Nat.zero_add, ll, i0, e1, n1, hn, Bool.not_false, Bool.false_and]
    · cases h12 : decide (p2.length = 12) <;> cases h0 : decide (p2 = p0) <;> cases hv : isVerb p1 <;> cases hc : canName p2 <;>
        simp only [seqS, ifS, boolE, binE, unE, appE, ixOwnE, popOwnE, lenOwnE, cE, varE, retS, retNS, asgS, asgOwnS, parS, parOwnS, appendS, dropS, nopS, forS, forGo, seqI, range1I, range2I, enumI, rangeL, callE, callIO, callL, consA, nilA, nameT, tupT, consT, nilT, ownIxT, andE, orE, notE, andT, orT, notT, chainE, ifE, slE, someO, noO, lstE, lstF, appL, methE, isStrD, raiseS, rsIO, rsOf, own0, ofOpt, R.bind_ok, R.bind_er, R.bindS_ok, R.bindS_er, Option.bind_some, Option.map_some, List.map_cons, List.map_nil, List.cons_append, List.nil_append, List.replicate_succ, List.replicate_zero, List.getElem?_cons_zero, List.getElem?_cons_succ, List.length_cons, List.length_nil, List.set_cons_zero, List.set_cons_succ, isOwn, if_true, reduceIte, Bool.false_eq_true, Nat.reduceAdd, atI_0, atI_1, ixN_0, ixN_1, gt_int, lt_int, le_int, ge_int, add_int, sub_int, eq_int, ne_int, eq_str, ne_str, decide_true, decide_false, Nat.zero_add, ll, i0, i1, i2, e1, e2, e3, e4, e5, e12, iv, n1, n2, n3, hn, h12, h0, hv, hc, Bool.not_true, Bool.not_false, Bool.true_and, Bool.false_and, Bool.and_true, Bool.and_false]
  | p0 :: p1 :: p2 :: p3 :: r, _, ho =>
    have i0 : ixF (.lst ((p0 :: p1 :: p2 :: p3 :: r).map sd)) (.int 0) = some (.str (S p0)) := ixAt _ 0 _ rfl (by simp only [List.map_cons, List.length_cons]; omega)
    have ll : lenF [.lst ((p0 :: p1 :: p2 :: p3 :: r).map sd)] = some (.int ((p0 :: p1 :: p2 :: p3 :: r).length : Nat)) := by
      show some (D.int ((p0 :: p1 :: p2 :: p3 :: r).map sd).length) = _
      rw [List.length_map]
    have q0 := ho.len p0 (by simp)
    have e1 := x_is_name p0 (by omega)
    have h4 : 4 ≤ (p0 :: p1 :: p2 :: p3 :: r).length := by simp only [List.length_cons]; omega
    have eq : canGame (p0 :: p1 :: p2 :: p3 :: r) = false := rfl
    rw [eq]
    generalize (p0 :: p1 :: p2 :: p3 :: r).length = m at *
    have n1 : ¬ ((m : Int) = 1) := by omega
    have n3 : (3 : Int) < m := by omega
    unfold f_can_be_game g_can_be_game runP
    generalize ((p0 :: p1 :: p2 :: p3 :: r).map sd) = L at *
    cases hn : isName p0
    · simp only [seqS, ifS, boolE, binE, unE, appE, ixOwnE, popOwnE, lenOwnE, cE, varE, retS, retNS, asgS, asgOwnS, parS, parOwnS, appendS, dropS, nopS, forS, forGo, seqI, range1I, range2I, enumI, rangeL, callE, callIO, callL, consA, nilA, nameT, tupT, consT, nilT, ownIxT, andE, orE, notE, andT, orT, notT, chainE, ifE, slE, someO, noO, lstE, lstF, appL, methE, isStrD, raiseS, rsIO, rsOf, own0, ofOpt, R.bind_ok, R.bind_er, R.bindS_ok, R.bindS_er, Option.bind_some, Option.map_some, List.map_cons, List.map_nil, List.cons_append, List.nil_append, List.replicate_succ, List.replicate_zero, List.getElem?_cons_zero, List.getElem?_cons_succ, List.length_cons, List.length_nil, List.set_cons_zero, List.set_cons_succ, isOwn, if_true, reduceIte, Bool.false_eq_true, Nat.reduceAdd, atI_0, atI_1, ixN_0, ixN_1, gt_int, lt_int, le_int, ge_int, add_int, sub_int, eq_int, ne_int, eq_str, ne_str, decide_true, decide_false, Nat.zero_add, ll, i0, e1, n1, hn, Bool.not_false]
    · simp only [seqS, ifS, boolE, binE, unE, appE, ixOwnE, popOwnE, lenOwnE, cE, varE, retS, retNS, asgS, asgOwnS, parS, parOwnS, appendS, dropS, nopS, forS, forGo, seqI, range1I, range2I, enumI, rangeL, callE, callIO, callL, consA, nilA, nameT, tupT, consT, nilT, ownIxT, andE, orE, notE, andT, orT, notT, chainE, ifE, slE, someO, noO, lstE, lstF, appL, methE, isStrD, raiseS, rsIO, rsOf, own0, ofOpt, R.bind_ok, R.bind_er, R.bindS_ok, R.bindS_er, Option.bind_some, Option.map_some, List.map_cons, List.map_nil, List.cons_append, List.nil_append, List.replicate_succ, List.replicate_zero, List.getElem?_cons_zero, List.getElem?_cons_succ, List.length_cons, List.length_nil, List.set_cons_zero, List.set_cons_succ, isOwn, if_true, reduceIte, Bool.false_eq_true, Nat.reduceAdd, atI_0, atI_1, ixN_0, ixN_1, gt_int, lt_int, le_int, ge_int, add_int, sub_int, eq_int, ne_int, eq_str, ne_str, decide_true, decide_false, Nat.zero_add, ll, i0, e1, n1, n3, hn, Bool.not_true]
end K12
end L2
set_option linter.all false
set_option maxRecDepth 100000
set_option maxHeartbeats 4000000
namespace L2
namespace K12
open PySem PySem.Spec PL TL
open _root_.SX (S S_len S_cat S_tl S_inj split_S join_S num_S int_S)
/-! what can begin an event's text: both -/
theorem sl_two (xs : List D) (h : 2 ≤ xs.length) : slF (.lst xs) (some 2) none = some (.lst (xs.drop 2)) := by
  show some (D.lst (cutD xs (some 2) none)) = _
  unfold cutD
  have e : HT.sIx xs.length xs.length none = xs.length := rfl
  have e2 : HT.sIx xs.length 0 (some 2) = 2 := (HT.sIx_nat xs.length 0 2).trans (Nat.min_eq_left (by omega))
  rw [e, e2, List.take_of_length_le (by rw [List.length_drop]; exact Nat.le_refl _)]
theorem len_sd (ps : List (List Nat)) : lenF [.lst (ps.map sd)] = some (.int (ps.length : Nat)) := by
  show some (D.int (ps.map sd).length) = _
  rw [List.length_map]
theorem ix_sd (ps : List (List Nat)) (i : Nat) (p : List Nat) (h : ps[i]? = some p) : ixF (.lst (ps.map sd)) (.int i) = some (.str (S p)) :=
  ixAt _ i _ (by rw [List.getElem?_map, h]; rfl) (by
    rw [List.length_map]
    exact (List.getElem?_eq_some_iff.mp h).1)
theorem PartsOk.rest {p0 p1 : List Nat} {ps : List (List Nat)} (h : PartsOk (p0 :: p1 :: ps)) : PartsOk ps :=
  ⟨fun p hp => h.len p (by simp [hp]), fun p hp => h.as p (by simp [hp]), by have := h.most; simp only [List.length_cons] at this; omega⟩
def cb1 : GS := (seqS (ifS (boolE (callE 1 f_can_be_game (consA (varE 1) nilA))) (retS (cE (.bl true))) nopS)
    (seqS (ifS (andT (boolE (binE eqF (appE lenF (consA (varE 1) nilA)) (cE (.int 2)))) (andT (boolE (callE 1 f_is_name_value (consA (binE ixF (varE 1) (cE (.int 0))) nilA))) (boolE (callE 2 f_can_be_verb (consA (binE ixF (varE 1) (cE (.int 1))) (consA (appE tupF (consA (cE c_LEAVES) nilA)) nilA)))))) (retS (cE (.bl true))) nopS)
    (seqS (ifS (orT (boolE (binE ltF (appE lenF (consA (varE 1) nilA)) (cE (.int 2)))) (boolE (binE neF (binE ixF (varE 1) (cE (.int 0))) (cE c_FIX)))) (retS (cE (.bl false))) nopS)
    (seqS (ifS (boolE (binE eqF (appE lenF (consA (varE 1) nilA)) (cE (.int 2)))) (retS (callE 1 f_can_be_round (consA (binE ixF (varE 1) (cE (.int 1))) nilA))) nopS)
    (retS (andE (binE neF (binE ixF (varE 1) (cE (.int 1))) (cE (.str ""))) (andE (callE 1 f_can_be_round (consA (binE ixF (varE 1) (cE (.int 1))) nilA)) (callE 1 f_can_be_game (consA (slE (varE 1) (someO (cE (.int 2))) noO) nilA)))))))))
theorem cb1_ok (x : SV) (ps : List (List Nat)) (h0 : ps ≠ []) (ho : PartsOk ps) : rsOf (cb1 [x, .d (.lst (ps.map sd))]) = .ok (.bl (beginOf ps)) := by
  have g := x_can_be_game ps h0 ho
  have ll := len_sd ps
  have cF : c_FIX = .str (S FIX) := rfl
  unfold beginOf
  match ps, h0, ho with
  | [p0], _, ho =>
    have eq : begin2 [p0] = false := rfl
    have eq2 : beginF [p0] = false := rfl
    have ll' : lenF [.lst ([p0].map sd)] = some (.int 1) := rfl
    have n1 : ¬ ((1 : Int) = 2) := by decide
    have n2 : ((1 : Int) < 2) := by decide
    rw [eq, eq2]
    unfold cb1
    generalize ([p0].map sd) = L at *
    cases hg : canGame [p0] <;> simp only [seqS, ifS, boolE, binE, unE, appE, ixOwnE, popOwnE, lenOwnE, cE, varE, retS, retNS, asgS, asgOwnS, parS, parOwnS, appendS, dropS, nopS, forS, forGo, seqI, range1I, range2I, enumI, rangeL, callE, callIO, callL, consA, nilA, nameT, tupT, consT, nilT, ownIxT, andE, orE, notE, andT, orT, notT, chainE, ifE, slE, someO, noO, lstE, lstF, appL, methE, isStrD, raiseS, rsIO, rsOf, own0, ofOpt, R.bind_ok, R.bind_er, R.bindS_ok, R.bindS_er, Option.bind_some, Option.map_some, List.map_cons, List.map_nil, List.cons_append, List.nil_append, List.replicate_succ, List.replicate_zero, List.getElem?_cons_zero, List.getElem?_cons_succ, List.length_cons, List.length_nil, List.set_cons_zero, List.set_cons_succ, isOwn, if_true, reduceIte, Bool.false_eq_true, Nat.reduceAdd, atI_0, atI_1, ixN_0, ixN_1, gt_int, lt_int, le_int, ge_int, add_int, sub_int, eq_int, ne_int, eq_str, ne_str, decide_true, decide_false, Nat.zero_add, g, hg, ll', n1, n2, Bool.or_false, Bool.false_or]
  | [p0, p1], _, ho =>
    have i0 := ix_sd [p0, p1] 0 p0 rfl
    have i1 := ix_sd [p0, p1] 1 p1 rfl
    have ll' : lenF [.lst ([p0, p1].map sd)] = some (.int 2) := rfl
    have q0 := ho.len p0 (by simp)
    have q1 := ho.len p1 (by simp)
    have nm := x_is_name p0 (by omega)
    have pl := x_pre_leaves p1 (by omega)
    have rd := x_can_be_round p1 q1
    have t1 : tupF [c_LEAVES] = some (.tup [c_LEAVES]) := rfl
    have n2 : ¬ ((2 : Int) < 2) := by decide
    have e0 : decide (S p0 = S FIX) = decide (p0 = FIX) := S_eq p0 FIX
    have eq : begin2 [p0, p1] = (isName p0 && pre p1 LEAVES) := rfl
    have eq2 : beginF [p0, p1] = (decide (p0 = FIX) && (decide (p1 = []) || isRnd p1)) := rfl
    rw [eq, eq2]
    unfold cb1
    generalize ([p0, p1].map sd) = L at *
    rw [show ((0 : Nat) : Int) = 0 from rfl] at i0
    rw [show ((1 : Nat) : Int) = 1 from rfl] at i1
    cases hg : canGame [p0, p1]
    · cases hn : isName p0 <;> cases hp : pre p1 LEAVES <;> cases hf : decide (p0 = FIX) <;>
        simp only [seqS, ifS, boolE, binE, unE, appE, ixOwnE, popOwnE, lenOwnE, cE, varE, retS, retNS, asgS, asgOwnS, parS, parOwnS, appendS, dropS, nopS, forS, forGo, seqI, range1I, range2I, enumI, rangeL, callE, callIO, callL, consA, nilA, nameT, tupT, consT, nilT, ownIxT, andE, orE, notE, andT, orT, notT, chainE, ifE, slE, someO, noO, lstE, lstF, appL, methE, isStrD, raiseS, rsIO, rsOf, own0, ofOpt, R.bind_ok, R.bind_er, R.bindS_ok, R.bindS_er, Option.bind_some, Option.map_some, List.map_cons, List.map_nil, List.cons_append, List.nil_append, List.replicate_succ, List.replicate_zero, List.getElem?_cons_zero, List.getElem?_cons_succ, List.length_cons, List.length_nil, List.set_cons_zero, List.set_cons_succ, isOwn, if_true, reduceIte, Bool.false_eq_true, Nat.reduceAdd, atI_0, atI_1, ixN_0, ixN_1, gt_int, lt_int, le_int, ge_int, add_int, sub_int, eq_int, ne_int, eq_str, ne_str, decide_true, decide_false, Nat.zero_add, g, hg, ll', i0, i1, nm, hn, t1, pl, hp, cF, e0, hf, rd, n2, eq_self, Bool.false_or, Bool.true_or, Bool.or_true, Bool.false_and, Bool.true_and, Bool.and_false, Bool.and_true, Bool.not_true, Bool.not_false]
    · simp only [seqS, ifS, boolE, binE, unE, appE, ixOwnE, popOwnE, lenOwnE, cE, varE, retS, retNS, asgS, asgOwnS, parS, parOwnS, appendS, dropS, nopS, forS, forGo, seqI, range1I, range2I, enumI, rangeL, callE, callIO, callL, consA, nilA, nameT, tupT, consT, nilT, ownIxT, andE, orE, notE, andT, orT, notT, chainE, ifE, slE, someO, noO, lstE, lstF, appL, methE, isStrD, raiseS, rsIO, rsOf, own0, ofOpt, R.bind_ok, R.bind_er, R.bindS_ok, R.bindS_er, Option.bind_some, Option.map_some, List.map_cons, List.map_nil, List.cons_append, List.nil_append, List.replicate_succ, List.replicate_zero, List.getElem?_cons_zero, List.getElem?_cons_succ, List.length_cons, List.length_nil, List.set_cons_zero, List.set_cons_succ, isOwn, if_true, reduceIte, Bool.false_eq_true, Nat.reduceAdd, atI_0, atI_1, ixN_0, ixN_1, gt_int, lt_int, le_int, ge_int, add_int, sub_int, eq_int, ne_int, eq_str, ne_str, decide_true, decide_false, Nat.zero_add, g, hg, Bool.true_or]
  | p0 :: p1 :: q :: r, _, ho =>
    have i0 := ix_sd (p0 :: p1 :: q :: r) 0 p0 rfl
    have i1 := ix_sd (p0 :: p1 :: q :: r) 1 p1 rfl
    have sl := sl_two ((p0 :: p1 :: q :: r).map sd) (by simp only [List.map_cons, List.length_cons]; omega)
    have eL : ((p0 :: p1 :: q :: r).map sd).drop 2 = (q :: r).map sd := rfl
    rw [eL] at sl
    have g2 := x_can_be_game (q :: r) (List.cons_ne_nil _ _) ho.rest
    have q1 := ho.len p1 (by simp)
    have rd := x_can_be_round p1 q1
    have e0 : decide (S p0 = S FIX) = decide (p0 = FIX) := S_eq p0 FIX
    have e1 : decide (S p1 = ("" : Str)) = decide (p1 = []) := S_eq p1 []
    have h3 : 3 ≤ (p0 :: p1 :: q :: r).length := by simp only [List.length_cons]; omega
    have eq : begin2 (p0 :: p1 :: q :: r) = false := rfl
    have eq2 : beginF (p0 :: p1 :: q :: r) = (decide (p0 = FIX) && (!decide (p1 = []) && (isRnd p1 && canGame (q :: r)))) := rfl
    rw [eq, eq2]
    generalize (p0 :: p1 :: q :: r).length = m at *
    have n1 : ¬ ((m : Int) = 2) := by omega
    have n2 : ¬ ((m : Int) < 2) := by omega
    unfold cb1
    generalize ((q :: r).map sd) = L' at *
    generalize ((p0 :: p1 :: q :: r).map sd) = L at *
    rw [show ((0 : Nat) : Int) = 0 from rfl] at i0
    rw [show ((1 : Nat) : Int) = 1 from rfl] at i1
    cases hg : canGame (p0 :: p1 :: q :: r)
    · cases hf : decide (p0 = FIX) <;> cases he : decide (p1 = []) <;> cases hr : isRnd p1 <;>
        simp only [seqS, ifS, boolE, binE, unE, appE, ixOwnE, popOwnE, lenOwnE, cE, varE, retS, retNS, asgS, asgOwnS, parS, parOwnS, appendS, dropS, nopS, forS, forGo, seqI, range1I, range2I, enumI, rangeL, callE, callIO, callL, consA, nilA, nameT, tupT, consT, nilT, ownIxT, andE, orE, notE, andT, orT, notT, chainE, ifE, slE, someO, noO, lstE, lstF, appL, methE, isStrD, raiseS, rsIO, rsOf, own0, ofOpt, R.bind_ok, R.bind_er, R.bindS_ok, R.bindS_er, Option.bind_some, Option.map_some, List.map_cons, List.map_nil, List.cons_append, List.nil_append, List.replicate_succ, List.replicate_zero, List.getElem?_cons_zero, List.getElem?_cons_succ, List.length_cons, List.length_nil, List.set_cons_zero, List.set_cons_succ, isOwn, if_true, reduceIte, Bool.false_eq_true, Nat.reduceAdd, atI_0, atI_1, ixN_0, ixN_1, gt_int, lt_int, le_int, ge_int, add_int, sub_int, eq_int, ne_int, eq_str, ne_str, decide_true, decide_false, Nat.zero_add, g, hg, ll, i0, i1, cF, e0, hf, e1, he, hr, rd, n1, n2, sl, g2, eq_self, Bool.false_or, Bool.true_or, Bool.or_true, Bool.false_and, Bool.true_and, Bool.and_false, Bool.and_true, Bool.not_true, Bool.not_false]
    · simp only [seqS, ifS, boolE, binE, unE, appE, ixOwnE, popOwnE, lenOwnE, cE, varE, retS, retNS, asgS, asgOwnS, parS, parOwnS, appendS, dropS, nopS, forS, forGo, seqI, range1I, range2I, enumI, rangeL, callE, callIO, callL, consA, nilA, nameT, tupT, consT, nilT, ownIxT, andE, orE, notE, andT, orT, notT, chainE, ifE, slE, someO, noO, lstE, lstF, appL, methE, isStrD, raiseS, rsIO, rsOf, own0, ofOpt, R.bind_ok, R.bind_er, R.bindS_ok, R.bindS_er, Option.bind_some, Option.map_some, List.map_cons, List.map_nil, List.cons_append, List.nil_append, List.replicate_succ, List.replicate_zero, List.getElem?_cons_zero, List.getElem?_cons_succ, List.length_cons, List.length_nil, List.set_cons_zero, List.set_cons_succ, isOwn, if_true, reduceIte, Bool.false_eq_true, Nat.reduceAdd, atI_0, atI_1, ixN_0, ixN_1, gt_int, lt_int, le_int, ge_int, add_int, sub_int, eq_int, ne_int, eq_str, ne_str, decide_true, decide_false, Nat.zero_add, g, hg, Bool.true_or]
theorem parts_ne (a : List Nat) : parts a ≠ [] := by
  have : ∀ (sep a acc : List Nat) (k : Nat), TL.spl sep k acc a ≠ [] := by
    intro sep a
    induction a with
    | nil => intro acc k; cases k <;> simp [TL.spl]
    | cons c r ih =>
      intro acc k
      cases k with
      | zero =>
        unfold TL.spl
        split
        · exact List.cons_ne_nil _ _
        · exact ih _ _
      | succ k =>
        unfold TL.spl
        exact ih _ _
  exact this [32] a [] 0
theorem x_can_begin {a : List Nat} (hl : a.length ≤ 600) (ha : asc a = true) : f_can_begin [.str (S a)] = .ok (.bl (beginOf (parts a))) := by
  have s1 : splitF (.str (S a)) [.str (" " : Str)] = some (.lst ((parts a).map sd)) := split_ok a (by omega)
  have e1 := cb1_ok (.d (.str (S a))) (parts a) (parts_ne a) (parts_ok hl ha)
  have e2 : ∀ ρ, (seqS (asgS (methE splitF (varE 0) (consA (cE (.str " ")) nilA)) (nameT 1)) cb1) ρ = g_can_begin ρ := fun _ => rfl
  unfold f_can_begin runP
  show rsOf (g_can_begin [.d (.str (S a)), .un]) = _
  rw [← e2, ← e1]
  congr 1
  generalize cb1 = X
  simp only [seqS, ifS, boolE, binE, unE, appE, ixOwnE, popOwnE, lenOwnE, cE, varE, retS, retNS, asgS, asgOwnS, parS, parOwnS, appendS, dropS, nopS, forS, forGo, seqI, range1I, range2I, enumI, rangeL, callE, callIO, callL, consA, nilA, nameT, tupT, consT, nilT, ownIxT, andE, orE, notE, andT, orT, notT, chainE, ifE, slE, someO, noO, lstE, lstF, appL, methE, isStrD, raiseS, rsIO, rsOf, own0, ofOpt, R.bind_ok, R.bind_er, R.bindS_ok, R.bindS_er, Option.bind_some, Option.map_some, List.map_cons, List.map_nil, List.cons_append, List.nil_append, List.replicate_succ, List.replicate_zero, List.getElem?_cons_zero, List.getElem?_cons_succ, List.length_cons, List.length_nil, List.set_cons_zero, List.set_cons_succ, isOwn, if_true, reduceIte, Bool.false_eq_true, Nat.reduceAdd, atI_0, atI_1, ixN_0, ixN_1, gt_int, lt_int, le_int, ge_int, add_int, sub_int, eq_int, ne_int, eq_str, ne_str, decide_true, decide_false, Nat.zero_add, s1]
/-! the law's -/
theorem ne_nilL {xs : List D} {k c : Nat} (h : FDs xs k c) (hk : k ≤ 60) : neF (.lst xs) (.lst []) = some (.bl (!xs.isEmpty)) := by
  obtain ⟨ps, q1, q2, q3, q4⟩ := h
  have e : neF (.lst xs) (.lst []) = eqPF true (.lst xs) (.lst []) := rfl
  have p1 : D.toP (.lst xs) = some (.list ps) := by
    show (D.toPs xs).map _ = _
    rw [q1]
    rfl
  have s1 : SeqAt.shaped (.list ps) = true := by
    show (PyData.canLayAll0 ps && decide (PyData.depthAll ps + 1 ≤ 64)) = true
    rw [fineAll_lay q2, decide_eq_true (by omega)]
    rfl
  have s2 : SeqAt.shaped (.list []) = true := by decide
  rw [e]
  unfold eqPF
  rw [p1]
  show (if (SeqAt.shaped (.list ps) && SeqAt.shaped (.list [])) = true then _ else _) = _
  rw [s1, s2]
  have : xs.isEmpty = ps.isEmpty := by
    cases xs with
    | nil => cases q1; rfl
    | cons d r =>
      have q1' : (match D.toP d, D.toPs r with | some p, some ps => some (p :: ps) | _, _ => none) = some ps := q1
      split at q1'
      · cases q1'; rfl
      · cases q1'
  rw [this]
  cases ps <;> rfl
theorem fds_sd {ws : List (List Nat)} (hl : ∀ w ∈ ws, w.length ≤ 1000) (ha : ∀ w ∈ ws, asc w = true) : ∃ c, FDs (ws.map sd) 0 c := by
  induction ws with
  | nil => exact ⟨0, FDs.nil⟩
  | cons w ws ih =>
    obtain ⟨c, hc⟩ := ih (fun v h => hl v (List.mem_cons_of_mem _ h)) (fun v h => ha v (List.mem_cons_of_mem _ h))
    exact ⟨_, FDs.cons (fdS (hl w List.mem_cons_self) (ha w List.mem_cons_self)) hc⟩
/-- the law's lists of verbs -/
def vs4 : List (List Nat) := [verb 2, verb 1, verb 0, LEAVES]
def vs3 : List (List Nat) := [verb 2, verb 1, verb 0]
def VsOk (vs : List (List Nat)) : Prop := vs = vs3 ∨ vs = vs4
theorem pre_lc {vs : List (List Nat)} (hv : VsOk vs) {L : List D} {p1 : List Nat} (i1 : ixF (.lst L) (.int 1) = some (.str (S p1))) (hp : p1.length ≤ 600) :
    lcE [2] (seqI (varE 1)) (nameT 2) (boolE (binE eqF (slE (varE 2) noO (someO (appE lenF (consA (binE ixF (varE 0) (cE (.int 1))) nilA)))) (binE ixF (varE 0) (cE (.int 1))))) (varE 2) [.d (.lst L), .d (.lst (vs.map sd)), .un] = .ok ((vs.filter (pre p1)).map sd) [.d (.lst L), .d (.lst (vs.map sd)), .un] := by
  have hw : ∀ w ∈ vs, w.length ≤ 10 := by rcases hv with rfl | rfl <;> decide
  have hn : vs.length ≤ 4 := by rcases hv with rfl | rfl <;> decide
  refine (lcE_pure (vs := [2]) (gi := seqI (varE 1)) (preD p1) id (items := vs.map sd) (ρ1 := [.d (.lst L), .d (.lst (vs.map sd)), .un]) rfl rfl (by rw [List.length_map]; unfold lim; omega) rfl ?_).trans (by rw [List.map_id, List.filter_map]; rfl)
  intro d hd
  obtain ⟨w, hw', rfl⟩ := List.mem_map.mp hd
  refine ⟨[.d (.lst L), .d (.lst (vs.map sd)), .d (sd w)], rfl, ?_, rfl, fun _ => rfl⟩
  have e1 := lenS p1 (by omega)
  have e2 : slF (sd w) none (some (p1.length : Nat)) = some (.str (S (w.take p1.length))) := cut_to w p1.length (by have := hw w hw'; omega)
  have e3 : decide (S (w.take p1.length) = S p1) = preD p1 (sd w) := S_eq _ _
  generalize (vs.map sd) = L' at *
  simp only [seqS, ifS, boolE, binE, unE, appE, ixOwnE, popOwnE, lenOwnE, cE, varE, retS, retNS, asgS, asgOwnS, parS, parOwnS, appendS, dropS, nopS, forS, forGo, seqI, range1I, range2I, enumI, rangeL, callE, callIO, callL, consA, nilA, nameT, tupT, consT, nilT, ownIxT, andE, orE, notE, andT, orT, notT, chainE, ifE, slE, someO, noO, lstE, lstF, appL, methE, isStrD, raiseS, rsIO, rsOf, own0, ofOpt, R.bind_ok, R.bind_er, R.bindS_ok, R.bindS_er, Option.bind_some, Option.map_some, List.map_cons, List.map_nil, List.cons_append, List.nil_append, List.replicate_succ, List.replicate_zero, List.getElem?_cons_zero, List.getElem?_cons_succ, List.length_cons, List.length_nil, List.set_cons_zero, List.set_cons_succ, isOwn, if_true, reduceIte, Bool.false_eq_true, Nat.reduceAdd, atI_0, atI_1, ixN_0, ixN_1, gt_int, lt_int, le_int, ge_int, add_int, sub_int, eq_int, ne_int, eq_str, ne_str, decide_true, decide_false, Nat.zero_add, i1, e1, e2, e3]
end K12
end L2
set_option linter.all false
set_option maxRecDepth 100000
set_option maxHeartbeats 4000000
namespace L2
namespace K12
open PySem PySem.Spec PL TL
open _root_.SX (S S_len S_cat S_tl S_inj split_S join_S num_S int_S)
/-! what can begin an event's text: the law's -/
def canTold (vs : List (List Nat)) : List (List Nat) → Bool
  | [p0] => canName p0
  | [p0, p1] => isName p0 && vs.any (pre p1)
  | [p0, p1, p2] => isName p0 && (isVerb p1 && (canName p2 && !same12 p2 p0))
  | _ => false
theorem told3 (ps : List (List Nat)) : canTold vs3 ps = canGame ps := by
  match ps with
  | [] => rfl
  | [p0] => rfl
  | [p0, p1] =>
    show (isName p0 && (pre p1 (verb 2) || (pre p1 (verb 1) || (pre p1 (verb 0) || false)))) = (isName p0 && (pre p1 (verb 0) || (pre p1 (verb 1) || pre p1 (verb 2))))
    cases pre p1 (verb 0) <;> cases pre p1 (verb 1) <;> cases pre p1 (verb 2) <;> rfl
  | [p0, p1, p2] => rfl
  | p0 :: p1 :: p2 :: p3 :: r => rfl
theorem told4 (ps : List (List Nat)) : canTold vs4 ps = (canGame ps || begin2 ps) := by
  match ps with
  | [] => rfl
  | [p0] => exact (Bool.or_false _).symm
  | [p0, p1] =>
    show (isName p0 && (pre p1 (verb 2) || (pre p1 (verb 1) || (pre p1 (verb 0) || (pre p1 LEAVES || false))))) = ((isName p0 && (pre p1 (verb 0) || (pre p1 (verb 1) || pre p1 (verb 2)))) || (isName p0 && pre p1 LEAVES))
    cases isName p0 <;> cases pre p1 (verb 0) <;> cases pre p1 (verb 1) <;> cases pre p1 (verb 2) <;> cases pre p1 LEAVES <;> rfl
  | [p0, p1, p2] => exact (Bool.or_false _).symm
  | p0 :: p1 :: p2 :: p3 :: r => rfl
theorem verb_leaves {p : List Nat} (h : isVerb p = true) : decide (p = LEAVES) = false := by
  obtain ⟨t, ht, rfl⟩ := verb_of h
  have : t = 0 ∨ t = 1 ∨ t = 2 := by omega
  rcases this with e | e | e <;> subst e <;> decide
theorem notin_vs {vs : List (List Nat)} (hv : VsOk vs) (p : List Nat) : ∃ b, notInF (.str (S p)) (.lst (vs.map sd)) = some (.bl b) ∧ (b || decide (p = LEAVES)) = !isVerb p := by
  have c : ∀ t, decide (verb t = p) = decide (p = verb t) := fun t => decide_eq_decide.mpr eq_comm
  have cl : decide (LEAVES = p) = decide (p = LEAVES) := decide_eq_decide.mpr eq_comm
  rcases hv with rfl | rfl
  · refine ⟨!isVerb p, ?_, ?_⟩
    · show some (D.bl (!((S (verb 2) == S p) || ((S (verb 1) == S p) || ((S (verb 0) == S p) || false))))) = _
      rw [S_beq, S_beq, S_beq, Bool.or_false, c, c, c]
      unfold isVerb
      cases decide (p = verb 0) <;> cases decide (p = verb 1) <;> cases decide (p = verb 2) <;> rfl
    · cases h : isVerb p
      · rfl
      · rw [verb_leaves h]; rfl
  · refine ⟨!(isVerb p || decide (p = LEAVES)), ?_, ?_⟩
    · show some (D.bl (!((S (verb 2) == S p) || ((S (verb 1) == S p) || ((S (verb 0) == S p) || ((S LEAVES == S p) || false)))))) = _
      rw [S_beq, S_beq, S_beq, S_beq, Bool.or_false, c, c, c, cl]
      unfold isVerb
      cases decide (p = verb 0) <;> cases decide (p = verb 1) <;> cases decide (p = verb 2) <;> cases decide (p = LEAVES) <;> rfl
    · cases h : isVerb p
      · cases decide (p = LEAVES) <;> rfl
      · rw [verb_leaves h]; rfl
theorem filt_any (vs : List (List Nat)) (q : List Nat → Bool) : (!((vs.filter q).map sd).isEmpty) = vs.any q := by
  induction vs with
  | nil => rfl
  | cons v vs ih =>
    rw [List.any_cons, List.filter_cons]
    cases q v
    · rw [Bool.false_or, ← ih]; rfl
    · rfl
theorem empty_name {p : List Nat} (h : decide (p = []) = true) : isName p = false := by
  rw [of_decide_eq_true h]
  rfl
theorem x_l_can_be_told {vs : List (List Nat)} (hv : VsOk vs) (ps : List (List Nat)) (h0 : ps ≠ []) (ho : PartsOk ps) : f_l_can_be_told [.lst (ps.map sd), .lst (vs.map sd)] = .ok (.bl (canTold vs ps)) := by
  have nm : ∀ p ∈ ps, f_l_is_name [.str (S p)] = .ok (.bl (isName p)) := fun p hp => x_l_is_name (.str (S p)) (okS' (by have := ho.len p hp; omega) (ho.as p hp))
  match ps, h0, ho, nm with
  | [p0], _, ho, nm =>
    have i0 : ixF (.lst ([p0].map sd)) (.int 0) = some (.str (S p0)) := rfl
    have ll : lenF [.lst ([p0].map sd)] = some (.int 1) := rfl
    have nm0 := nm p0 (by simp)
    have e0 : decide (S p0 = ("" : Str)) = decide (p0 = []) := S_eq p0 []
    have n3 : ¬ ((3 : Int) < 1) := by decide
    have n1 : ¬ ((1 : Int) < 1) := by decide
    have eq : canTold vs [p0] = (decide (p0 = []) || isName p0) := canName_eq p0
    rw [eq]
    unfold f_l_can_be_told g_l_can_be_told runP
    generalize ([p0].map sd) = L at *
    cases he : decide (p0 = []) <;> cases hn : isName p0 <;>
      simp only [seqS, ifS, boolE, binE, unE, appE, ixOwnE, popOwnE, lenOwnE, cE, varE, retS, retNS, asgS, asgOwnS, parS, parOwnS, appendS, dropS, nopS, forS, forGo, seqI, range1I, range2I, enumI, rangeL, callE, callIO, callL, consA, nilA, nameT, tupT, consT, nilT, ownIxT, andE, orE, notE, andT, orT, notT, chainE, ifE, slE, someO, noO, lstE, lstF, appL, methE, isStrD, raiseS, rsIO, rsOf, own0, ofOpt, R.bind_ok, R.bind_er, R.bindS_ok, R.bindS_er, Option.bind_some, Option.map_some, List.map_cons, List.map_nil, List.cons_append, List.nil_append, List.replicate_succ, List.replicate_zero, List.getElem?_cons_zero, List.getElem?_cons_succ, List.length_cons, List.length_nil, List.set_cons_zero, List.set_cons_succ, isOwn, if_true, reduceIte, Bool.false_eq_true, Nat.reduceAdd, atI_0, atI_1, ixN_0, ixN_1, gt_int, lt_int, le_int, ge_int, add_int, sub_int, eq_int, ne_int, eq_str, ne_str, decide_true, decide_false, Nat.zero_add, ll, i0, nm0, e0, he, hn, n3, n1, Bool.not_true, Bool.not_false, Bool.true_or, Bool.false_or, Bool.or_true]
  | [p0, p1], _, ho, nm =>
    have i0 : ixF (.lst ([p0, p1].map sd)) (.int 0) = some (.str (S p0)) := rfl
    have i1 : ixF (.lst ([p0, p1].map sd)) (.int 1) = some (.str (S p1)) := rfl
    have ll : lenF [.lst ([p0, p1].map sd)] = some (.int 2) := rfl
    have q1 := ho.len p1 (by simp)
    have nm0 := nm p0 (by simp)
    have e0 : decide (S p0 = ("" : Str)) = decide (p0 = []) := S_eq p0 []
    have n3 : ¬ ((3 : Int) < 2) := by decide
    have n1 : ((1 : Int) < 2) := by decide
    have n2 : ¬ ((2 : Int) = 1) := by decide
    have lc := pre_lc hv i1 q1
    have wl : ∀ w ∈ vs, w.length ≤ 10 ∧ asc w = true := by rcases hv with rfl | rfl <;> decide
    obtain ⟨c, hc⟩ := fds_sd (ws := vs.filter (pre p1)) (fun w h => by have := (wl w (List.mem_filter.mp h).1).1; omega) (fun w h => (wl w (List.mem_filter.mp h).1).2)
    have nl := ne_nilL hc (by decide)
    rw [filt_any] at nl
    have eq : canTold vs [p0, p1] = (isName p0 && vs.any (pre p1)) := rfl
    rw [eq]
    unfold f_l_can_be_told g_l_can_be_told runP
    generalize ((vs.filter (pre p1)).map sd) = F at *
    generalize vs.map sd = VS at *
    generalize ([p0, p1].map sd) = L at *
    cases he : decide (p0 = [])
    · cases hn : isName p0
      · simp only [seqS, ifS, boolE, binE, unE, appE, ixOwnE, popOwnE, lenOwnE, cE, varE, retS, retNS, asgS, asgOwnS, parS, parOwnS, appendS, dropS, nopS, forS, forGo, seqI, range1I, range2I, enumI, rangeL, callE, callIO, callL, consA, nilA, nameT, tupT, consT, nilT, ownIxT, andE, orE, notE, andT, orT, notT, chainE, ifE, slE, someO, noO, lstE, lstF, appL, methE, isStrD, raiseS, rsIO, rsOf, own0, ofOpt, R.bind_ok, R.bind_er, R.bindS_ok, R.bindS_er, Option.bind_some, Option.map_some, List.map_cons, List.map_nil, List.cons_append, List.nil_append, List.replicate_succ, List.replicate_zero, List.getElem?_cons_zero, List.getElem?_cons_succ, List.length_cons, List.length_nil, List.set_cons_zero, List.set_cons_succ, isOwn, if_true, reduceIte, Bool.false_eq_true, Nat.reduceAdd, atI_0, atI_1, ixN_0, ixN_1, gt_int, lt_int, le_int, ge_int, add_int, sub_int, eq_int, ne_int, eq_str, ne_str, decide_true, decide_false, Nat.zero_add, ll, i0, nm0, e0, he, hn, n3, Bool.not_true, Bool.not_false, Bool.true_or, Bool.false_or, Bool.or_true, Bool.false_and]
      · simp only [seqS, ifS, boolE, binE, unE, appE, ixOwnE, popOwnE, lenOwnE, cE, varE, retS, retNS, asgS, asgOwnS, parS, parOwnS, appendS, dropS, nopS, forS, forGo, seqI, range1I, range2I, enumI, rangeL, callE, callIO, callL, consA, nilA, nameT, tupT, consT, nilT, ownIxT, andE, orE, notE, andT, orT, notT, chainE, ifE, slE, someO, noO, lstE, lstF, appL, methE, isStrD, raiseS, rsIO, rsOf, own0, ofOpt, R.bind_ok, R.bind_er, R.bindS_ok, R.bindS_er, Option.bind_some, Option.map_some, List.map_cons, List.map_nil, List.cons_append, List.nil_append, List.replicate_succ, List.replicate_zero, List.getElem?_cons_zero, List.getElem?_cons_succ, List.length_cons, List.length_nil, List.set_cons_zero, List.set_cons_succ, isOwn, if_true, reduceIte, Bool.false_eq_true, Nat.reduceAdd, atI_0, atI_1, ixN_0, ixN_1, gt_int, lt_int, le_int, ge_int, add_int, sub_int, eq_int, ne_int, eq_str, ne_str, decide_true, decide_false, Nat.zero_add, ll, i0, nm0, e0, he, hn, n3, n1, n2, lc, nl, eq_self, Nat.zero_le, Bool.not_true, Bool.not_false, Bool.true_or, Bool.false_or, Bool.or_true, Bool.false_and, Bool.true_and]
    · have hn := empty_name he
      simp only [seqS, ifS, boolE, binE, unE, appE, ixOwnE, popOwnE, lenOwnE, cE, varE, retS, retNS, asgS, asgOwnS, parS, parOwnS, appendS, dropS, nopS, forS, forGo, seqI, range1I, range2I, enumI, rangeL, callE, callIO, callL, consA, nilA, nameT, tupT, consT, nilT, ownIxT, andE, orE, notE, andT, orT, notT, chainE, ifE, slE, someO, noO, lstE, lstF, appL, methE, isStrD, raiseS, rsIO, rsOf, own0, ofOpt, R.bind_ok, R.bind_er, R.bindS_ok, R.bindS_er, Option.bind_some, Option.map_some, List.map_cons, List.map_nil, List.cons_append, List.nil_append, List.replicate_succ, List.replicate_zero, List.getElem?_cons_zero, List.getElem?_cons_succ, List.length_cons, List.length_nil, List.set_cons_zero, List.set_cons_succ, isOwn, if_true, reduceIte, Bool.false_eq_true, Nat.reduceAdd, atI_0, atI_1, ixN_0, ixN_1, gt_int, lt_int, le_int, ge_int, add_int, sub_int, eq_int, ne_int, eq_str, ne_str, decide_true, decide_false, Nat.zero_add, ll, i0, e0, he, hn, n3, n1, Bool.not_true, Bool.not_false, Bool.true_or, Bool.false_or, Bool.or_true, Bool.false_and]
  | [p0, p1, p2], _, ho, nm =>
    have i0 : ixF (.lst ([p0, p1, p2].map sd)) (.int 0) = some (.str (S p0)) := rfl
    have i1 : ixF (.lst ([p0, p1, p2].map sd)) (.int 1) = some (.str (S p1)) := rfl
    have i2 : ixF (.lst ([p0, p1, p2].map sd)) (.int 2) = some (.str (S p2)) := rfl
    have ll : lenF [.lst ([p0, p1, p2].map sd)] = some (.int 3) := rfl
    have q2 := ho.len p2 (by simp)
    have nm0 := nm p0 (by simp)
    have nm2 := nm p2 (by simp)
    have e0 : decide (S p0 = ("" : Str)) = decide (p0 = []) := S_eq p0 []
    have e2 : decide (S p2 = ("" : Str)) = decide (p2 = []) := S_eq p2 []
    have e3 : decide (S p1 = ("leaves" : Str)) = decide (p1 = LEAVES) := S_eq p1 LEAVES
    have e4 : decide (S p2 = S p0) = decide (p2 = p0) := S_eq p2 p0
    have l2 := lenS p2 (by omega)
    have n3 : ¬ ((3 : Int) < 3) := by decide
    have n1 : ((1 : Int) < 3) := by decide
    have n2 : ¬ ((3 : Int) = 1) := by decide
    have n4 : ¬ ((3 : Int) = 2) := by decide
    obtain ⟨b, nb, hb⟩ := notin_vs hv p1
    have eq : canTold vs [p0, p1, p2] = (isName p0 && (isVerb p1 && ((decide (p2 = []) || isName p2) && !same12 p2 p0))) := by
      rw [← canName_eq]
      rfl
    rw [eq]
    unfold f_l_can_be_told g_l_can_be_told runP
    generalize vs.map sd = VS at *
    generalize ([p0, p1, p2].map sd) = L at *
    cases he : decide (p0 = [])
    · cases hn : isName p0
      · simp only [seqS, ifS, boolE, binE, unE, appE, ixOwnE, popOwnE, lenOwnE, cE, varE, retS, retNS, asgS, asgOwnS, parS, parOwnS, appendS, dropS, nopS, forS, forGo, seqI, range1I, range2I, enumI, rangeL, callE, callIO, callL, consA, nilA, nameT, tupT, consT, nilT, ownIxT, andE, orE, notE, andT, orT, notT, chainE, ifE, slE, someO, noO, lstE, lstF, appL, methE, isStrD, raiseS, rsIO, rsOf, own0, ofOpt, R.bind_ok, R.bind_er, R.bindS_ok, R.bindS_er, Option.bind_some, Option.map_some, List.map_cons, List.map_nil, List.cons_append, List.nil_append, List.replicate_succ, List.replicate_zero, List.getElem?_cons_zero, List.getElem?_cons_succ, List.length_cons, List.length_nil, List.set_cons_zero, List.set_cons_succ, isOwn, if_true, reduceIte, Bool.false_eq_true, Nat.reduceAdd, atI_0, atI_1, ixN_0, ixN_1, gt_int, lt_int, le_int, ge_int, add_int, sub_int, eq_int, ne_int, eq_str, ne_str, decide_true, decide_false, Nat.zero_add, ll, i0, nm0, e0, he, hn, n3, Bool.not_true, Bool.not_false, Bool.true_or, Bool.false_or, Bool.or_true, Bool.false_and]
      · cases hw : isVerb p1
        · rw [hw] at hb
          cases b
          · rw [Bool.false_or] at hb
            simp only [seqS, ifS, boolE, binE, unE, appE, ixOwnE, popOwnE, lenOwnE, cE, varE, retS, retNS, asgS, asgOwnS, parS, parOwnS, appendS, dropS, nopS, forS, forGo, seqI, range1I, range2I, enumI, rangeL, callE, callIO, callL, consA, nilA, nameT, tupT, consT, nilT, ownIxT, andE, orE, notE, andT, orT, notT, chainE, ifE, slE, someO, noO, lstE, lstF, appL, methE, isStrD, raiseS, rsIO, rsOf, own0, ofOpt, R.bind_ok, R.bind_er, R.bindS_ok, R.bindS_er, Option.bind_some, Option.map_some, List.map_cons, List.map_nil, List.cons_append, List.nil_append, List.replicate_succ, List.replicate_zero, List.getElem?_cons_zero, List.getElem?_cons_succ, List.length_cons, List.length_nil, List.set_cons_zero, List.set_cons_succ, isOwn, if_true, reduceIte, Bool.false_eq_true, Nat.reduceAdd, atI_0, atI_1, ixN_0, ixN_1, gt_int, lt_int, le_int, ge_int, add_int, sub_int, eq_int, ne_int, eq_str, ne_str, decide_true, decide_false, Nat.zero_add, ll, i0, i1, nm0, e0, he, hn, n3, n1, n2, n4, nb, e3, hb, Bool.not_true, Bool.not_false, Bool.true_or, Bool.false_or, Bool.or_true, Bool.false_and, Bool.true_and]
          · simp only [seqS, ifS, boolE, binE, unE, appE, ixOwnE, popOwnE, lenOwnE, cE, varE, retS, retNS, asgS, asgOwnS, parS, parOwnS, appendS, dropS, nopS, forS, forGo, seqI, range1I, range2I, enumI, rangeL, callE, callIO, callL, consA, nilA, nameT, tupT, consT, nilT, ownIxT, andE, orE, notE, andT, orT, notT, chainE, ifE, slE, someO, noO, lstE, lstF, appL, methE, isStrD, raiseS, rsIO, rsOf, own0, ofOpt, R.bind_ok, R.bind_er, R.bindS_ok, R.bindS_er, Option.bind_some, Option.map_some, List.map_cons, List.map_nil, List.cons_append, List.nil_append, List.replicate_succ, List.replicate_zero, List.getElem?_cons_zero, List.getElem?_cons_succ, List.length_cons, List.length_nil, List.set_cons_zero, List.set_cons_succ, isOwn, if_true, reduceIte, Bool.false_eq_true, Nat.reduceAdd, atI_0, atI_1, ixN_0, ixN_1, gt_int, lt_int, le_int, ge_int, add_int, sub_int, eq_int, ne_int, eq_str, ne_str, decide_true, decide_false, Nat.zero_add, ll, i0, i1, nm0, e0, he, hn, n3, n1, n2, n4, nb, Bool.not_true, Bool.not_false, Bool.true_or, Bool.false_or, Bool.or_true, Bool.false_and, Bool.true_and]
        · have hlv := verb_leaves hw
          rw [hw, hlv, Bool.or_false] at hb
          cases b with
          | true => cases hb
          | false =>
            cases h2 : decide (p2 = [])
            · cases hm : isName p2
              · simp only [seqS, ifS, boolE, binE, unE, appE, ixOwnE, popOwnE, lenOwnE, cE, varE, retS, retNS, asgS, asgOwnS, parS, parOwnS, appendS, dropS, nopS, forS, forGo, seqI, range1I, range2I, enumI, rangeL, callE, callIO, callL, consA, nilA, nameT, tupT, consT, nilT, ownIxT, andE, orE, notE, andT, orT, notT, chainE, ifE, slE, someO, noO, lstE, lstF, appL, methE, isStrD, raiseS, rsIO, rsOf, own0, ofOpt, R.bind_ok, R.bind_er, R.bindS_ok, R.bindS_er, Option.bind_some, Option.map_some, List.map_cons, List.map_nil, List.cons_append, List.nil_append, List.replicate_succ, List.replicate_zero, List.getElem?_cons_zero, List.getElem?_cons_succ, List.length_cons, List.length_nil, List.set_cons_zero, List.set_cons_succ, isOwn, if_true, reduceIte, Bool.false_eq_true, Nat.reduceAdd, atI_0, atI_1, ixN_0, ixN_1, gt_int, lt_int, le_int, ge_int, add_int, sub_int, eq_int, ne_int, eq_str, ne_str, decide_true, decide_false, Nat.zero_add, ll, i0, i1, i2, nm0, nm2, e0, he, hn, n3, n1, n2, n4, nb, e3, hlv, e2, h2, hm, Bool.not_true, Bool.not_false, Bool.true_or, Bool.false_or, Bool.or_true, Bool.false_and, Bool.true_and]
              · have hl := isName_len hm
                unfold same12
                have lt : decide (((p2.length : Nat) : Int) < 12) = !decide (p2.length = 12) := by
                  by_cases h : p2.length = 12
                  · rw [decide_eq_true h, decide_eq_false (by omega)]; rfl
                  · rw [decide_eq_false h, decide_eq_true (by omega)]; rfl
                cases h4 : decide (p2 = p0) <;> cases h12 : decide (p2.length = 12) <;>
                  simp only [seqS, ifS, boolE, binE, unE, appE, ixOwnE, popOwnE, lenOwnE, cE, varE, retS, retNS, asgS, asgOwnS, parS, parOwnS, appendS, dropS, nopS, forS, forGo, seqI, range1I, range2I, enumI, rangeL, callE, callIO, callL, consA, nilA, nameT, tupT, consT, nilT, ownIxT, andE, orE, notE, andT, orT, notT, chainE, ifE, slE, someO, noO, lstE, lstF, appL, methE, isStrD, raiseS, rsIO, rsOf, own0, ofOpt, R.bind_ok, R.bind_er, R.bindS_ok, R.bindS_er, Option.bind_some, Option.map_some, List.map_cons, List.map_nil, List.cons_append, List.nil_append, List.replicate_succ, List.replicate_zero, List.getElem?_cons_zero, List.getElem?_cons_succ, List.length_cons, List.length_nil, List.set_cons_zero, List.set_cons_succ, isOwn, if_true, reduceIte, Bool.false_eq_true, Nat.reduceAdd, atI_0, atI_1, ixN_0, ixN_1, gt_int, lt_int, le_int, ge_int, add_int, sub_int, eq_int, ne_int, eq_str, ne_str, decide_true, decide_false, Nat.zero_add, ll, i0, i1, i2, nm0, nm2, e0, he, hn, n3, n1, n2, n4, nb, e3, hlv, e2, h2, hm, e4, h4, l2, lt, h12, Bool.not_true, Bool.not_false, Bool.true_or, Bool.false_or, Bool.or_true, Bool.false_and, Bool.true_and, Bool.and_true, Bool.and_false]
            · have z : same12 p2 p0 = false := by
                rw [of_decide_eq_true h2]
                rfl
              simp only [seqS, ifS, boolE, binE, unE, appE, ixOwnE, popOwnE, lenOwnE, cE, varE, retS, retNS, asgS, asgOwnS, parS, parOwnS, appendS, dropS, nopS, forS, forGo, seqI, range1I, range2I, enumI, rangeL, callE, callIO, callL, consA, nilA, nameT, tupT, consT, nilT, ownIxT, andE, orE, notE, andT, orT, notT, chainE, ifE, slE, someO, noO, lstE, lstF, appL, methE, isStrD, raiseS, rsIO, rsOf, own0, ofOpt, R.bind_ok, R.bind_er, R.bindS_ok, R.bindS_er, Option.bind_some, Option.map_some, List.map_cons, List.map_nil, List.cons_append, List.nil_append, List.replicate_succ, List.replicate_zero, List.getElem?_cons_zero, List.getElem?_cons_succ, List.length_cons, List.length_nil, List.set_cons_zero, List.set_cons_succ, isOwn, if_true, reduceIte, Bool.false_eq_true, Nat.reduceAdd, atI_0, atI_1, ixN_0, ixN_1, gt_int, lt_int, le_int, ge_int, add_int, sub_int, eq_int, ne_int, eq_str, ne_str, decide_true, decide_false, Nat.zero_add, ll, i0, i1, i2, nm0, nm2, e0, he, hn, n3, n1, n2, n4, nb, e3, hlv, e2, h2, z, Bool.not_true, Bool.not_false, Bool.true_or, Bool.false_or, Bool.or_true, Bool.false_and, Bool.true_and]
    · have hn := empty_name he
      simp only [seqS, ifS, boolE, binE, unE, appE, ixOwnE, popOwnE, lenOwnE, cE, varE, retS, retNS, asgS, asgOwnS, parS, parOwnS, appendS, dropS, nopS, forS, forGo, seqI, range1I, range2I, enumI, rangeL, callE, callIO, callL, consA, nilA, nameT, tupT, consT, nilT, ownIxT, andE, orE, notE, andT, orT, notT, chainE, ifE, slE, someO, noO, lstE, lstF, appL, methE, isStrD, raiseS, rsIO, rsOf, own0, ofOpt, R.bind_ok, R.bind_er, R.bindS_ok, R.bindS_er, Option.bind_some, Option.map_some, List.map_cons, List.map_nil, List.cons_append, List.nil_append, List.replicate_succ, List.replicate_zero, List.getElem?_cons_zero, List.getElem?_cons_succ, List.length_cons, List.length_nil, List.set_cons_zero, List.set_cons_succ, isOwn, if_true, reduceIte, Bool.false_eq_true, Nat.reduceAdd, atI_0, atI_1, ixN_0, ixN_1, gt_int, lt_int, le_int, ge_int, add_int, sub_int, eq_int, ne_int, eq_str, ne_str, decide_true, decide_false, Nat.zero_add, ll, i0, e0, he, hn, n3, n1, Bool.not_true, Bool.not_false, Bool.true_or, Bool.false_or, Bool.or_true, Bool.false_and]
  | p0 :: p1 :: p2 :: p3 :: r, _, ho, nm =>
    have ll := len_sd (p0 :: p1 :: p2 :: p3 :: r)
    have h4 : 4 ≤ (p0 :: p1 :: p2 :: p3 :: r).length := by simp only [List.length_cons]; omega
    have eq : canTold vs (p0 :: p1 :: p2 :: p3 :: r) = false := rfl
    rw [eq]
    generalize (p0 :: p1 :: p2 :: p3 :: r).length = m at *
    have n3 : (3 : Int) < m := by omega
    unfold f_l_can_be_told g_l_can_be_told runP
    generalize vs.map sd = VS at *
    generalize ((p0 :: p1 :: p2 :: p3 :: r).map sd) = L at *
    simp only [seqS, ifS, boolE, binE, unE, appE, ixOwnE, popOwnE, lenOwnE, cE, varE, retS, retNS, asgS, asgOwnS, parS, parOwnS, appendS, dropS, nopS, forS, forGo, seqI, range1I, range2I, enumI, rangeL, callE, callIO, callL, consA, nilA, nameT, tupT, consT, nilT, ownIxT, andE, orE, notE, andT, orT, notT, chainE, ifE, slE, someO, noO, lstE, lstF, appL, methE, isStrD, raiseS, rsIO, rsOf, own0, ofOpt, R.bind_ok, R.bind_er, R.bindS_ok, R.bindS_er, Option.bind_some, Option.map_some, List.map_cons, List.map_nil, List.cons_append, List.nil_append, List.replicate_succ, List.replicate_zero, List.getElem?_cons_zero, List.getElem?_cons_succ, List.length_cons, List.length_nil, List.set_cons_zero, List.set_cons_succ, isOwn, if_true, reduceIte, Bool.false_eq_true, Nat.reduceAdd, atI_0, atI_1, ixN_0, ixN_1, gt_int, lt_int, le_int, ge_int, add_int, sub_int, eq_int, ne_int, eq_str, ne_str, decide_true, decide_false, Nat.zero_add, ll, n3]
end K12
end L2
set_option linter.all false
set_option maxRecDepth 100000
set_option maxHeartbeats 4000000
namespace L2
namespace K12
open PySem PySem.Spec PL TL
open _root_.SX (S S_len S_cat S_tl S_inj split_S join_S num_S int_S)
/-! what can begin an event's text: the law's, all of it; where a text is no longer read -/
theorem lc100_3 (a b : SV) : lcE [2] (range1I (consA (cE (.int 100)) nilA)) (nameT 2) yesT (appE strIF (consA (varE 2) nilA)) [a, b, .un] = .ok strs100 [a, b, .un] := by
  have rg : range1I (consA (cE (.int 100)) nilA) [a, b, .un] = .ok ((List.range 100).map fun (i : Nat) => D.int i) [a, b, .un] := range1_nat (n := 100) rfl (by decide)
  let f : D → D := fun d => match d with | .int i => .str (S (numL i.toNat)) | d => d
  refine (lcE_pure (vs := [2]) (fun _ => true) f rg rfl (by rw [List.length_map, List.length_range]; decide) rfl fun d hd => ?_).trans ?_
  · obtain ⟨n, hn, rfl⟩ := List.mem_map.mp hd
    have := List.mem_range.mp hn
    have s1 := strI_ok n (by omega)
    refine ⟨[a, b, .d (.int n)], rfl, rfl, rfl, fun _ => ?_⟩
    simp only [seqS, ifS, boolE, binE, unE, appE, ixOwnE, popOwnE, lenOwnE, cE, varE, retS, retNS, asgS, asgOwnS, parS, parOwnS, appendS, dropS, nopS, forS, forGo, seqI, range1I, range2I, enumI, rangeL, callE, callIO, callL, consA, nilA, nameT, tupT, consT, nilT, ownIxT, andE, orE, notE, andT, orT, notT, chainE, ifE, slE, someO, noO, lstE, lstF, appL, methE, isStrD, raiseS, rsIO, rsOf, own0, ofOpt, R.bind_ok, R.bind_er, R.bindS_ok, R.bindS_er, Option.bind_some, Option.map_some, List.map_cons, List.map_nil, List.cons_append, List.nil_append, List.replicate_succ, List.replicate_zero, List.getElem?_cons_zero, List.getElem?_cons_succ, List.length_cons, List.length_nil, List.set_cons_zero, List.set_cons_succ, isOwn, if_true, reduceIte, Bool.false_eq_true, Nat.reduceAdd, atI_0, atI_1, ixN_0, ixN_1, gt_int, lt_int, le_int, ge_int, add_int, sub_int, eq_int, ne_int, eq_str, ne_str, decide_true, decide_false, Nat.zero_add, s1]
    rfl
  · rw [filt, List.map_map]
    rfl
def lb1 : GS := (seqS (ifS (boolE (callE 2 f_l_can_be_told (consA (varE 1) (consA (lstE (lstF (consA (cE (.str "beats")) (consA (cE (.str "draws")) (consA (cE (.str "yields")) (consA (cE (.str "leaves")) nilA)))))) nilA)))) (retS (cE (.bl true))) nopS)
    (seqS (ifS (orT (boolE (binE neF (binE ixF (varE 1) (cE (.int 0))) (cE (.str "fix")))) (orT (boolE (binE eqF (appE lenF (consA (varE 1) nilA)) (cE (.int 1)))) (andT (boolE (binE eqF (binE ixF (varE 1) (cE (.int 1))) (cE (.str "")))) (boolE (binE gtF (appE lenF (consA (varE 1) nilA)) (cE (.int 2))))))) (retS (cE (.bl false))) nopS)
    (seqS (ifS (andT (boolE (binE neF (binE ixF (varE 1) (cE (.int 1))) (cE (.str "")))) (boolE (binE notInF (binE ixF (varE 1) (cE (.int 1))) (lstE (lcE [2] (range1I (consA (cE (.int 100)) nilA)) (nameT 2) yesT (appE strIF (consA (varE 2) nilA))))))) (retS (cE (.bl false))) nopS)
    (retS (orE (binE eqF (appE lenF (consA (varE 1) nilA)) (cE (.int 2))) (callE 2 f_l_can_be_told (consA (slE (varE 1) (someO (cE (.int 2))) noO) (consA (lstE (lstF (consA (cE (.str "beats")) (consA (cE (.str "draws")) (consA (cE (.str "yields")) nilA))))) nilA))))))))
theorem lim34 : 3 ≤ lim ∧ 4 ≤ lim := by unfold lim; omega
theorem lb1_ok (x : SV) (ps : List (List Nat)) (h0 : ps ≠ []) (ho : PartsOk ps) : rsOf (lb1 [x, .d (.lst (ps.map sd)), .un]) = .ok (.bl (beginOf ps)) := by
  have g : f_l_can_be_told [.lst (ps.map sd), .lst [.str "beats", .str "draws", .str "yields", .str "leaves"]] = .ok (.bl (canTold vs4 ps)) := x_l_can_be_told (.inr rfl) ps h0 ho
  have ll := len_sd ps
  have lm := lim34.1
  have lm' := lim34.2
  unfold beginOf
  rw [← Bool.or_assoc, ← told4]
  match ps, h0, ho with
  | [p0], _, ho =>
    have eq2 : beginF [p0] = false := rfl
    have i0 := ix_sd [p0] 0 p0 rfl
    have ll' : lenF [.lst ([p0].map sd)] = some (.int 1) := rfl
    have e0 : decide (S p0 = ("fix" : Str)) = decide (p0 = FIX) := S_eq p0 FIX
    rw [eq2]
    unfold lb1
    generalize ([p0].map sd) = L at *
    rw [show ((0 : Nat) : Int) = 0 from rfl] at i0
    cases hg : canTold vs4 [p0] <;> cases hf : decide (p0 = FIX) <;> simp only [seqS, ifS, boolE, binE, unE, appE, ixOwnE, popOwnE, lenOwnE, cE, varE, retS, retNS, asgS, asgOwnS, parS, parOwnS, appendS, dropS, nopS, forS, forGo, seqI, range1I, range2I, enumI, rangeL, callE, callIO, callL, consA, nilA, nameT, tupT, consT, nilT, ownIxT, andE, orE, notE, andT, orT, notT, chainE, ifE, slE, someO, noO, lstE, lstF, appL, methE, isStrD, raiseS, rsIO, rsOf, own0, ofOpt, R.bind_ok, R.bind_er, R.bindS_ok, R.bindS_er, Option.bind_some, Option.map_some, List.map_cons, List.map_nil, List.cons_append, List.nil_append, List.replicate_succ, List.replicate_zero, List.getElem?_cons_zero, List.getElem?_cons_succ, List.length_cons, List.length_nil, List.set_cons_zero, List.set_cons_succ, isOwn, if_true, reduceIte, Bool.false_eq_true, Nat.reduceAdd, atI_0, atI_1, ixN_0, ixN_1, gt_int, lt_int, le_int, ge_int, add_int, sub_int, eq_int, ne_int, eq_str, ne_str, decide_true, decide_false, Nat.zero_add, g, hg, lm, lm', ll', i0, e0, hf, eq_self, Bool.not_true, Bool.not_false, Bool.or_false, Bool.false_or, Bool.true_or]
  | [p0, p1], _, ho =>
    have i0 := ix_sd [p0, p1] 0 p0 rfl
    have i1 := ix_sd [p0, p1] 1 p1 rfl
    have ll' : lenF [.lst ([p0, p1].map sd)] = some (.int 2) := rfl
    have n1 : ¬ ((2 : Int) = 1) := by decide
    have n2 : ¬ ((2 : Int) < 2) := by decide
    have e0 : decide (S p0 = ("fix" : Str)) = decide (p0 = FIX) := S_eq p0 FIX
    have e1 : decide (S p1 = ("" : Str)) = decide (p1 = []) := S_eq p1 []
    have lc := lc100_3 x (.d (.lst ([p0, p1].map sd)))
    have ni := notin100 p1
    have eq2 : beginF [p0, p1] = (decide (p0 = FIX) && (decide (p1 = []) || isRnd p1)) := rfl
    rw [eq2]
    unfold lb1
    generalize strs100 = X at *
    generalize ([p0, p1].map sd) = L at *
    rw [show ((0 : Nat) : Int) = 0 from rfl] at i0
    rw [show ((1 : Nat) : Int) = 1 from rfl] at i1
    cases hg : canTold vs4 [p0, p1]
    · cases hf : decide (p0 = FIX)
      · simp only [seqS, ifS, boolE, binE, unE, appE, ixOwnE, popOwnE, lenOwnE, cE, varE, retS, retNS, asgS, asgOwnS, parS, parOwnS, appendS, dropS, nopS, forS, forGo, seqI, range1I, range2I, enumI, rangeL, callE, callIO, callL, consA, nilA, nameT, tupT, consT, nilT, ownIxT, andE, orE, notE, andT, orT, notT, chainE, ifE, slE, someO, noO, lstE, lstF, appL, methE, isStrD, raiseS, rsIO, rsOf, own0, ofOpt, R.bind_ok, R.bind_er, R.bindS_ok, R.bindS_er, Option.bind_some, Option.map_some, List.map_cons, List.map_nil, List.cons_append, List.nil_append, List.replicate_succ, List.replicate_zero, List.getElem?_cons_zero, List.getElem?_cons_succ, List.length_cons, List.length_nil, List.set_cons_zero, List.set_cons_succ, isOwn, if_true, reduceIte, Bool.false_eq_true, Nat.reduceAdd, atI_0, atI_1, ixN_0, ixN_1, gt_int, lt_int, le_int, ge_int, add_int, sub_int, eq_int, ne_int, eq_str, ne_str, decide_true, decide_false, Nat.zero_add, g, hg, lm, lm', ll', i0, e0, hf, Bool.not_false, Bool.false_and, Bool.or_false, Bool.false_or]
      · cases he : decide (p1 = [])
        · cases hr : isRnd p1 <;>
            simp only [seqS, ifS, boolE, binE, unE, appE, ixOwnE, popOwnE, lenOwnE, cE, varE, retS, retNS, asgS, asgOwnS, parS, parOwnS, appendS, dropS, nopS, forS, forGo, seqI, range1I, range2I, enumI, rangeL, callE, callIO, callL, consA, nilA, nameT, tupT, consT, nilT, ownIxT, andE, orE, notE, andT, orT, notT, chainE, ifE, slE, someO, noO, lstE, lstF, appL, methE, isStrD, raiseS, rsIO, rsOf, own0, ofOpt, R.bind_ok, R.bind_er, R.bindS_ok, R.bindS_er, Option.bind_some, Option.map_some, List.map_cons, List.map_nil, List.cons_append, List.nil_append, List.replicate_succ, List.replicate_zero, List.getElem?_cons_zero, List.getElem?_cons_succ, List.length_cons, List.length_nil, List.set_cons_zero, List.set_cons_succ, isOwn, if_true, reduceIte, Bool.false_eq_true, Nat.reduceAdd, atI_0, atI_1, ixN_0, ixN_1, gt_int, lt_int, le_int, ge_int, add_int, sub_int, eq_int, ne_int, eq_str, ne_str, decide_true, decide_false, Nat.zero_add, g, hg, lm, lm', ll', i0, i1, e0, hf, e1, he, lc, ni, hr, n1, n2, eq_self, Bool.false_or, Bool.true_or, Bool.or_true, Bool.false_and, Bool.true_and, Bool.and_false, Bool.and_true, Bool.not_true, Bool.not_false]
        · simp only [seqS, ifS, boolE, binE, unE, appE, ixOwnE, popOwnE, lenOwnE, cE, varE, retS, retNS, asgS, asgOwnS, parS, parOwnS, appendS, dropS, nopS, forS, forGo, seqI, range1I, range2I, enumI, rangeL, callE, callIO, callL, consA, nilA, nameT, tupT, consT, nilT, ownIxT, andE, orE, notE, andT, orT, notT, chainE, ifE, slE, someO, noO, lstE, lstF, appL, methE, isStrD, raiseS, rsIO, rsOf, own0, ofOpt, R.bind_ok, R.bind_er, R.bindS_ok, R.bindS_er, Option.bind_some, Option.map_some, List.map_cons, List.map_nil, List.cons_append, List.nil_append, List.replicate_succ, List.replicate_zero, List.getElem?_cons_zero, List.getElem?_cons_succ, List.length_cons, List.length_nil, List.set_cons_zero, List.set_cons_succ, isOwn, if_true, reduceIte, Bool.false_eq_true, Nat.reduceAdd, atI_0, atI_1, ixN_0, ixN_1, gt_int, lt_int, le_int, ge_int, add_int, sub_int, eq_int, ne_int, eq_str, ne_str, decide_true, decide_false, Nat.zero_add, g, hg, lm, lm', ll', i0, i1, e0, hf, e1, he, n1, n2, eq_self, Bool.false_or, Bool.true_or, Bool.or_true, Bool.false_and, Bool.true_and, Bool.and_false, Bool.and_true, Bool.not_true, Bool.not_false]
    · simp only [seqS, ifS, boolE, binE, unE, appE, ixOwnE, popOwnE, lenOwnE, cE, varE, retS, retNS, asgS, asgOwnS, parS, parOwnS, appendS, dropS, nopS, forS, forGo, seqI, range1I, range2I, enumI, rangeL, callE, callIO, callL, consA, nilA, nameT, tupT, consT, nilT, ownIxT, andE, orE, notE, andT, orT, notT, chainE, ifE, slE, someO, noO, lstE, lstF, appL, methE, isStrD, raiseS, rsIO, rsOf, own0, ofOpt, R.bind_ok, R.bind_er, R.bindS_ok, R.bindS_er, Option.bind_some, Option.map_some, List.map_cons, List.map_nil, List.cons_append, List.nil_append, List.replicate_succ, List.replicate_zero, List.getElem?_cons_zero, List.getElem?_cons_succ, List.length_cons, List.length_nil, List.set_cons_zero, List.set_cons_succ, isOwn, if_true, reduceIte, Bool.false_eq_true, Nat.reduceAdd, atI_0, atI_1, ixN_0, ixN_1, gt_int, lt_int, le_int, ge_int, add_int, sub_int, eq_int, ne_int, eq_str, ne_str, decide_true, decide_false, Nat.zero_add, g, hg, lm, lm', Bool.true_or]
  | p0 :: p1 :: q :: r, _, ho =>
    have i0 := ix_sd (p0 :: p1 :: q :: r) 0 p0 rfl
    have i1 := ix_sd (p0 :: p1 :: q :: r) 1 p1 rfl
    have sl := sl_two ((p0 :: p1 :: q :: r).map sd) (by simp only [List.map_cons, List.length_cons]; omega)
    have eL : ((p0 :: p1 :: q :: r).map sd).drop 2 = (q :: r).map sd := rfl
    rw [eL] at sl
    have g2 : f_l_can_be_told [.lst ((q :: r).map sd), .lst [.str "beats", .str "draws", .str "yields"]] = .ok (.bl (canTold vs3 (q :: r))) := x_l_can_be_told (.inl rfl) (q :: r) (List.cons_ne_nil _ _) ho.rest
    rw [told3] at g2
    have e0 : decide (S p0 = ("fix" : Str)) = decide (p0 = FIX) := S_eq p0 FIX
    have e1 : decide (S p1 = ("" : Str)) = decide (p1 = []) := S_eq p1 []
    have h3 : 3 ≤ (p0 :: p1 :: q :: r).length := by simp only [List.length_cons]; omega
    have lc := lc100_3 x (.d (.lst ((p0 :: p1 :: q :: r).map sd)))
    have ni := notin100 p1
    have eq2 : beginF (p0 :: p1 :: q :: r) = (decide (p0 = FIX) && (!decide (p1 = []) && (isRnd p1 && canGame (q :: r)))) := rfl
    rw [eq2]
    generalize (p0 :: p1 :: q :: r).length = m at *
    have n1 : ¬ ((m : Int) = 1) := by omega
    have n2 : ((2 : Int) < m) := by omega
    have n3 : ¬ ((m : Int) = 2) := by omega
    unfold lb1
    generalize strs100 = X at *
    generalize ((q :: r).map sd) = L' at *
    generalize ((p0 :: p1 :: q :: r).map sd) = L at *
    rw [show ((0 : Nat) : Int) = 0 from rfl] at i0
    rw [show ((1 : Nat) : Int) = 1 from rfl] at i1
    cases hg : canTold vs4 (p0 :: p1 :: q :: r)
    · cases hf : decide (p0 = FIX)
      · simp only [seqS, ifS, boolE, binE, unE, appE, ixOwnE, popOwnE, lenOwnE, cE, varE, retS, retNS, asgS, asgOwnS, parS, parOwnS, appendS, dropS, nopS, forS, forGo, seqI, range1I, range2I, enumI, rangeL, callE, callIO, callL, consA, nilA, nameT, tupT, consT, nilT, ownIxT, andE, orE, notE, andT, orT, notT, chainE, ifE, slE, someO, noO, lstE, lstF, appL, methE, isStrD, raiseS, rsIO, rsOf, own0, ofOpt, R.bind_ok, R.bind_er, R.bindS_ok, R.bindS_er, Option.bind_some, Option.map_some, List.map_cons, List.map_nil, List.cons_append, List.nil_append, List.replicate_succ, List.replicate_zero, List.getElem?_cons_zero, List.getElem?_cons_succ, List.length_cons, List.length_nil, List.set_cons_zero, List.set_cons_succ, isOwn, if_true, reduceIte, Bool.false_eq_true, Nat.reduceAdd, atI_0, atI_1, ixN_0, ixN_1, gt_int, lt_int, le_int, ge_int, add_int, sub_int, eq_int, ne_int, eq_str, ne_str, decide_true, decide_false, Nat.zero_add, g, hg, lm, lm', i0, e0, hf, Bool.not_false, Bool.false_and, Bool.or_false, Bool.false_or]
      · cases he : decide (p1 = [])
        · cases hr : isRnd p1 <;>
            simp only [seqS, ifS, boolE, binE, unE, appE, ixOwnE, popOwnE, lenOwnE, cE, varE, retS, retNS, asgS, asgOwnS, parS, parOwnS, appendS, dropS, nopS, forS, forGo, seqI, range1I, range2I, enumI, rangeL, callE, callIO, callL, consA, nilA, nameT, tupT, consT, nilT, ownIxT, andE, orE, notE, andT, orT, notT, chainE, ifE, slE, someO, noO, lstE, lstF, appL, methE, isStrD, raiseS, rsIO, rsOf, own0, ofOpt, R.bind_ok, R.bind_er, R.bindS_ok, R.bindS_er, Option.bind_some, Option.map_some, List.map_cons, List.map_nil, List.cons_append, List.nil_append, List.replicate_succ, List.replicate_zero, List.getElem?_cons_zero, List.getElem?_cons_succ, List.length_cons, List.length_nil, List.set_cons_zero, List.set_cons_succ, isOwn, if_true, reduceIte, Bool.false_eq_true, Nat.reduceAdd, atI_0, atI_1, ixN_0, ixN_1, gt_int, lt_int, le_int, ge_int, add_int, sub_int, eq_int, ne_int, eq_str, ne_str, decide_true, decide_false, Nat.zero_add, g, hg, lm, lm', ll, i0, i1, e0, hf, e1, he, lc, ni, hr, n1, n2, n3, sl, g2, eq_self, Bool.false_or, Bool.true_or, Bool.or_true, Bool.false_and, Bool.true_and, Bool.and_false, Bool.and_true, Bool.not_true, Bool.not_false]
        · simp only [seqS, ifS, boolE, binE, unE, appE, ixOwnE, popOwnE, lenOwnE, cE, varE, retS, retNS, asgS, asgOwnS, parS, parOwnS, appendS, dropS, nopS, forS, forGo, seqI, range1I, range2I, enumI, rangeL, callE, callIO, callL, consA, nilA, nameT, tupT, consT, nilT, ownIxT, andE, orE, notE, andT, orT, notT, chainE, ifE, slE, someO, noO, lstE, lstF, appL, methE, isStrD, raiseS, rsIO, rsOf, own0, ofOpt, R.bind_ok, R.bind_er, R.bindS_ok, R.bindS_er, Option.bind_some, Option.map_some, List.map_cons, List.map_nil, List.cons_append, List.nil_append, List.replicate_succ, List.replicate_zero, List.getElem?_cons_zero, List.getElem?_cons_succ, List.length_cons, List.length_nil, List.set_cons_zero, List.set_cons_succ, isOwn, if_true, reduceIte, Bool.false_eq_true, Nat.reduceAdd, atI_0, atI_1, ixN_0, ixN_1, gt_int, lt_int, le_int, ge_int, add_int, sub_int, eq_int, ne_int, eq_str, ne_str, decide_true, decide_false, Nat.zero_add, g, hg, lm, lm', ll, i0, i1, e0, hf, e1, he, n1, n2, eq_self, Bool.false_or, Bool.true_or, Bool.or_true, Bool.false_and, Bool.true_and, Bool.and_false, Bool.and_true, Bool.not_true, Bool.not_false]
    · simp only [seqS, ifS, boolE, binE, unE, appE, ixOwnE, popOwnE, lenOwnE, cE, varE, retS, retNS, asgS, asgOwnS, parS, parOwnS, appendS, dropS, nopS, forS, forGo, seqI, range1I, range2I, enumI, rangeL, callE, callIO, callL, consA, nilA, nameT, tupT, consT, nilT, ownIxT, andE, orE, notE, andT, orT, notT, chainE, ifE, slE, someO, noO, lstE, lstF, appL, methE, isStrD, raiseS, rsIO, rsOf, own0, ofOpt, R.bind_ok, R.bind_er, R.bindS_ok, R.bindS_er, Option.bind_some, Option.map_some, List.map_cons, List.map_nil, List.cons_append, List.nil_append, List.replicate_succ, List.replicate_zero, List.getElem?_cons_zero, List.getElem?_cons_succ, List.length_cons, List.length_nil, List.set_cons_zero, List.set_cons_succ, isOwn, if_true, reduceIte, Bool.false_eq_true, Nat.reduceAdd, atI_0, atI_1, ixN_0, ixN_1, gt_int, lt_int, le_int, ge_int, add_int, sub_int, eq_int, ne_int, eq_str, ne_str, decide_true, decide_false, Nat.zero_add, g, hg, lm, lm', Bool.true_or]
theorem x_l_can_begin {a : List Nat} (hl : a.length ≤ 600) (ha : asc a = true) : f_l_can_begin [.str (S a)] = .ok (.bl (beginOf (parts a))) := by
  have s1 : splitF (.str (S a)) [.str (" " : Str)] = some (.lst ((parts a).map sd)) := split_ok a (by omega)
  have e1 := lb1_ok (.d (.str (S a))) (parts a) (parts_ne a) (parts_ok hl ha)
  have e2 : ∀ ρ, (seqS (asgS (methE splitF (varE 0) (consA (cE (.str " ")) nilA)) (nameT 1)) lb1) ρ = g_l_can_begin ρ := fun _ => rfl
  unfold f_l_can_begin runP
  show rsOf (g_l_can_begin [.d (.str (S a)), .un, .un]) = _
  rw [← e2, ← e1]
  congr 1
  generalize lb1 = X
  simp only [seqS, ifS, boolE, binE, unE, appE, ixOwnE, popOwnE, lenOwnE, cE, varE, retS, retNS, asgS, asgOwnS, parS, parOwnS, appendS, dropS, nopS, forS, forGo, seqI, range1I, range2I, enumI, rangeL, callE, callIO, callL, consA, nilA, nameT, tupT, consT, nilT, ownIxT, andE, orE, notE, andT, orT, notT, chainE, ifE, slE, someO, noO, lstE, lstF, appL, methE, isStrD, raiseS, rsIO, rsOf, own0, ofOpt, R.bind_ok, R.bind_er, R.bindS_ok, R.bindS_er, Option.bind_some, Option.map_some, List.map_cons, List.map_nil, List.cons_append, List.nil_append, List.replicate_succ, List.replicate_zero, List.getElem?_cons_zero, List.getElem?_cons_succ, List.length_cons, List.length_nil, List.set_cons_zero, List.set_cons_succ, isOwn, if_true, reduceIte, Bool.false_eq_true, Nat.reduceAdd, atI_0, atI_1, ixN_0, ixN_1, gt_int, lt_int, le_int, ge_int, add_int, sub_int, eq_int, ne_int, eq_str, ne_str, decide_true, decide_false, Nat.zero_add, s1]
/-- where a text is no longer read -/
def unread (a : List Nat) : Nat := ((List.range a.length).find? fun i => !beginOf (parts (a.take (i + 1)))).getD a.length
theorem asc_take {a : List Nat} (h : asc a = true) (n : Nat) : asc (a.take n) = true := by
  unfold asc at *
  rw [List.all_eq_true] at *
  exact fun c hc => h c (List.mem_of_mem_take hc)
end K12
end L2
set_option linter.all false
set_option maxRecDepth 100000
set_option maxHeartbeats 4000000
namespace L2
namespace K12
open PySem PySem.Spec PL TL
open _root_.SX (S S_len S_cat S_tl S_inj split_S join_S num_S int_S)
theorem forGo_find {x : SV} {B : GS} {e : Nat → Int} {rr : Nat → Int} {P : Nat → Bool} : ∀ (l : List Nat) (v : SV), (∀ i ∈ l, B [x, .d (.int (e i))] = if P i then .nx [x, .d (.int (e i))] else .rt (.int (rr i)) [x, .d (.int (e i))]) →
    (∃ i ρ, l.find? (fun i => !P i) = some i ∧ forGo (nameT 1) B (l.map fun i => .int (e i)) [x, v] = .rt (.int (rr i)) ρ) ∨ (∃ v', l.find? (fun i => !P i) = none ∧ forGo (nameT 1) B (l.map fun i => .int (e i)) [x, v] = .nx [x, v'])
  | [], v, _ => .inr ⟨v, rfl, rfl⟩
  | i :: l, v, h => by
    have hi := h i List.mem_cons_self
    have go : forGo (nameT 1) B ((i :: l).map fun i => .int (e i)) [x, v] = match B [x, .d (.int (e i))] with
      | .nx ρ2 => forGo (nameT 1) B (l.map fun i => .int (e i)) ρ2
      | .ct ρ2 => forGo (nameT 1) B (l.map fun i => .int (e i)) ρ2
      | .bk ρ2 => .nx ρ2
      | r => r := rfl
    rw [go, hi]
    cases hp : P i with
    | true =>
      rcases forGo_find l (.d (.int (e i))) fun j hj => h j (List.mem_cons_of_mem _ hj) with ⟨j, ρ, h1, h2⟩ | ⟨v', h1, h2⟩
      · refine .inl ⟨j, ρ, ?_, h2⟩
        rw [List.find?_cons, hp]
        exact h1
      · refine .inr ⟨v', ?_, h2⟩
        rw [List.find?_cons, hp]
        exact h1
    | false =>
      refine .inl ⟨i, [x, .d (.int (e i))], ?_, rfl⟩
      rw [List.find?_cons, hp]
      rfl
theorem range2_nat {gs : GE (List D)} {ρ ρ1 : PEnv} {n : Nat} (h : gs ρ = .ok [.int 1, .int ((n : Nat) + 1 : Int)] ρ1) (hn : n ≤ 1000000) : range2I gs ρ = .ok ((List.range n).map fun (i : Nat) => D.int (1 + (i : Int))) ρ1 := by
  have c : -(2 ^ 62) ≤ (1 : Int) ∧ (1 : Int) < 2 ^ 62 ∧ -(2 ^ 62) ≤ ((n : Nat) + 1 : Int) ∧ ((n : Nat) + 1 : Int) < 2 ^ 62 := ⟨by omega, by omega, by omega, by omega⟩
  unfold range2I
  rw [h, R.bind_ok]
  generalize (2 : Int) ^ 62 = B at c ⊢
  simp only []
  rw [if_pos c]
  have : ((n : Int) + 1 - 1).toNat = n := by omega
  rw [this]
  rfl
theorem take_facts {a : List Nat} (hl : a.length ≤ 600) (ha : asc a = true) (n : Nat) : (a.take n).length ≤ 600 ∧ asc (a.take n) = true := ⟨by rw [List.length_take]; omega, asc_take ha n⟩
def uB : GS := (ifS (notT (boolE (callE 1 f_can_begin (consA (slE (varE 0) noO (someO (binE addF (varE 1) (cE (.int 1))))) nilA)))) (retS (varE 1)) nopS)
def uL : GS := (ifS (notT (boolE (callE 1 f_l_can_begin (consA (slE (varE 0) noO (someO (varE 1))) nilA)))) (retS (binE subF (varE 1) (cE (.int 1)))) nopS)
theorem x_unread_at {a : List Nat} (hl : a.length ≤ 600) (ha : asc a = true) : f_unread_at [.str (S a)] = .ok (.int (unread a)) := by
  have ln := lenS a (by omega)
  have hb : ∀ i ∈ List.range a.length, uB [.d (.str (S a)), .d (.int (i : Nat))] = if beginOf (parts (a.take (i + 1))) then .nx [.d (.str (S a)), .d (.int (i : Nat))] else .rt (.int (i : Nat)) [.d (.str (S a)), .d (.int (i : Nat))] := fun i _ => by
    obtain ⟨t1, t2⟩ := take_facts hl ha (i + 1)
    have e1 : slF (.str (S a)) none (some ((i : Int) + 1)) = some (.str (S (a.take (i + 1)))) := cut_to a (i + 1) (by omega)
    have e2 := x_can_begin t1 t2
    unfold uB
    cases hp : beginOf (parts (a.take (i + 1))) <;> simp only [seqS, ifS, boolE, binE, unE, appE, ixOwnE, popOwnE, lenOwnE, cE, varE, retS, retNS, asgS, asgOwnS, parS, parOwnS, appendS, dropS, nopS, forS, forGo, seqI, range1I, range2I, enumI, rangeL, callE, callIO, callL, consA, nilA, nameT, tupT, consT, nilT, ownIxT, andE, orE, notE, andT, orT, notT, chainE, ifE, slE, someO, noO, lstE, lstF, appL, methE, isStrD, raiseS, rsIO, rsOf, own0, ofOpt, R.bind_ok, R.bind_er, R.bindS_ok, R.bindS_er, Option.bind_some, Option.map_some, List.map_cons, List.map_nil, List.cons_append, List.nil_append, List.replicate_succ, List.replicate_zero, List.getElem?_cons_zero, List.getElem?_cons_succ, List.length_cons, List.length_nil, List.set_cons_zero, List.set_cons_succ, isOwn, if_true, reduceIte, Bool.false_eq_true, Nat.reduceAdd, atI_0, atI_1, ixN_0, ixN_1, gt_int, lt_int, le_int, ge_int, add_int, sub_int, eq_int, ne_int, eq_str, ne_str, decide_true, decide_false, Nat.zero_add, e1, e2, hp, Bool.not_true, Bool.not_false]
  have rg : range1I (consA (appE lenF (consA (varE 0) nilA)) nilA) [.d (.str (S a)), .un] = .ok ((List.range a.length).map fun (i : Nat) => D.int i) [.d (.str (S a)), .un] := range1_nat (by simp only [seqS, ifS, boolE, binE, unE, appE, ixOwnE, popOwnE, lenOwnE, cE, varE, retS, retNS, asgS, asgOwnS, parS, parOwnS, appendS, dropS, nopS, forS, forGo, seqI, range1I, range2I, enumI, rangeL, callE, callIO, callL, consA, nilA, nameT, tupT, consT, nilT, ownIxT, andE, orE, notE, andT, orT, notT, chainE, ifE, slE, someO, noO, lstE, lstF, appL, methE, isStrD, raiseS, rsIO, rsOf, own0, ofOpt, R.bind_ok, R.bind_er, R.bindS_ok, R.bindS_er, Option.bind_some, Option.map_some, List.map_cons, List.map_nil, List.cons_append, List.nil_append, List.replicate_succ, List.replicate_zero, List.getElem?_cons_zero, List.getElem?_cons_succ, List.length_cons, List.length_nil, List.set_cons_zero, List.set_cons_succ, isOwn, if_true, reduceIte, Bool.false_eq_true, Nat.reduceAdd, atI_0, atI_1, ixN_0, ixN_1, gt_int, lt_int, le_int, ge_int, add_int, sub_int, eq_int, ne_int, eq_str, ne_str, decide_true, decide_false, Nat.zero_add, ln]) (by omega)
  have gi : g_unread_at = seqS (forS (range1I (consA (appE lenF (consA (varE 0) nilA)) nilA)) (nameT 1) uB) (retS (appE lenF (consA (varE 0) nilA))) := rfl
  have fs : ∀ gb, forS (range1I (consA (appE lenF (consA (varE 0) nilA)) nilA)) (nameT 1) gb [.d (.str (S a)), .un] = forGo (nameT 1) gb ((List.range a.length).map fun (i : Nat) => D.int i) [.d (.str (S a)), .un] := fun gb => by
    unfold forS
    rw [rg]
    rfl
  unfold f_unread_at runP
  rw [gi]
  unfold unread
  show rsOf (seqS _ _ [.d (.str (S a)), .un]) = _
  rcases forGo_find (e := fun i => (i : Int)) (rr := fun i => (i : Int)) (P := fun i => beginOf (parts (a.take (i + 1)))) (List.range a.length) .un hb with ⟨i, ρ, h1, h2⟩ | ⟨v, h1, h2⟩
  · rw [h1]
    unfold seqS
    rw [fs, h2]
    rfl
  · rw [h1]
    unfold seqS
    rw [fs, h2]
    simp only [seqS, ifS, boolE, binE, unE, appE, ixOwnE, popOwnE, lenOwnE, cE, varE, retS, retNS, asgS, asgOwnS, parS, parOwnS, appendS, dropS, nopS, forS, forGo, seqI, range1I, range2I, enumI, rangeL, callE, callIO, callL, consA, nilA, nameT, tupT, consT, nilT, ownIxT, andE, orE, notE, andT, orT, notT, chainE, ifE, slE, someO, noO, lstE, lstF, appL, methE, isStrD, raiseS, rsIO, rsOf, own0, ofOpt, R.bind_ok, R.bind_er, R.bindS_ok, R.bindS_er, Option.bind_some, Option.map_some, List.map_cons, List.map_nil, List.cons_append, List.nil_append, List.replicate_succ, List.replicate_zero, List.getElem?_cons_zero, List.getElem?_cons_succ, List.length_cons, List.length_nil, List.set_cons_zero, List.set_cons_succ, isOwn, if_true, reduceIte, Bool.false_eq_true, Nat.reduceAdd, atI_0, atI_1, ixN_0, ixN_1, gt_int, lt_int, le_int, ge_int, add_int, sub_int, eq_int, ne_int, eq_str, ne_str, decide_true, decide_false, Nat.zero_add, ln]
    rfl
theorem x_l_unread {a : List Nat} (hl : a.length ≤ 600) (ha : asc a = true) : f_l_unread [.str (S a)] = .ok (.int (unread a)) := by
  have ln := lenS a (by omega)
  have hb : ∀ i ∈ List.range a.length, uL [.d (.str (S a)), .d (.int (1 + (i : Int)))] = if beginOf (parts (a.take (i + 1))) then .nx [.d (.str (S a)), .d (.int (1 + (i : Int)))] else .rt (.int (i : Nat)) [.d (.str (S a)), .d (.int (1 + (i : Int)))] := fun i _ => by
    obtain ⟨t1, t2⟩ := take_facts hl ha (i + 1)
    have e1 : slF (.str (S a)) none (some (1 + (i : Int))) = some (.str (S (a.take (i + 1)))) := by
      rw [Int.add_comm]
      exact cut_to a (i + 1) (by omega)
    have e2 := x_l_can_begin t1 t2
    have e3 : (1 : Int) + i - 1 = i := by omega
    unfold uL
    cases hp : beginOf (parts (a.take (i + 1))) <;> simp only [seqS, ifS, boolE, binE, unE, appE, ixOwnE, popOwnE, lenOwnE, cE, varE, retS, retNS, asgS, asgOwnS, parS, parOwnS, appendS, dropS, nopS, forS, forGo, seqI, range1I, range2I, enumI, rangeL, callE, callIO, callL, consA, nilA, nameT, tupT, consT, nilT, ownIxT, andE, orE, notE, andT, orT, notT, chainE, ifE, slE, someO, noO, lstE, lstF, appL, methE, isStrD, raiseS, rsIO, rsOf, own0, ofOpt, R.bind_ok, R.bind_er, R.bindS_ok, R.bindS_er, Option.bind_some, Option.map_some, List.map_cons, List.map_nil, List.cons_append, List.nil_append, List.replicate_succ, List.replicate_zero, List.getElem?_cons_zero, List.getElem?_cons_succ, List.length_cons, List.length_nil, List.set_cons_zero, List.set_cons_succ, isOwn, if_true, reduceIte, Bool.false_eq_true, Nat.reduceAdd, atI_0, atI_1, ixN_0, ixN_1, gt_int, lt_int, le_int, ge_int, add_int, sub_int, eq_int, ne_int, eq_str, ne_str, decide_true, decide_false, Nat.zero_add, e1, e2, e3, hp, Bool.not_true, Bool.not_false]
  have rg : range2I (consA (cE (.int 1)) (consA (binE addF (appE lenF (consA (varE 0) nilA)) (cE (.int 1))) nilA)) [.d (.str (S a)), .un] = .ok ((List.range a.length).map fun (i : Nat) => D.int (1 + (i : Int))) [.d (.str (S a)), .un] := range2_nat (by simp only [seqS, ifS, boolE, binE, unE, appE, ixOwnE, popOwnE, lenOwnE, cE, varE, retS, retNS, asgS, asgOwnS, parS, parOwnS, appendS, dropS, nopS, forS, forGo, seqI, range1I, range2I, enumI, rangeL, callE, callIO, callL, consA, nilA, nameT, tupT, consT, nilT, ownIxT, andE, orE, notE, andT, orT, notT, chainE, ifE, slE, someO, noO, lstE, lstF, appL, methE, isStrD, raiseS, rsIO, rsOf, own0, ofOpt, R.bind_ok, R.bind_er, R.bindS_ok, R.bindS_er, Option.bind_some, Option.map_some, List.map_cons, List.map_nil, List.cons_append, List.nil_append, List.replicate_succ, List.replicate_zero, List.getElem?_cons_zero, List.getElem?_cons_succ, List.length_cons, List.length_nil, List.set_cons_zero, List.set_cons_succ, isOwn, if_true, reduceIte, Bool.false_eq_true, Nat.reduceAdd, atI_0, atI_1, ixN_0, ixN_1, gt_int, lt_int, le_int, ge_int, add_int, sub_int, eq_int, ne_int, eq_str, ne_str, decide_true, decide_false, Nat.zero_add, ln]) (by omega)
  have gi : g_l_unread = seqS (forS (range2I (consA (cE (.int 1)) (consA (binE addF (appE lenF (consA (varE 0) nilA)) (cE (.int 1))) nilA))) (nameT 1) uL) (retS (appE lenF (consA (varE 0) nilA))) := rfl
  have fs : ∀ gb, forS (range2I (consA (cE (.int 1)) (consA (binE addF (appE lenF (consA (varE 0) nilA)) (cE (.int 1))) nilA))) (nameT 1) gb [.d (.str (S a)), .un] = forGo (nameT 1) gb ((List.range a.length).map fun (i : Nat) => D.int (1 + (i : Int))) [.d (.str (S a)), .un] := fun gb => by
    unfold forS
    rw [rg]
    rfl
  unfold f_l_unread runP
  rw [gi]
  unfold unread
  show rsOf (seqS _ _ [.d (.str (S a)), .un]) = _
  rcases forGo_find (e := fun i => 1 + (i : Int)) (rr := fun i => (i : Int)) (P := fun i => beginOf (parts (a.take (i + 1)))) (List.range a.length) .un hb with ⟨i, ρ, h1, h2⟩ | ⟨v, h1, h2⟩
  · rw [h1]
    unfold seqS
    rw [fs, h2]
    rfl
  · rw [h1]
    unfold seqS
    rw [fs, h2]
    simp only [seqS, ifS, boolE, binE, unE, appE, ixOwnE, popOwnE, lenOwnE, cE, varE, retS, retNS, asgS, asgOwnS, parS, parOwnS, appendS, dropS, nopS, forS, forGo, seqI, range1I, range2I, enumI, rangeL, callE, callIO, callL, consA, nilA, nameT, tupT, consT, nilT, ownIxT, andE, orE, notE, andT, orT, notT, chainE, ifE, slE, someO, noO, lstE, lstF, appL, methE, isStrD, raiseS, rsIO, rsOf, own0, ofOpt, R.bind_ok, R.bind_er, R.bindS_ok, R.bindS_er, Option.bind_some, Option.map_some, List.map_cons, List.map_nil, List.cons_append, List.nil_append, List.replicate_succ, List.replicate_zero, List.getElem?_cons_zero, List.getElem?_cons_succ, List.length_cons, List.length_nil, List.set_cons_zero, List.set_cons_succ, isOwn, if_true, reduceIte, Bool.false_eq_true, Nat.reduceAdd, atI_0, atI_1, ixN_0, ixN_1, gt_int, lt_int, le_int, ge_int, add_int, sub_int, eq_int, ne_int, eq_str, ne_str, decide_true, decide_false, Nat.zero_add, ln]
    rfl
/-- what a text tells -/
def isNon : D → Bool
  | .non => true
  | _ => false
theorem is_non (d : D) : isF d .non = some (.bl (isNon d)) ∧ isNotF d .non = some (.bl (!isNon d)) := by cases d <;> exact ⟨rfl, rfl⟩
theorem x_is_event_text {a : List Nat} (hl : a.length ≤ 600) (ha : asc a = true) : f_is_event_text [.str (S a)] = .ok (.bl (!isNon (evOf (parts a)))) := by
  have e1 := x_event_in hl ha
  have e2 := (is_non (evOf (parts a))).2
  have e3 : isiF "str" (.str (S a)) = some (.bl true) := rfl
  unfold f_is_event_text g_is_event_text runP
  simp only [seqS, ifS, boolE, binE, unE, appE, ixOwnE, popOwnE, lenOwnE, cE, varE, retS, retNS, asgS, asgOwnS, parS, parOwnS, appendS, dropS, nopS, forS, forGo, seqI, range1I, range2I, enumI, rangeL, callE, callIO, callL, consA, nilA, nameT, tupT, consT, nilT, ownIxT, andE, orE, notE, andT, orT, notT, chainE, ifE, slE, someO, noO, lstE, lstF, appL, methE, isStrD, raiseS, rsIO, rsOf, own0, ofOpt, R.bind_ok, R.bind_er, R.bindS_ok, R.bindS_er, Option.bind_some, Option.map_some, List.map_cons, List.map_nil, List.cons_append, List.nil_append, List.replicate_succ, List.replicate_zero, List.getElem?_cons_zero, List.getElem?_cons_succ, List.length_cons, List.length_nil, List.set_cons_zero, List.set_cons_succ, isOwn, if_true, reduceIte, Bool.false_eq_true, Nat.reduceAdd, atI_0, atI_1, ixN_0, ixN_1, gt_int, lt_int, le_int, ge_int, add_int, sub_int, eq_int, ne_int, eq_str, ne_str, decide_true, decide_false, Nat.zero_add, e1, e2, e3]
theorem x_event_of_text {a : List Nat} (hl : a.length ≤ 600) (ha : asc a = true) : f_event_of_text [.str (S a)] = if isNon (evOf (parts a)) then .er ⟨"UnreadEvent", [("position", .int (unread a))]⟩ else .ok (evOf (parts a)) := by
  have e1 := x_event_in hl ha
  have e2 := (is_non (evOf (parts a))).1
  have e3 : isiF "str" (.str (S a)) = some (.bl true) := rfl
  have e4 := x_unread_at hl ha
  unfold f_event_of_text g_event_of_text runP
  cases h : isNon (evOf (parts a)) <;> simp only [seqS, ifS, boolE, binE, unE, appE, ixOwnE, popOwnE, lenOwnE, cE, varE, retS, retNS, asgS, asgOwnS, parS, parOwnS, appendS, dropS, nopS, forS, forGo, seqI, range1I, range2I, enumI, rangeL, callE, callIO, callL, consA, nilA, nameT, tupT, consT, nilT, ownIxT, andE, orE, notE, andT, orT, notT, chainE, ifE, slE, someO, noO, lstE, lstF, appL, methE, isStrD, raiseS, rsIO, rsOf, own0, ofOpt, R.bind_ok, R.bind_er, R.bindS_ok, R.bindS_er, Option.bind_some, Option.map_some, List.map_cons, List.map_nil, List.cons_append, List.nil_append, List.replicate_succ, List.replicate_zero, List.getElem?_cons_zero, List.getElem?_cons_succ, List.length_cons, List.length_nil, List.set_cons_zero, List.set_cons_succ, isOwn, if_true, reduceIte, Bool.false_eq_true, Nat.reduceAdd, atI_0, atI_1, ixN_0, ixN_1, gt_int, lt_int, le_int, ge_int, add_int, sub_int, eq_int, ne_int, eq_str, ne_str, decide_true, decide_false, Nat.zero_add, e1, e2, e3, e4, h, Bool.not_true]
end K12
end L2
set_option linter.all false
set_option maxRecDepth 100000
set_option maxHeartbeats 4000000
namespace L2
namespace K12
open PySem PySem.Spec PL TL
open _root_.SX (S S_len S_cat S_tl S_inj split_S join_S num_S int_S)
/-! a text is right -/
theorem evOf_fd (ps : List (List Nat)) (ho : PartsOk ps) : FD (evOf ps) 1 20000 := by
  have nn : FD .non 1 20000 := FD.non.up (Nat.le_refl _) (by decide)
  match ps, ho with
  | [], _ => exact nn
  | [_], _ => exact nn
  | [p0, p1], ho =>
    rw [evOf2]
    split
    · have q0 := ho.len p0 (by simp)
      exact (FDs.tup (k := 0) (.cons (FD.str (x := sLEAVE) (by decide) (by decide)) (.cons (fdS (p := p0) (by omega) (ho.as p0 (by simp))) .nil))).up (Nat.le_refl _) (by
        have : sLEAVE.length = 5 := by decide
        omega)
    · exact nn
  | [p0, p1, p2], ho =>
    rw [evOf3]
    split
    · rename_i h
      obtain ⟨t, ht, rfl⟩ := verb_of (Bool.and_eq_true_iff.mp h).1
      have q0 := ho.len p0 (by simp)
      have q2 := ho.len p2 (by simp)
      rw [index_verb ht, Option.getD_some]
      exact (FDs.tup (k := 0) (.cons (FD.str (x := sTOLD) (by decide) (by decide)) (.cons (fdS (p := p0) (by omega) (ho.as p0 (by simp))) (.cons (fdS (p := p2) (by omega) (ho.as p2 (by simp))) (.cons (fdNat (by omega)) .nil))))).up (Nat.le_refl _) (by
        have : sTOLD.length = 4 := by decide
        omega)
    · exact nn
  | [_, _, _, _], _ => exact nn
  | [p0, p1, p2, p3, p4], ho =>
    rw [evOf5]
    split
    · rename_i h
      obtain ⟨h1, h2⟩ := Bool.and_eq_true_iff.mp (Bool.and_eq_true_iff.mp h).2
      obtain ⟨t, ht, rfl⟩ := verb_of (Bool.and_eq_true_iff.mp h2).1
      have q2 := ho.len p2 (by simp)
      have q4 := ho.len p4 (by simp)
      rw [index_verb ht, Option.getD_some]
      exact (FDs.tup (k := 0) (.cons (FD.str (x := sFIX) (by decide) (by decide)) (.cons (fdNum p1 h1) (.cons (fdS (p := p2) (by omega) (ho.as p2 (by simp))) (.cons (fdS (p := p4) (by omega) (ho.as p4 (by simp))) (.cons (fdNat (by omega)) .nil)))))).up (Nat.le_refl _) (by
        have : sFIX.length = 3 := by decide
        omega)
    · exact nn
  | p0 :: p1 :: p2 :: p3 :: p4 :: p5 :: r, _ => exact nn
theorem unread_le (a : List Nat) : unread a ≤ a.length := by
  unfold unread
  cases h : (List.range a.length).find? fun i => !beginOf (parts (a.take (i + 1))) with
  | none => exact Nat.le_refl _
  | some i =>
    have := List.mem_range.mp (List.mem_of_find?_eq_some h)
    rw [Option.getD_some]
    omega
theorem pair_repr {d : D} {k c : Nat} (h : FD d k c) (hk : k ≤ 40) (hc : c ≤ 40000) : ∃ r : Str, reprF [.lst [d, d]] = some (.str r) := by
  obtain ⟨r, hr, _⟩ := (FDs.lst (.cons h (.cons h .nil))).repr (by omega) (by omega)
  exact ⟨r, hr⟩
def TR : GE (List D) := heardAllL 3 (some "told") hd_l [(callE 1 f_event_of_text (consA (varE 0) nilA)), (callE 1 f_event_of_text (consA (varE 0) nilA))]
def tRest : GS := (seqS (lamsS 3 [0, 1])
    (seqS (ifS (boolE (binE neF (appE reprF (consA (lstE TR) nilA)) (appE reprF (consA (lstE (lstF (consA (varE 2) (consA (varE 2) nilA)))) nilA)))) (retS (cE (.bl false))) nopS)
    (retS (binE eqF (appE reprF (consA (lstE (lstF (consA (callE 1 f_is_event_text (consA (varE 0) nilA)) (consA (callE 1 f_is_event_text (consA (varE 0) nilA)) nilA)))) nilA)) (appE reprF (consA (binE mulF (lstE (lstF (consA (binE isNotF (varE 1) (cE .non)) nilA))) (cE (.int 2))) nilA))))))
theorem TR_ok {ρ : PEnv} {due : D} (h : heardE (some "told") hd_l (callE 1 f_event_of_text (consA (varE 0) nilA)) ρ = .ok due ρ) (h3 : ρ[3]? = some (.lams [0, 1])) : TR ρ = .ok [due, due] ρ := by
  unfold TR heardAllL
  rw [h3]
  have z0 : (0 : Nat) < lim := by decide
  have z1 : (1 : Nat) < lim := by decide
  show hGo _ _ _ [0, 1] ρ [] = _
  unfold hGo
  simp only [List.getD_cons_zero, h, List.length_nil, z0, if_true]
  unfold hGo
  simp only [List.getD_cons_succ, List.getD_cons_zero, h, List.nil_append, List.length_cons, List.length_nil, Nat.zero_add, z1, if_true]
  rfl
theorem tRest_ok {a : List Nat} (hl : a.length ≤ 600) (ha : asc a = true) {ev due : D} {k c : Nat} (hev : f_is_event_text [.str (S a)] = .ok (.bl (!isNon ev))) (hd : FD due k c) (hk : k ≤ 40) (hc : c ≤ 40000)
    (hh : heardE (some "told") hd_l (callE 1 f_event_of_text (consA (varE 0) nilA)) [.d (.str (S a)), .d ev, .d due, .lams [0, 1], .un] = .ok due [.d (.str (S a)), .d ev, .d due, .lams [0, 1], .un]) :
    rsOf (tRest [.d (.str (S a)), .d ev, .d due, .un, .un]) = .ok (.bl true) := by
  have t := TR_ok hh rfl
  obtain ⟨r, hr⟩ := pair_repr hd hk hc
  obtain ⟨r2, hr2⟩ := pair_repr (FD.bl (b := !isNon ev) (k := 0)) (by decide) (by decide)
  have l2 : (2 : Nat) ≤ lim := by decide
  have l1 : (1 : Nat) ≤ lim := by decide
  have inn := (is_non ev).2
  have ml : ∀ d : D, mulF (.lst [d]) (.int 2) = some (.lst [d, d]) := fun _ => rfl
  unfold tRest lamsS
  generalize TR = T at *
  simp only [seqS, ifS, boolE, binE, unE, appE, ixOwnE, popOwnE, lenOwnE, cE, varE, retS, retNS, asgS, asgOwnS, parS, parOwnS, appendS, dropS, nopS, forS, forGo, seqI, range1I, range2I, enumI, rangeL, callE, callIO, callL, consA, nilA, nameT, tupT, consT, nilT, ownIxT, andE, orE, notE, andT, orT, notT, chainE, ifE, slE, someO, noO, lstE, lstF, appL, methE, isStrD, raiseS, rsIO, rsOf, own0, ofOpt, R.bind_ok, R.bind_er, R.bindS_ok, R.bindS_er, Option.bind_some, Option.map_some, List.map_cons, List.map_nil, List.cons_append, List.nil_append, List.replicate_succ, List.replicate_zero, List.getElem?_cons_zero, List.getElem?_cons_succ, List.length_cons, List.length_nil, List.set_cons_zero, List.set_cons_succ, isOwn, if_true, reduceIte, Bool.false_eq_true, Nat.reduceAdd, atI_0, atI_1, ixN_0, ixN_1, gt_int, lt_int, le_int, ge_int, add_int, sub_int, eq_int, ne_int, eq_str, ne_str, decide_true, decide_false, Nat.zero_add, t, hr, l2, l1, hev, hr2, inn, ml, Bool.not_true]
theorem x_l_text_right {a : List Nat} (hl : a.length ≤ 600) (ha : asc a = true) : f_l_text_right [.str (S a)] = .ok (.bl true) := by
  have e1 := x_l_event hl ha
  have e2 := x_event_of_text hl ha
  have e3 := x_is_event_text hl ha
  have e4 := x_l_unread hl ha
  have fd := evOf_fd (parts a) (parts_ok hl ha)
  have ul := unread_le a
  have inn := (is_non (evOf (parts a))).2
  have l2 : (2 : Nat) ≤ lim := by decide
  have l3 : (3 : Nat) ≤ lim := by decide
  have gi : g_l_text_right = (seqS (asgS (callE 1 f_l_event (consA (varE 0) nilA)) (nameT 1))
    (seqS (asgS (ifE (boolE (binE isNotF (varE 1) (cE .non))) (lstE (lstF (consA (cE (.str "told")) (consA (varE 1) nilA)))) (lstE (lstF (consA (cE (.str "unread")) (consA (callE 1 f_l_unread (consA (varE 0) nilA)) (consA (cE (.bl true)) nilA)))))) (nameT 2)) tRest)) := rfl
  unfold f_l_text_right runP
  rw [gi]
  cases hn : isNon (evOf (parts a))
  · have hh : ∀ x y z : SV, heardE (some "told") hd_l (callE 1 f_event_of_text (consA (varE 0) nilA)) [.d (.str (S a)), x, y, .lams [0, 1], z] = .ok (.lst [.str "told", evOf (parts a)]) [.d (.str (S a)), x, y, .lams [0, 1], z] := fun x y z => by
      unfold heardE
      rw [hn] at e2
      simp only [seqS, ifS, boolE, binE, unE, appE, ixOwnE, popOwnE, lenOwnE, cE, varE, retS, retNS, asgS, asgOwnS, parS, parOwnS, appendS, dropS, nopS, forS, forGo, seqI, range1I, range2I, enumI, rangeL, callE, callIO, callL, consA, nilA, nameT, tupT, consT, nilT, ownIxT, andE, orE, notE, andT, orT, notT, chainE, ifE, slE, someO, noO, lstE, lstF, appL, methE, isStrD, raiseS, rsIO, rsOf, own0, ofOpt, R.bind_ok, R.bind_er, R.bindS_ok, R.bindS_er, Option.bind_some, Option.map_some, List.map_cons, List.map_nil, List.cons_append, List.nil_append, List.replicate_succ, List.replicate_zero, List.getElem?_cons_zero, List.getElem?_cons_succ, List.length_cons, List.length_nil, List.set_cons_zero, List.set_cons_succ, isOwn, if_true, reduceIte, Bool.false_eq_true, Nat.reduceAdd, atI_0, atI_1, ixN_0, ixN_1, gt_int, lt_int, le_int, ge_int, add_int, sub_int, eq_int, ne_int, eq_str, ne_str, decide_true, decide_false, Nat.zero_add, e2]
      rfl
    have fin := tRest_ok hl ha e3 (FDs.lst (k := 1) (.cons (FD.str (x := "told") (by decide) (by decide)) (.cons fd .nil))) (by decide) (by decide) (hh (.d (evOf (parts a))) _ .un)
    rw [← fin]
    congr 1
    generalize evOf (parts a) = ev at *
    generalize tRest = T at *
    simp only [seqS, ifS, boolE, binE, unE, appE, ixOwnE, popOwnE, lenOwnE, cE, varE, retS, retNS, asgS, asgOwnS, parS, parOwnS, appendS, dropS, nopS, forS, forGo, seqI, range1I, range2I, enumI, rangeL, callE, callIO, callL, consA, nilA, nameT, tupT, consT, nilT, ownIxT, andE, orE, notE, andT, orT, notT, chainE, ifE, slE, someO, noO, lstE, lstF, appL, methE, isStrD, raiseS, rsIO, rsOf, own0, ofOpt, R.bind_ok, R.bind_er, R.bindS_ok, R.bindS_er, Option.bind_some, Option.map_some, List.map_cons, List.map_nil, List.cons_append, List.nil_append, List.replicate_succ, List.replicate_zero, List.getElem?_cons_zero, List.getElem?_cons_succ, List.length_cons, List.length_nil, List.set_cons_zero, List.set_cons_succ, isOwn, if_true, reduceIte, Bool.false_eq_true, Nat.reduceAdd, atI_0, atI_1, ixN_0, ixN_1, gt_int, lt_int, le_int, ge_int, add_int, sub_int, eq_int, ne_int, eq_str, ne_str, decide_true, decide_false, Nat.zero_add, e1, inn, hn, l2, Bool.not_false]
  · have hh : ∀ x y z : SV, heardE (some "told") hd_l (callE 1 f_event_of_text (consA (varE 0) nilA)) [.d (.str (S a)), x, y, .lams [0, 1], z] = .ok (.lst [.str "unread", .int (unread a), .bl true]) [.d (.str (S a)), x, y, .lams [0, 1], z] := fun x y z => by
      unfold heardE
      rw [hn] at e2
      simp only [seqS, ifS, boolE, binE, unE, appE, ixOwnE, popOwnE, lenOwnE, cE, varE, retS, retNS, asgS, asgOwnS, parS, parOwnS, appendS, dropS, nopS, forS, forGo, seqI, range1I, range2I, enumI, rangeL, callE, callIO, callL, consA, nilA, nameT, tupT, consT, nilT, ownIxT, andE, orE, notE, andT, orT, notT, chainE, ifE, slE, someO, noO, lstE, lstF, appL, methE, isStrD, raiseS, rsIO, rsOf, own0, ofOpt, R.bind_ok, R.bind_er, R.bindS_ok, R.bindS_er, Option.bind_some, Option.map_some, List.map_cons, List.map_nil, List.cons_append, List.nil_append, List.replicate_succ, List.replicate_zero, List.getElem?_cons_zero, List.getElem?_cons_succ, List.length_cons, List.length_nil, List.set_cons_zero, List.set_cons_succ, isOwn, if_true, reduceIte, Bool.false_eq_true, Nat.reduceAdd, atI_0, atI_1, ixN_0, ixN_1, gt_int, lt_int, le_int, ge_int, add_int, sub_int, eq_int, ne_int, eq_str, ne_str, decide_true, decide_false, Nat.zero_add, e2]
      rfl
    have fin := tRest_ok hl ha e3 (FDs.lst (k := 1) (.cons (FD.str (x := "unread") (by decide) (by decide)) (.cons (fdNat (n := unread a) (by omega)) (.cons (FD.bl (b := true)) .nil)))) (by decide) (by decide) (hh (.d (evOf (parts a))) _ .un)
    rw [← fin]
    congr 1
    generalize evOf (parts a) = ev at *
    generalize tRest = T at *
    simp only [seqS, ifS, boolE, binE, unE, appE, ixOwnE, popOwnE, lenOwnE, cE, varE, retS, retNS, asgS, asgOwnS, parS, parOwnS, appendS, dropS, nopS, forS, forGo, seqI, range1I, range2I, enumI, rangeL, callE, callIO, callL, consA, nilA, nameT, tupT, consT, nilT, ownIxT, andE, orE, notE, andT, orT, notT, chainE, ifE, slE, someO, noO, lstE, lstF, appL, methE, isStrD, raiseS, rsIO, rsOf, own0, ofOpt, R.bind_ok, R.bind_er, R.bindS_ok, R.bindS_er, Option.bind_some, Option.map_some, List.map_cons, List.map_nil, List.cons_append, List.nil_append, List.replicate_succ, List.replicate_zero, List.getElem?_cons_zero, List.getElem?_cons_succ, List.length_cons, List.length_nil, List.set_cons_zero, List.set_cons_succ, isOwn, if_true, reduceIte, Bool.false_eq_true, Nat.reduceAdd, atI_0, atI_1, ixN_0, ixN_1, gt_int, lt_int, le_int, ge_int, add_int, sub_int, eq_int, ne_int, eq_str, ne_str, decide_true, decide_false, Nat.zero_add, e1, e4, inn, hn, l3, Bool.not_true]
end K12
end L2
set_option linter.all false
set_option maxRecDepth 100000
set_option maxHeartbeats 4000000
namespace L2
namespace K12
open PySem PySem.Spec PL TL
open _root_.SX (S S_len S_cat S_tl S_inj split_S join_S num_S int_S)
/-! events and their texts -/
inductive Ev : List D → List (List Nat) → Prop
  | leave (p : List Nat) : isName p = true → Ev [.str sLEAVE, sd p] [p, LEAVES]
  | told (p q : List Nat) (t : Nat) : isName p = true → isName q = true → p ≠ q → t ≤ 2 → Ev [.str sTOLD, sd p, sd q, .int t] [p, verb t, q]
  | fix (n : Nat) (p q : List Nat) (t : Nat) : n ≤ 99 → isName p = true → isName q = true → p ≠ q → t ≤ 2 → Ev [.str sFIX, .int n, sd p, sd q, .int t] [FIX, numL n, p, verb t, q]
theorem rnd_numL {n : Nat} (h : n ≤ 99) : isRnd (numL n) = true := by
  unfold isRnd
  rw [numD_numL h]
  show (decide ((0 : Int) ≤ n) && decide ((n : Int) ≤ 99)) = true
  rw [decide_eq_true (by omega), decide_eq_true (by omega)]
  rfl
theorem ev_of {xs : List D} {ps : List (List Nat)} (h : Ev xs ps) : evOf ps = .tup xs := by
  cases h with
  | leave p hp =>
    rw [evOf2, hp, decide_eq_true rfl]
    rfl
  | told p q t hp hq hne ht =>
    rw [evOf3, isVerb_verb ht, hp, hq, decide_eq_false hne, index_verb ht]
    rfl
  | fix n p q t hn hp hq hne ht =>
    rw [evOf5, isVerb_verb ht, hp, hq, decide_eq_false hne, index_verb ht, rnd_numL hn, numD_numL hn, decide_eq_true rfl]
    rfl
theorem ev_form {xs : List D} {ps : List (List Nat)} (h : Ev xs ps) : evForm (.tup xs) = true := by
  cases h with
  | leave p hp =>
    rw [evf_leave]
    exact hp
  | told p q t hp hq hne ht =>
    rw [evf_told]
    show (two (.str (S p)) (.str (S q)) && within (.int t) 0 2) = true
    rw [two_S, within_t ht, hp, hq, decide_eq_false hne]
    rfl
  | fix n p q t hn hp hq hne ht =>
    rw [evf_fix]
    show (within (.int n) 0 99 && (two (.str (S p)) (.str (S q)) && within (.int t) 0 2)) = true
    rw [two_S, within_t ht, hp, hq, decide_eq_false hne]
    show ((decide ((0 : Int) ≤ n) && decide ((n : Int) ≤ 99)) && _) = true
    rw [decide_eq_true (by omega), decide_eq_true (by omega)]
    rfl
def OkD (d : D) : Prop := okStr d ∧ FD d 1 200
theorem okS {p : List Nat} (hl : p.length ≤ 13) (ha : asc p = true) : OkD (.str (S p)) :=
  ⟨fun x h => by cases h; exact ⟨by rw [S_len]; omega, ha⟩, (fdS (by omega) ha).up (Nat.le_refl _) (by omega)⟩
theorem okNat {n : Nat} (h : n ≤ 1000) : OkD (.int n) := ⟨(fun x h => by cases h), (fdNat (by omega)).up (Nat.le_refl _) (by decide)⟩
theorem ev_items {xs : List D} {ps : List (List Nat)} (h : Ev xs ps) : (∀ d ∈ xs, OkD d) ∧ 2 ≤ xs.length ∧ xs.length ≤ 5 ∧ ∃ w : List Nat, xs[0]? = some (.str (S w)) ∧ w.length ≤ 13 ∧ asc w = true := by
  have wl : sLEAVE = S (c' "leave") := rfl
  have wt : sTOLD = S (c' "told") := rfl
  have wf : sFIX = S FIX := rfl
  cases h with
  | leave p hp =>
    have l1 := isName_len hp
    refine ⟨fun d hd => ?_, by simp, by simp, c' "leave", rfl, by decide, by decide⟩
    simp only [List.mem_cons, List.not_mem_nil, or_false] at hd
    rcases hd with rfl | rfl
    · exact okS (p := c' "leave") (by decide) (by decide)
    · exact okS (by omega) (name_asc hp)
  | told p q t hp hq hne ht =>
    have l1 := isName_len hp
    have l2 := isName_len hq
    refine ⟨fun d hd => ?_, by simp, by simp, c' "told", rfl, by decide, by decide⟩
    simp only [List.mem_cons, List.not_mem_nil, or_false] at hd
    rcases hd with rfl | rfl | rfl | rfl
    · exact okS (p := c' "told") (by decide) (by decide)
    · exact okS (by omega) (name_asc hp)
    · exact okS (by omega) (name_asc hq)
    · exact okNat (by omega)
  | fix n p q t hn hp hq hne ht =>
    have l1 := isName_len hp
    have l2 := isName_len hq
    refine ⟨fun d hd => ?_, by simp, by simp, FIX, rfl, by decide, by decide⟩
    simp only [List.mem_cons, List.not_mem_nil, or_false] at hd
    rcases hd with rfl | rfl | rfl | rfl | rfl
    · exact okS (p := FIX) (by decide) (by decide)
    · exact okNat (by omega)
    · exact okS (by omega) (name_asc hp)
    · exact okS (by omega) (name_asc hq)
    · exact okNat (by omega)
theorem verb_facts {t : Nat} (h : t ≤ 2) : (verb t).length ≤ 6 ∧ asc (verb t) = true ∧ 32 ∉ verb t := by
  have : t = 0 ∨ t = 1 ∨ t = 2 := by omega
  rcases this with e | e | e <;> subst e <;> decide
def txt (ps : List (List Nat)) : List Nat := joinL [32] ps
theorem txt2 (a b : List Nat) : txt [a, b] = a ++ ([32] ++ b) := rfl
theorem txt3 (a b c : List Nat) : txt [a, b, c] = a ++ ([32] ++ (b ++ ([32] ++ c))) := rfl
theorem txt5 (a b c d e : List Nat) : txt [a, b, c, d, e] = a ++ ([32] ++ (b ++ ([32] ++ (c ++ ([32] ++ (d ++ ([32] ++ e))))))) := rfl
theorem ev_parts {xs : List D} {ps : List (List Nat)} (h : Ev xs ps) : (∀ p ∈ ps, p.length ≤ 12 ∧ asc p = true ∧ 32 ∉ p) ∧ ps ≠ [] ∧ (txt ps).length ≤ 60 ∧ 1 ≤ (txt ps).length := by
  cases h with
  | leave p hp =>
    have l1 := isName_len hp
    refine ⟨fun d hd => ?_, by simp, ?_, ?_⟩
    · simp only [List.mem_cons, List.not_mem_nil, or_false] at hd
      rcases hd with rfl | rfl
      · exact ⟨l1, name_asc hp, isName_free hp⟩
      · decide
    · rw [txt2]
      have : LEAVES.length = 6 := rfl
      simp only [List.length_append, List.length_singleton]
      omega
    · rw [txt2]
      simp only [List.length_append, List.length_singleton]
      omega
  | told p q t hp hq hne ht =>
    have l1 := isName_len hp
    have l2 := isName_len hq
    have l3 := verb_facts ht
    refine ⟨fun d hd => ?_, by simp, ?_, ?_⟩
    · simp only [List.mem_cons, List.not_mem_nil, or_false] at hd
      rcases hd with rfl | rfl | rfl
      · exact ⟨l1, name_asc hp, isName_free hp⟩
      · exact ⟨by omega, l3.2⟩
      · exact ⟨l2, name_asc hq, isName_free hq⟩
    · rw [txt3]
      simp only [List.length_append, List.length_singleton]
      omega
    · rw [txt3]
      simp only [List.length_append, List.length_singleton]
      omega
  | fix n p q t hn hp hq hne ht =>
    have l1 := isName_len hp
    have l2 := isName_len hq
    have l3 := verb_facts ht
    have l4 := numL_len3 (n := n) (by omega)
    refine ⟨fun d hd => ?_, by simp, ?_, ?_⟩
    · simp only [List.mem_cons, List.not_mem_nil, or_false] at hd
      rcases hd with rfl | rfl | rfl | rfl | rfl
      · decide
      · exact ⟨by omega, numL_asc n, fun h => by have := numL_digits n _ h; omega⟩
      · exact ⟨l1, name_asc hp, isName_free hp⟩
      · exact ⟨by omega, l3.2⟩
      · exact ⟨l2, name_asc hq, isName_free hq⟩
    · rw [txt5]
      have : FIX.length = 3 := rfl
      simp only [List.length_append, List.length_singleton]
      omega
    · rw [txt5]
      simp only [List.length_append, List.length_singleton]
      omega
theorem txt_asc {xs : List D} {ps : List (List Nat)} (h : Ev xs ps) : asc (txt ps) = true := join_asc rfl fun p hp => ((ev_parts h).1 p hp).2.1
theorem parts_txt {xs : List D} {ps : List (List Nat)} (h : Ev xs ps) : parts (txt ps) = ps := by
  obtain ⟨h1, h2, _⟩ := ev_parts h
  refine TL.spl_join h2 fun p hp => ?_
  exact (h1 p hp).2.2
end K12
end L2
set_option linter.all false
set_option maxRecDepth 100000
set_option maxHeartbeats 4000000
namespace L2
namespace K12
open PySem PySem.Spec PL TL
open _root_.SX (S S_len S_cat S_tl S_inj split_S join_S num_S int_S)
/-! the text of an event: both -/
theorem cat (a b : List Nat) (h : a.length + b.length ≤ 2000) {x y : Str} (hx : x = S a) (hy : y = S b) : addF (.str x) (.str y) = some (.str (S (a ++ b))) := by
  rw [hx, hy]
  exact add_len a b h
theorem verb_at {t : Nat} (h : t ≤ 2) : ixF c_VERBS (.int t) = some (.str (S (verb t))) := by
  have : t = 0 ∨ t = 1 ∨ t = 2 := by omega
  rcases this with e | e | e <;> subst e <;> rfl
theorem verb_atL {t : Nat} (h : t ≤ 2) : ixF (.lst [.str ("yields" : Str), .str ("draws" : Str), .str ("beats" : Str)]) (.int t) = some (.str (S (verb t))) := by
  have : t = 0 ∨ t = 1 ∨ t = 2 := by omega
  rcases this with e | e | e <;> subst e <;> rfl
theorem told_cat {p v q : List Nat} (h1 : p.length ≤ 60) (h2 : v.length ≤ 12) (h3 : q.length ≤ 12) :
    addF (.str (S p)) (.str (" " : Str)) = some (.str (S (p ++ [32]))) ∧ addF (.str (S (p ++ [32]))) (.str (S v)) = some (.str (S (p ++ [32] ++ v))) ∧
    addF (.str (S (p ++ [32] ++ v))) (.str (" " : Str)) = some (.str (S (p ++ [32] ++ v ++ [32]))) ∧ addF (.str (S (p ++ [32] ++ v ++ [32]))) (.str (S q)) = some (.str (S (p ++ [32] ++ v ++ [32] ++ q))) :=
  ⟨cat p [32] (by simp; omega) rfl rfl, add_len _ _ (by simp; omega), cat (p ++ [32] ++ v) [32] (by simp; omega) rfl rfl, add_len _ _ (by simp; omega)⟩
theorem x_l_text {xs : List D} {ps : List (List Nat)} (h : Ev xs ps) : f_l_text [.tup xs] = .ok (.str (S (txt ps))) := by
  have n1 : negF (.int 1) = some (.int (-1)) := rfl
  have n2 : negF (.int 2) = some (.int (-2)) := rfl
  have n3 : negF (.int 3) = some (.int (-3)) := rfl
  have l3 : (3 : Nat) ≤ lim := by decide
  cases h with
  | leave p hp =>
    have l1 := isName_len hp
    have i0 : ixF (.tup [.str sLEAVE, sd p]) (.int 0) = some (.str sLEAVE) := rfl
    have i1 : ixF (.tup [.str sLEAVE, sd p]) (.int 1) = some (.str (S p)) := rfl
    have e0 : decide (sLEAVE = ("leave" : Str)) = true := by decide
    have a1 : addF (.str (S p)) (.str (" leaves" : Str)) = some (.str (S (p ++ ([32] ++ LEAVES)))) := cat p ([32] ++ LEAVES) (by have : LEAVES.length = 6 := rfl; simp; omega) rfl rfl
    rw [txt2]
    unfold f_l_text g_l_text runP
    generalize [.str sLEAVE, sd p] = X at *
    simp only [seqS, ifS, boolE, binE, unE, appE, ixOwnE, popOwnE, lenOwnE, cE, varE, retS, retNS, asgS, asgOwnS, parS, parOwnS, appendS, dropS, nopS, forS, forGo, seqI, range1I, range2I, enumI, rangeL, callE, callIO, callL, consA, nilA, nameT, tupT, consT, nilT, ownIxT, andE, orE, notE, andT, orT, notT, chainE, ifE, slE, someO, noO, lstE, lstF, appL, methE, isStrD, raiseS, rsIO, rsOf, own0, ofOpt, R.bind_ok, R.bind_er, R.bindS_ok, R.bindS_er, Option.bind_some, Option.map_some, List.map_cons, List.map_nil, List.cons_append, List.nil_append, List.replicate_succ, List.replicate_zero, List.getElem?_cons_zero, List.getElem?_cons_succ, List.length_cons, List.length_nil, List.set_cons_zero, List.set_cons_succ, isOwn, if_true, reduceIte, Bool.false_eq_true, Nat.reduceAdd, atI_0, atI_1, ixN_0, ixN_1, gt_int, lt_int, le_int, ge_int, add_int, sub_int, eq_int, ne_int, eq_str, ne_str, decide_true, decide_false, Nat.zero_add, i0, i1, e0, a1]
  | told p q t hp hq hne ht =>
    have l1 := isName_len hp
    have l2 := isName_len hq
    have lv := (verb_facts ht).1
    have i0 : ixF (.tup [.str sTOLD, sd p, sd q, .int t]) (.int 0) = some (.str sTOLD) := rfl
    have i1 : ixF (.tup [.str sTOLD, sd p, sd q, .int t]) (.int (-1)) = some (.int t) := rfl
    have i2 : ixF (.tup [.str sTOLD, sd p, sd q, .int t]) (.int (-2)) = some (.str (S q)) := rfl
    have i3 : ixF (.tup [.str sTOLD, sd p, sd q, .int t]) (.int (-3)) = some (.str (S p)) := rfl
    have e0 : decide (sTOLD = ("leave" : Str)) = false := by decide
    have e1 : decide (sTOLD = ("fix" : Str)) = false := by decide
    have a0 : addF (.str ("" : Str)) (.str (S p)) = some (.str (S ([] ++ p))) := cat [] p (by simp; omega) rfl rfl
    rw [List.nil_append] at a0
    obtain ⟨a1, a2, a3, a4⟩ := told_cat (p := p) (v := verb t) (q := q) (by omega) (by omega) (by omega)
    have vt := verb_atL ht
    have eq : txt [p, verb t, q] = p ++ [32] ++ verb t ++ [32] ++ q := by rw [txt3]; simp only [List.append_assoc]
    rw [eq]
    unfold f_l_text g_l_text runP
    generalize [.str sTOLD, sd p, sd q, .int t] = X at *
    simp only [seqS, ifS, boolE, binE, unE, appE, ixOwnE, popOwnE, lenOwnE, cE, varE, retS, retNS, asgS, asgOwnS, parS, parOwnS, appendS, dropS, nopS, forS, forGo, seqI, range1I, range2I, enumI, rangeL, callE, callIO, callL, consA, nilA, nameT, tupT, consT, nilT, ownIxT, andE, orE, notE, andT, orT, notT, chainE, ifE, slE, someO, noO, lstE, lstF, appL, methE, isStrD, raiseS, rsIO, rsOf, own0, ofOpt, R.bind_ok, R.bind_er, R.bindS_ok, R.bindS_er, Option.bind_some, Option.map_some, List.map_cons, List.map_nil, List.cons_append, List.nil_append, List.replicate_succ, List.replicate_zero, List.getElem?_cons_zero, List.getElem?_cons_succ, List.length_cons, List.length_nil, List.set_cons_zero, List.set_cons_succ, isOwn, if_true, reduceIte, Bool.false_eq_true, Nat.reduceAdd, atI_0, atI_1, ixN_0, ixN_1, gt_int, lt_int, le_int, ge_int, add_int, sub_int, eq_int, ne_int, eq_str, ne_str, decide_true, decide_false, Nat.zero_add, l3, i0, i1, i2, i3, e0, e1, n1, n2, n3, vt, a0, a1, a2, a3, a4]
  | fix n p q t hn hp hq hne ht =>
    have l1 := isName_len hp
    have l2 := isName_len hq
    have lv := (verb_facts ht).1
    have l4 := numL_len3 (n := n) (by omega)
    have i0 : ixF (.tup [.str sFIX, .int n, sd p, sd q, .int t]) (.int 0) = some (.str sFIX) := rfl
    have j1 : ixF (.tup [.str sFIX, .int n, sd p, sd q, .int t]) (.int 1) = some (.int n) := rfl
    have i1 : ixF (.tup [.str sFIX, .int n, sd p, sd q, .int t]) (.int (-1)) = some (.int t) := rfl
    have i2 : ixF (.tup [.str sFIX, .int n, sd p, sd q, .int t]) (.int (-2)) = some (.str (S q)) := rfl
    have i3 : ixF (.tup [.str sFIX, .int n, sd p, sd q, .int t]) (.int (-3)) = some (.str (S p)) := rfl
    have e0 : decide (sFIX = ("leave" : Str)) = false := by decide
    have e1 : decide (sFIX = ("fix" : Str)) = true := by decide
    have sn := strI_ok n (by omega)
    have lF : FIX.length = 3 := rfl
    have a5 : addF (.str ("fix " : Str)) (.str (S (numL n))) = some (.str (S ((FIX ++ [32]) ++ numL n))) := cat (FIX ++ [32]) (numL n) (by simp; omega) rfl rfl
    have a6 : addF (.str (S ((FIX ++ [32]) ++ numL n))) (.str (" " : Str)) = some (.str (S ((FIX ++ [32]) ++ numL n ++ [32]))) := cat _ [32] (by simp; omega) rfl rfl
    have a0 : addF (.str (S ((FIX ++ [32]) ++ numL n ++ [32]))) (.str (S p)) = some (.str (S ((FIX ++ [32]) ++ numL n ++ [32] ++ p))) := add_len _ _ (by simp; omega)
    obtain ⟨a1, a2, a3, a4⟩ := told_cat (p := (FIX ++ [32]) ++ numL n ++ [32] ++ p) (v := verb t) (q := q) (by simp; omega) (by omega) (by omega)
    have vt := verb_atL ht
    have eq : txt [FIX, numL n, p, verb t, q] = (FIX ++ [32]) ++ numL n ++ [32] ++ p ++ [32] ++ verb t ++ [32] ++ q := by rw [txt5]; simp only [List.append_assoc]
    rw [eq]
    unfold f_l_text g_l_text runP
    generalize [.str sFIX, .int n, sd p, sd q, .int t] = X at *
    simp only [seqS, ifS, boolE, binE, unE, appE, ixOwnE, popOwnE, lenOwnE, cE, varE, retS, retNS, asgS, asgOwnS, parS, parOwnS, appendS, dropS, nopS, forS, forGo, seqI, range1I, range2I, enumI, rangeL, callE, callIO, callL, consA, nilA, nameT, tupT, consT, nilT, ownIxT, andE, orE, notE, andT, orT, notT, chainE, ifE, slE, someO, noO, lstE, lstF, appL, methE, isStrD, raiseS, rsIO, rsOf, own0, ofOpt, R.bind_ok, R.bind_er, R.bindS_ok, R.bindS_er, Option.bind_some, Option.map_some, List.map_cons, List.map_nil, List.cons_append, List.nil_append, List.replicate_succ, List.replicate_zero, List.getElem?_cons_zero, List.getElem?_cons_succ, List.length_cons, List.length_nil, List.set_cons_zero, List.set_cons_succ, isOwn, if_true, reduceIte, Bool.false_eq_true, Nat.reduceAdd, atI_0, atI_1, ixN_0, ixN_1, gt_int, lt_int, le_int, ge_int, add_int, sub_int, eq_int, ne_int, eq_str, ne_str, decide_true, decide_false, Nat.zero_add, l3, i0, j1, i1, i2, i3, e0, e1, n1, n2, n3, vt, sn, a5, a6, a0, a1, a2, a3, a4]
theorem x_event_told {xs : List D} {ps : List (List Nat)} (h : Ev xs ps) : f_event_told [.tup xs] = .ok (.str (S (txt ps))) := by
  have n1 : negF (.int 1) = some (.int (-1)) := rfl
  have n2 : negF (.int 2) = some (.int (-2)) := rfl
  have n3 : negF (.int 3) = some (.int (-3)) := rfl
  have c1 : c_LEAVES = .str (S LEAVES) := rfl
  have c2 : c_LEAVE = .str sLEAVE := rfl
  have c3 : c_TOLD = .str sTOLD := rfl
  have c4 : c_FIX = .str (S FIX) := rfl
  cases h with
  | leave p hp =>
    have l1 := isName_len hp
    have i0 : ixF (.tup [.str sLEAVE, sd p]) (.int 0) = some (.str sLEAVE) := rfl
    have i1 : ixF (.tup [.str sLEAVE, sd p]) (.int 1) = some (.str (S p)) := rfl
    have a1 : addF (.str (S p)) (.str (" " : Str)) = some (.str (S (p ++ [32]))) := cat p [32] (by simp; omega) rfl rfl
    have a2 : addF (.str (S (p ++ [32]))) (.str (S LEAVES)) = some (.str (S (p ++ [32] ++ LEAVES))) := add_len _ _ (by have : LEAVES.length = 6 := rfl; simp; omega)
    have eq : txt [p, LEAVES] = p ++ [32] ++ LEAVES := by rw [txt2]; simp only [List.append_assoc]
    rw [eq]
    unfold f_event_told g_event_told runP
    generalize [.str sLEAVE, sd p] = X at *
    simp only [seqS, ifS, boolE, binE, unE, appE, ixOwnE, popOwnE, lenOwnE, cE, varE, retS, retNS, asgS, asgOwnS, parS, parOwnS, appendS, dropS, nopS, forS, forGo, seqI, range1I, range2I, enumI, rangeL, callE, callIO, callL, consA, nilA, nameT, tupT, consT, nilT, ownIxT, andE, orE, notE, andT, orT, notT, chainE, ifE, slE, someO, noO, lstE, lstF, appL, methE, isStrD, raiseS, rsIO, rsOf, own0, ofOpt, R.bind_ok, R.bind_er, R.bindS_ok, R.bindS_er, Option.bind_some, Option.map_some, List.map_cons, List.map_nil, List.cons_append, List.nil_append, List.replicate_succ, List.replicate_zero, List.getElem?_cons_zero, List.getElem?_cons_succ, List.length_cons, List.length_nil, List.set_cons_zero, List.set_cons_succ, isOwn, if_true, reduceIte, Bool.false_eq_true, Nat.reduceAdd, atI_0, atI_1, ixN_0, ixN_1, gt_int, lt_int, le_int, ge_int, add_int, sub_int, eq_int, ne_int, eq_str, ne_str, decide_true, decide_false, Nat.zero_add, i0, i1, c1, c2, a1, a2, eq_self]
  | told p q t hp hq hne ht =>
    have l1 := isName_len hp
    have l2 := isName_len hq
    have lv := (verb_facts ht).1
    have i0 : ixF (.tup [.str sTOLD, sd p, sd q, .int t]) (.int 0) = some (.str sTOLD) := rfl
    have i1 : ixF (.tup [.str sTOLD, sd p, sd q, .int t]) (.int (-1)) = some (.int t) := rfl
    have i2 : ixF (.tup [.str sTOLD, sd p, sd q, .int t]) (.int (-2)) = some (.str (S q)) := rfl
    have i3 : ixF (.tup [.str sTOLD, sd p, sd q, .int t]) (.int (-3)) = some (.str (S p)) := rfl
    have e0 : decide (sTOLD = sLEAVE) = false := by decide
    obtain ⟨a1, a2, a3, a4⟩ := told_cat (p := p) (v := verb t) (q := q) (by omega) (by omega) (by omega)
    have vt := verb_at ht
    have eq : txt [p, verb t, q] = p ++ [32] ++ verb t ++ [32] ++ q := by rw [txt3]; simp only [List.append_assoc]
    rw [eq]
    unfold f_event_told g_event_told runP
    generalize [.str sTOLD, sd p, sd q, .int t] = X at *
    simp only [seqS, ifS, boolE, binE, unE, appE, ixOwnE, popOwnE, lenOwnE, cE, varE, retS, retNS, asgS, asgOwnS, parS, parOwnS, appendS, dropS, nopS, forS, forGo, seqI, range1I, range2I, enumI, rangeL, callE, callIO, callL, consA, nilA, nameT, tupT, consT, nilT, ownIxT, andE, orE, notE, andT, orT, notT, chainE, ifE, slE, someO, noO, lstE, lstF, appL, methE, isStrD, raiseS, rsIO, rsOf, own0, ofOpt, R.bind_ok, R.bind_er, R.bindS_ok, R.bindS_er, Option.bind_some, Option.map_some, List.map_cons, List.map_nil, List.cons_append, List.nil_append, List.replicate_succ, List.replicate_zero, List.getElem?_cons_zero, List.getElem?_cons_succ, List.length_cons, List.length_nil, List.set_cons_zero, List.set_cons_succ, isOwn, if_true, reduceIte, Bool.false_eq_true, Nat.reduceAdd, atI_0, atI_1, ixN_0, ixN_1, gt_int, lt_int, le_int, ge_int, add_int, sub_int, eq_int, ne_int, eq_str, ne_str, decide_true, decide_false, Nat.zero_add, i0, i1, i2, i3, c2, c3, e0, n1, n2, n3, vt, a1, a2, a3, a4, eq_self]
  | fix n p q t hn hp hq hne ht =>
    have l1 := isName_len hp
    have l2 := isName_len hq
    have lv := (verb_facts ht).1
    have l4 := numL_len3 (n := n) (by omega)
    have i0 : ixF (.tup [.str sFIX, .int n, sd p, sd q, .int t]) (.int 0) = some (.str sFIX) := rfl
    have j1 : ixF (.tup [.str sFIX, .int n, sd p, sd q, .int t]) (.int 1) = some (.int n) := rfl
    have i1 : ixF (.tup [.str sFIX, .int n, sd p, sd q, .int t]) (.int (-1)) = some (.int t) := rfl
    have i2 : ixF (.tup [.str sFIX, .int n, sd p, sd q, .int t]) (.int (-2)) = some (.str (S q)) := rfl
    have i3 : ixF (.tup [.str sFIX, .int n, sd p, sd q, .int t]) (.int (-3)) = some (.str (S p)) := rfl
    have e0 : decide (sFIX = sLEAVE) = false := by decide
    have e1 : decide (sFIX = sTOLD) = false := by decide
    have sn := strI_ok n (by omega)
    have lF : FIX.length = 3 := rfl
    obtain ⟨a1, a2, a3, a4⟩ := told_cat (p := p) (v := verb t) (q := q) (by omega) (by omega) (by omega)
    have b1 : addF (.str (S FIX)) (.str (" " : Str)) = some (.str (S (FIX ++ [32]))) := cat FIX [32] (by simp; omega) rfl rfl
    have b2 : addF (.str (S (FIX ++ [32]))) (.str (S (numL n))) = some (.str (S (FIX ++ [32] ++ numL n))) := add_len _ _ (by simp; omega)
    have b3 : addF (.str (S (FIX ++ [32] ++ numL n))) (.str (" " : Str)) = some (.str (S (FIX ++ [32] ++ numL n ++ [32]))) := cat _ [32] (by simp; omega) rfl rfl
    have b4 : addF (.str (S (FIX ++ [32] ++ numL n ++ [32]))) (.str (S (p ++ [32] ++ verb t ++ [32] ++ q))) = some (.str (S (FIX ++ [32] ++ numL n ++ [32] ++ (p ++ [32] ++ verb t ++ [32] ++ q)))) := add_len _ _ (by simp; omega)
    have vt := verb_at ht
    have eq : txt [FIX, numL n, p, verb t, q] = FIX ++ [32] ++ numL n ++ [32] ++ (p ++ [32] ++ verb t ++ [32] ++ q) := by rw [txt5]; simp only [List.append_assoc]
    rw [eq]
    unfold f_event_told g_event_told runP
    generalize [.str sFIX, .int n, sd p, sd q, .int t] = X at *
    simp only [seqS, ifS, boolE, binE, unE, appE, ixOwnE, popOwnE, lenOwnE, cE, varE, retS, retNS, asgS, asgOwnS, parS, parOwnS, appendS, dropS, nopS, forS, forGo, seqI, range1I, range2I, enumI, rangeL, callE, callIO, callL, consA, nilA, nameT, tupT, consT, nilT, ownIxT, andE, orE, notE, andT, orT, notT, chainE, ifE, slE, someO, noO, lstE, lstF, appL, methE, isStrD, raiseS, rsIO, rsOf, own0, ofOpt, R.bind_ok, R.bind_er, R.bindS_ok, R.bindS_er, Option.bind_some, Option.map_some, List.map_cons, List.map_nil, List.cons_append, List.nil_append, List.replicate_succ, List.replicate_zero, List.getElem?_cons_zero, List.getElem?_cons_succ, List.length_cons, List.length_nil, List.set_cons_zero, List.set_cons_succ, isOwn, if_true, reduceIte, Bool.false_eq_true, Nat.reduceAdd, atI_0, atI_1, ixN_0, ixN_1, gt_int, lt_int, le_int, ge_int, add_int, sub_int, eq_int, ne_int, eq_str, ne_str, decide_true, decide_false, Nat.zero_add, i0, j1, i1, i2, i3, c2, c3, c4, e0, e1, n1, n2, n3, vt, sn, a1, a2, a3, a4, b1, b2, b3, b4, eq_self]
theorem ev_ok {xs : List D} {ps : List (List Nat)} (h : Ev xs ps) : ∀ w r, (.tup xs : D) = .tup (.str w :: r) → ∀ e ∈ r, okStr e := fun w r e d hd => by
  injection e with e
  subst e
  exact ((ev_items h).1 d (List.mem_cons_of_mem _ hd)).1
theorem x_is_form {xs : List D} {ps : List (List Nat)} (h : Ev xs ps) : f_is_event_form [.tup xs] = .ok (.bl true) := by
  rw [ev_prog _ (ev_ok h), ev_form h]
theorem x_event_text {xs : List D} {ps : List (List Nat)} (h : Ev xs ps) : f_event_text [.tup xs] = .ok (.str (S (txt ps))) := by
  have e1 := x_is_form h
  have e2 := x_event_told h
  unfold f_event_text g_event_text runP
  simp only [seqS, ifS, boolE, binE, unE, appE, ixOwnE, popOwnE, lenOwnE, cE, varE, retS, retNS, asgS, asgOwnS, parS, parOwnS, appendS, dropS, nopS, forS, forGo, seqI, range1I, range2I, enumI, rangeL, callE, callIO, callL, consA, nilA, nameT, tupT, consT, nilT, ownIxT, andE, orE, notE, andT, orT, notT, chainE, ifE, slE, someO, noO, lstE, lstF, appL, methE, isStrD, raiseS, rsIO, rsOf, own0, ofOpt, R.bind_ok, R.bind_er, R.bindS_ok, R.bindS_er, Option.bind_some, Option.map_some, List.map_cons, List.map_nil, List.cons_append, List.nil_append, List.replicate_succ, List.replicate_zero, List.getElem?_cons_zero, List.getElem?_cons_succ, List.length_cons, List.length_nil, List.set_cons_zero, List.set_cons_succ, isOwn, if_true, reduceIte, Bool.false_eq_true, Nat.reduceAdd, atI_0, atI_1, ixN_0, ixN_1, gt_int, lt_int, le_int, ge_int, add_int, sub_int, eq_int, ne_int, eq_str, ne_str, decide_true, decide_false, Nat.zero_add, e1, e2, Bool.not_true]
theorem x_event_text_no {d : D} (h : f_is_event_form [d] = .ok (.bl false)) : f_event_text [d] = .er ⟨"InvalidEvent", [("value", d)]⟩ := by
  unfold f_event_text g_event_text runP
  simp only [seqS, ifS, boolE, binE, unE, appE, ixOwnE, popOwnE, lenOwnE, cE, varE, retS, retNS, asgS, asgOwnS, parS, parOwnS, appendS, dropS, nopS, forS, forGo, seqI, range1I, range2I, enumI, rangeL, callE, callIO, callL, consA, nilA, nameT, tupT, consT, nilT, ownIxT, andE, orE, notE, andT, orT, notT, chainE, ifE, slE, someO, noO, lstE, lstF, appL, methE, isStrD, raiseS, rsIO, rsOf, own0, ofOpt, R.bind_ok, R.bind_er, R.bindS_ok, R.bindS_er, Option.bind_some, Option.map_some, List.map_cons, List.map_nil, List.cons_append, List.nil_append, List.replicate_succ, List.replicate_zero, List.getElem?_cons_zero, List.getElem?_cons_succ, List.length_cons, List.length_nil, List.set_cons_zero, List.set_cons_succ, isOwn, if_true, reduceIte, Bool.false_eq_true, Nat.reduceAdd, atI_0, atI_1, ixN_0, ixN_1, gt_int, lt_int, le_int, ge_int, add_int, sub_int, eq_int, ne_int, eq_str, ne_str, decide_true, decide_false, Nat.zero_add, h, Bool.not_false]
theorem x_of_text {xs : List D} {ps : List (List Nat)} (h : Ev xs ps) : f_event_of_text [.str (S (txt ps))] = .ok (.tup xs) := by
  obtain ⟨_, _, h3, _⟩ := ev_parts h
  rw [x_event_of_text (by omega) (txt_asc h), parts_txt h, ev_of h]
  rfl
end K12
end L2
set_option linter.all false
set_option maxRecDepth 100000
set_option maxHeartbeats 4000000
namespace L2
namespace K12
open PySem PySem.Spec PL TL
open _root_.SX (S S_len S_cat S_tl S_inj split_S join_S num_S int_S)
/-! drawn events, bent texts -/
def NM : List (List Nat) := [c' "a", c' "ann", c' "bob", c' "fix", c' "beats", c' "draws", c' "yields", c' "leaves", List.replicate 12 122, c' "fi", c' "beat"]
theorem NM_ok : ∀ p ∈ NM, isName p = true ∧ isName (121 :: p.take 11) = true ∧ 121 :: p.take 11 ≠ p := by decide
theorem x_l_name {a b : Int} (hp : PotOk a b) : ∃ (p : List Nat) (a' b' : Int), p ∈ NM ∧ f_l_name [.int a, .int b] [] = (.ok (.str (S p)), [.int a', .int b']) ∧ PotOk a' b' := by
  obtain ⟨d, a1, b1, e1, m1, p1⟩ := x_pick a b hp (NM.map sd) (by unfold NM; simp) (by unfold NM; simp)
  obtain ⟨p, hp', rfl⟩ := List.mem_map.mp m1
  refine ⟨p, a1, b1, hp', ?_, p1⟩
  have l11 : (11 : Nat) ≤ lim := by decide
  have z1 : mulF (.str ("z" : Str)) (.int 12) = some (.str (S (List.replicate 12 122))) := mulS 122 12 (by decide)
  have eL : NM.map sd = [.str ("a" : Str), .str ("ann" : Str), .str ("bob" : Str), .str ("fix" : Str), .str ("beats" : Str), .str ("draws" : Str), .str ("yields" : Str), .str ("leaves" : Str), .str (S (List.replicate 12 122)), .str ("fi" : Str), .str ("beat" : Str)] := rfl
  rw [eL] at e1
  generalize List.replicate 12 122 = z at *
  unfold sd at e1
  unfold f_l_name g_l_name runIO
  simp only [seqS, ifS, boolE, binE, unE, appE, ixOwnE, popOwnE, lenOwnE, cE, varE, retS, retNS, asgS, asgOwnS, parS, parOwnS, appendS, dropS, nopS, forS, forGo, seqI, range1I, range2I, enumI, rangeL, callE, callIO, callL, consA, nilA, nameT, tupT, consT, nilT, ownIxT, andE, orE, notE, andT, orT, notT, chainE, ifE, slE, someO, noO, lstE, lstF, appL, methE, isStrD, raiseS, rsIO, rsOf, own0, ofOpt, R.bind_ok, R.bind_er, R.bindS_ok, R.bindS_er, Option.bind_some, Option.map_some, List.map_cons, List.map_nil, List.cons_append, List.nil_append, List.replicate_succ, List.replicate_zero, List.getElem?_cons_zero, List.getElem?_cons_succ, List.length_cons, List.length_nil, List.set_cons_zero, List.set_cons_succ, isOwn, if_true, reduceIte, Bool.false_eq_true, Nat.reduceAdd, atI_0, atI_1, ixN_0, ixN_1, gt_int, lt_int, le_int, ge_int, add_int, sub_int, eq_int, ne_int, eq_str, ne_str, decide_true, decide_false, Nat.zero_add, l11, z1, e1]
def FN (n : Nat) : List D := [.int 0, .int 1, .int 9, .int 10, .int 99, .int n]
theorem FN_ok {n : Nat} (h : n < 100) : ∀ d ∈ FN n, ∃ m : Nat, m ≤ 99 ∧ d = .int m := by
  intro d hd
  unfold FN at hd
  simp only [List.mem_cons, List.not_mem_nil, or_false] at hd
  rcases hd with rfl | rfl | rfl | rfl | rfl | rfl
  · exact ⟨0, by decide, rfl⟩
  · exact ⟨1, by decide, rfl⟩
  · exact ⟨9, by decide, rfl⟩
  · exact ⟨10, by decide, rfl⟩
  · exact ⟨99, by decide, rfl⟩
  · exact ⟨n, by omega, rfl⟩
def dr1 : GS := (seqS (parS 1 2 (callIO 0 1 f_l_name nilA) (callIO 0 1 f_l_name nilA))
    (asgS (ifE (boolE (binE neF (varE 2) (varE 1))) (varE 2) (binE addF (cE (.str "y")) (slE (varE 1) noO (someO (cE (.int 11)))))) (nameT 2)))
def dr2 : GS := (seqS (asgS (callIO 0 2 f_l_draw (consA (cE (.int 5)) nilA)) (nameT 3))
    (seqS (ifS (boolE (binE eqF (varE 3) (cE (.int 0)))) (retS (appE tupF (consA (cE (.str "leave")) (consA (varE 1) nilA)))) nopS)
    (seqS (ifS (boolE (binE ltF (varE 3) (cE (.int 3)))) (retS (appE tupF (consA (cE (.str "told")) (consA (varE 1) (consA (varE 2) (consA (callIO 0 2 f_l_draw (consA (cE (.int 3)) nilA)) nilA)))))) nopS)
    (retS (appE tupF (consA (cE (.str "fix")) (consA (callIO 0 2 f_l_pick (consA (lstE (lstF (consA (cE (.int 0)) (consA (cE (.int 1)) (consA (cE (.int 9)) (consA (cE (.int 10)) (consA (cE (.int 99)) (consA (callIO 0 2 f_l_draw (consA (cE (.int 100)) nilA)) nilA)))))))) nilA)) (consA (varE 1) (consA (varE 2) (consA (callIO 0 2 f_l_draw (consA (cE (.int 3)) nilA)) nilA))))))))))
theorem drawn_is : ∀ ρ, g_l_drawn ρ = seqS dr1 dr2 ρ := fun ρ => by
  have : g_l_drawn = seqS (parS 1 2 (callIO 0 1 f_l_name nilA) (callIO 0 1 f_l_name nilA)) (seqS (asgS (ifE (boolE (binE neF (varE 2) (varE 1))) (varE 2) (binE addF (cE (.str "y")) (slE (varE 1) noO (someO (cE (.int 11)))))) (nameT 2)) dr2) := rfl
  rw [this, seqS_as]
  rfl
theorem dr1_ok {a b : Int} (hp : PotOk a b) : ∃ (p q : List Nat) (a' b' : Int), isName p = true ∧ isName q = true ∧ p ≠ q ∧ PotOk a' b' ∧ dr1 [.own [.int a, .int b], .un, .un, .un] = .nx [.own [.int a', .int b'], .d (.str (S p)), .d (.str (S q)), .un] := by
  obtain ⟨p, a1, b1, hp1, e1, p1⟩ := x_l_name hp
  obtain ⟨q, a2, b2, hq1, e2, p2⟩ := x_l_name p1
  obtain ⟨n1, n2, n3⟩ := NM_ok p hp1
  have n4 := (NM_ok q hq1).1
  have ne := S_eq q p
  have l1 := isName_len n1
  have sl : slF (.str (S p)) none (some 11) = some (.str (S (p.take 11))) := cut_to p 11 (by omega)
  have ad : addF (.str ("y" : Str)) (.str (S (p.take 11))) = some (.str (S ([121] ++ p.take 11))) := cat [121] (p.take 11) (by simp; omega) rfl rfl
  by_cases h : q = p
  · have hd : decide (S q = S p) = true := by rw [ne, decide_eq_true h]
    refine ⟨p, 121 :: p.take 11, a2, b2, n1, n2, fun h => n3 h.symm, p2, ?_⟩
    unfold dr1
    simp only [seqS, ifS, boolE, binE, unE, appE, ixOwnE, popOwnE, lenOwnE, cE, varE, retS, retNS, asgS, asgOwnS, parS, parOwnS, appendS, dropS, nopS, forS, forGo, seqI, range1I, range2I, enumI, rangeL, callE, callIO, callL, consA, nilA, nameT, tupT, consT, nilT, ownIxT, andE, orE, notE, andT, orT, notT, chainE, ifE, slE, someO, noO, lstE, lstF, appL, methE, isStrD, raiseS, rsIO, rsOf, own0, ofOpt, R.bind_ok, R.bind_er, R.bindS_ok, R.bindS_er, Option.bind_some, Option.map_some, List.map_cons, List.map_nil, List.cons_append, List.nil_append, List.replicate_succ, List.replicate_zero, List.getElem?_cons_zero, List.getElem?_cons_succ, List.length_cons, List.length_nil, List.set_cons_zero, List.set_cons_succ, isOwn, if_true, reduceIte, Bool.false_eq_true, Nat.reduceAdd, atI_0, atI_1, ixN_0, ixN_1, gt_int, lt_int, le_int, ge_int, add_int, sub_int, eq_int, ne_int, eq_str, ne_str, decide_true, decide_false, Nat.zero_add, e1, e2, hd, sl, ad, Bool.not_true]
  · have hd : decide (S q = S p) = false := by rw [ne, decide_eq_false h]
    refine ⟨p, q, a2, b2, n1, n4, fun z => h z.symm, p2, ?_⟩
    unfold dr1
    simp only [seqS, ifS, boolE, binE, unE, appE, ixOwnE, popOwnE, lenOwnE, cE, varE, retS, retNS, asgS, asgOwnS, parS, parOwnS, appendS, dropS, nopS, forS, forGo, seqI, range1I, range2I, enumI, rangeL, callE, callIO, callL, consA, nilA, nameT, tupT, consT, nilT, ownIxT, andE, orE, notE, andT, orT, notT, chainE, ifE, slE, someO, noO, lstE, lstF, appL, methE, isStrD, raiseS, rsIO, rsOf, own0, ofOpt, R.bind_ok, R.bind_er, R.bindS_ok, R.bindS_er, Option.bind_some, Option.map_some, List.map_cons, List.map_nil, List.cons_append, List.nil_append, List.replicate_succ, List.replicate_zero, List.getElem?_cons_zero, List.getElem?_cons_succ, List.length_cons, List.length_nil, List.set_cons_zero, List.set_cons_succ, isOwn, if_true, reduceIte, Bool.false_eq_true, Nat.reduceAdd, atI_0, atI_1, ixN_0, ixN_1, gt_int, lt_int, le_int, ge_int, add_int, sub_int, eq_int, ne_int, eq_str, ne_str, decide_true, decide_false, Nat.zero_add, e1, e2, hd, sl, ad, Bool.not_false]
theorem x_l_drawn {a b : Int} (hp : PotOk a b) : ∃ (xs : List D) (ps : List (List Nat)) (a' b' : Int), f_l_drawn [.int a, .int b] [] = (.ok (.tup xs), [.int a', .int b']) ∧ Ev xs ps ∧ PotOk a' b' := by
  obtain ⟨p, q, a1, b1, hp1, hq1, hne, p1, e1⟩ := dr1_ok hp
  obtain ⟨w, a2, b2, e2, hw, p2⟩ := x_drawN a1 b1 5 p1 (by decide)
  have e2' : f_l_draw [.int a1, .int b1] [.int 5] = _ := e2
  have t2 : ∀ x y : D, tupF [x, y] = some (.tup [x, y]) := fun _ _ => rfl
  have t4 : ∀ x y z t : D, tupF [x, y, z, t] = some (.tup [x, y, z, t]) := fun _ _ _ _ => rfl
  have t5 : ∀ x y z t u : D, tupF [x, y, z, t, u] = some (.tup [x, y, z, t, u]) := fun _ _ _ _ _ => rfl
  have z : f_l_drawn [.int a, .int b] [] = rsIO (seqS dr1 dr2 [.own [.int a, .int b], .un, .un, .un]) := by
    rw [← drawn_is]
    rfl
  rw [z, seqS_nx e1]
  by_cases w0 : w = 0
  · have k0 : ((w : Nat) : Int) = 0 := by omega
    refine ⟨_, _, a2, b2, ?_, Ev.leave p hp1, p2⟩
    unfold dr2
    simp only [seqS, ifS, boolE, binE, unE, appE, ixOwnE, popOwnE, lenOwnE, cE, varE, retS, retNS, asgS, asgOwnS, parS, parOwnS, appendS, dropS, nopS, forS, forGo, seqI, range1I, range2I, enumI, rangeL, callE, callIO, callL, consA, nilA, nameT, tupT, consT, nilT, ownIxT, andE, orE, notE, andT, orT, notT, chainE, ifE, slE, someO, noO, lstE, lstF, appL, methE, isStrD, raiseS, rsIO, rsOf, own0, ofOpt, R.bind_ok, R.bind_er, R.bindS_ok, R.bindS_er, Option.bind_some, Option.map_some, List.map_cons, List.map_nil, List.cons_append, List.nil_append, List.replicate_succ, List.replicate_zero, List.getElem?_cons_zero, List.getElem?_cons_succ, List.length_cons, List.length_nil, List.set_cons_zero, List.set_cons_succ, isOwn, if_true, reduceIte, Bool.false_eq_true, Nat.reduceAdd, atI_0, atI_1, ixN_0, ixN_1, gt_int, lt_int, le_int, ge_int, add_int, sub_int, eq_int, ne_int, eq_str, ne_str, decide_true, decide_false, Nat.zero_add, e2', k0, t2]
    rfl
  · have k0 : ¬ ((w : Nat) : Int) = 0 := by omega
    by_cases w3 : w < 3
    · have k3 : ((w : Nat) : Int) < 3 := by omega
      obtain ⟨t, a3, b3, e3, ht, p3⟩ := x_drawN a2 b2 3 p2 (by decide)
      have e3' : f_l_draw [.int a2, .int b2] [.int 3] = _ := e3
      refine ⟨_, _, a3, b3, ?_, Ev.told p q t hp1 hq1 hne (by omega), p3⟩
      unfold dr2
      simp only [seqS, ifS, boolE, binE, unE, appE, ixOwnE, popOwnE, lenOwnE, cE, varE, retS, retNS, asgS, asgOwnS, parS, parOwnS, appendS, dropS, nopS, forS, forGo, seqI, range1I, range2I, enumI, rangeL, callE, callIO, callL, consA, nilA, nameT, tupT, consT, nilT, ownIxT, andE, orE, notE, andT, orT, notT, chainE, ifE, slE, someO, noO, lstE, lstF, appL, methE, isStrD, raiseS, rsIO, rsOf, own0, ofOpt, R.bind_ok, R.bind_er, R.bindS_ok, R.bindS_er, Option.bind_some, Option.map_some, List.map_cons, List.map_nil, List.cons_append, List.nil_append, List.replicate_succ, List.replicate_zero, List.getElem?_cons_zero, List.getElem?_cons_succ, List.length_cons, List.length_nil, List.set_cons_zero, List.set_cons_succ, isOwn, if_true, reduceIte, Bool.false_eq_true, Nat.reduceAdd, atI_0, atI_1, ixN_0, ixN_1, gt_int, lt_int, le_int, ge_int, add_int, sub_int, eq_int, ne_int, eq_str, ne_str, decide_true, decide_false, Nat.zero_add, e2', k0, k3, e3', t2, t4]
      rfl
    · have k3 : ¬ ((w : Nat) : Int) < 3 := by omega
      obtain ⟨n, a3, b3, e3, hn, p3⟩ := x_drawN a2 b2 100 p2 (by decide)
      have e3' : f_l_draw [.int a2, .int b2] [.int 100] = _ := e3
      obtain ⟨d, a4, b4, e4, hd, p4⟩ := x_pick a3 b3 p3 (FN n) (by unfold FN; simp) (by unfold FN; simp)
      obtain ⟨m, hm, rfl⟩ := FN_ok hn d hd
      obtain ⟨t, a5, b5, e5, ht, p5⟩ := x_drawN a4 b4 3 p4 (by decide)
      have e5' : f_l_draw [.int a4, .int b4] [.int 3] = _ := e5
      refine ⟨_, _, a5, b5, ?_, Ev.fix m p q t hm hp1 hq1 hne (by omega), p5⟩
      have l6 : (6 : Nat) ≤ lim := by decide
      unfold FN at e4
      unfold dr2
      simp only [seqS, ifS, boolE, binE, unE, appE, ixOwnE, popOwnE, lenOwnE, cE, varE, retS, retNS, asgS, asgOwnS, parS, parOwnS, appendS, dropS, nopS, forS, forGo, seqI, range1I, range2I, enumI, rangeL, callE, callIO, callL, consA, nilA, nameT, tupT, consT, nilT, ownIxT, andE, orE, notE, andT, orT, notT, chainE, ifE, slE, someO, noO, lstE, lstF, appL, methE, isStrD, raiseS, rsIO, rsOf, own0, ofOpt, R.bind_ok, R.bind_er, R.bindS_ok, R.bindS_er, Option.bind_some, Option.map_some, List.map_cons, List.map_nil, List.cons_append, List.nil_append, List.replicate_succ, List.replicate_zero, List.getElem?_cons_zero, List.getElem?_cons_succ, List.length_cons, List.length_nil, List.set_cons_zero, List.set_cons_succ, isOwn, if_true, reduceIte, Bool.false_eq_true, Nat.reduceAdd, atI_0, atI_1, ixN_0, ixN_1, gt_int, lt_int, le_int, ge_int, add_int, sub_int, eq_int, ne_int, eq_str, ne_str, decide_true, decide_false, Nat.zero_add, e2', k0, k3, e3', e4, e5', l6, t2, t4, t5]
      rfl
def BS : List (List Nat) := [[97], [32], [48], [122], [115], [49], [65], [126], [10]]
theorem BS_ok : ∀ p ∈ BS, p.length = 1 ∧ asc p = true := by decide
theorem x_l_bent {a b : Int} (hp : PotOk a b) (x : List Nat) (h1 : 1 ≤ x.length) (h2 : x.length ≤ 107) (ha : asc x = true) :
    ∃ (l : List Nat) (a' b' : Int), f_l_bent [.int a, .int b] [.str (S x)] = (.ok (.str (S l)), [.int a', .int b']) ∧ l.length ≤ 600 ∧ asc l = true ∧ PotOk a' b' := by
  obtain ⟨i, a1, b1, e1, hi, p1⟩ := x_drawN a b x.length hp ⟨h1, by omega⟩
  obtain ⟨w, a2, b2, e2, hw, p2⟩ := x_drawN a1 b1 6 p1 (by decide)
  have e2' : f_l_draw [.int a1, .int b1] [.int 6] = _ := e2
  obtain ⟨d, a3, b3, e3, hd, p3⟩ := x_pick a2 b2 p2 (BS.map sd) (by unfold BS; simp) (by unfold BS; simp)
  obtain ⟨c, hc, rfl⟩ := List.mem_map.mp hd
  obtain ⟨cl, hc7⟩ := BS_ok c hc
  have eL : BS.map sd = [.str ("a" : Str), .str (" " : Str), .str ("0" : Str), .str ("z" : Str), .str ("s" : Str), .str ("1" : Str), .str ("A" : Str), .str ("~" : Str), .str ("\n" : Str)] := rfl
  rw [eL] at e3
  unfold sd at e3
  have l9 : (9 : Nat) ≤ lim := by decide
  have l1 := lenS x (by omega)
  obtain ⟨q1, s1, k1, t1⟩ := cut_any x none (some (i : Int)) (by omega) ha
  obtain ⟨q2, s2, k2, t2⟩ := cut_any x (some ((i : Int) + 1)) none (by omega) ha
  obtain ⟨q3, s3, k3, t3⟩ := cut_any x (some (i : Int)) none (by omega) ha
  have d1 := add_len q1 c (by omega)
  have d2 := add_len (q1 ++ c) q2 (by simp; omega)
  have d3 := add_len (q1 ++ c) q3 (by simp; omega)
  have d4 := add_len q1 q2 (by omega)
  have d5 := add_len x c (by omega)
  have d6 : addF (.str (S x)) (.str (" " : Str)) = some (.str (S (x ++ [32]))) := cat x [32] (by simp; omega) rfl rfl
  have d7 := add_len (x ++ [32]) x (by simp; omega)
  have a32 : asc [32] = true := by decide
  by_cases w0 : w = 0
  · have m0 : ((w : Nat) : Int) = 0 := by omega
    refine ⟨q1 ++ c ++ q2, a3, b3, ?_, by simp; omega, asc_app (asc_app t1 hc7) t2, p3⟩
    unfold f_l_bent g_l_bent runIO
    simp only [seqS, ifS, boolE, binE, unE, appE, ixOwnE, popOwnE, lenOwnE, cE, varE, retS, retNS, asgS, asgOwnS, parS, parOwnS, appendS, dropS, nopS, forS, forGo, seqI, range1I, range2I, enumI, rangeL, callE, callIO, callL, consA, nilA, nameT, tupT, consT, nilT, ownIxT, andE, orE, notE, andT, orT, notT, chainE, ifE, slE, someO, noO, lstE, lstF, appL, methE, isStrD, raiseS, rsIO, rsOf, own0, ofOpt, R.bind_ok, R.bind_er, R.bindS_ok, R.bindS_er, Option.bind_some, Option.map_some, List.map_cons, List.map_nil, List.cons_append, List.nil_append, List.replicate_succ, List.replicate_zero, List.getElem?_cons_zero, List.getElem?_cons_succ, List.length_cons, List.length_nil, List.set_cons_zero, List.set_cons_succ, isOwn, if_true, reduceIte, Bool.false_eq_true, Nat.reduceAdd, atI_0, atI_1, ixN_0, ixN_1, gt_int, lt_int, le_int, ge_int, add_int, sub_int, eq_int, ne_int, eq_str, ne_str, decide_true, decide_false, Nat.zero_add, l1, l9, e1, e2', e3, s1, s2, d1, d2, m0]
  have m0 : ¬ ((w : Nat) : Int) = 0 := by omega
  by_cases w1 : w = 1
  · have m1 : decide (((w : Nat) : Int) = 1) = true := decide_eq_true (by omega)
    refine ⟨q1 ++ c ++ q3, a3, b3, ?_, by simp; omega, asc_app (asc_app t1 hc7) t3, p3⟩
    unfold f_l_bent g_l_bent runIO
    generalize ((w : Nat) : Int) = W at *
    simp only [seqS, ifS, boolE, binE, unE, appE, ixOwnE, popOwnE, lenOwnE, cE, varE, retS, retNS, asgS, asgOwnS, parS, parOwnS, appendS, dropS, nopS, forS, forGo, seqI, range1I, range2I, enumI, rangeL, callE, callIO, callL, consA, nilA, nameT, tupT, consT, nilT, ownIxT, andE, orE, notE, andT, orT, notT, chainE, ifE, slE, someO, noO, lstE, lstF, appL, methE, isStrD, raiseS, rsIO, rsOf, own0, ofOpt, R.bind_ok, R.bind_er, R.bindS_ok, R.bindS_er, Option.bind_some, Option.map_some, List.map_cons, List.map_nil, List.cons_append, List.nil_append, List.replicate_succ, List.replicate_zero, List.getElem?_cons_zero, List.getElem?_cons_succ, List.length_cons, List.length_nil, List.set_cons_zero, List.set_cons_succ, isOwn, if_true, reduceIte, Bool.false_eq_true, Nat.reduceAdd, atI_0, atI_1, ixN_0, ixN_1, gt_int, lt_int, le_int, ge_int, add_int, sub_int, eq_int, ne_int, eq_str, ne_str, decide_true, decide_false, Nat.zero_add, l1, l9, e1, e2', e3, s1, s2, s3, d1, d2, d3, m0, m1]
  have m1 : ¬ ((w : Nat) : Int) = 1 := by omega
  by_cases w2 : w = 2
  · have m2 : decide (((w : Nat) : Int) = 2) = true := decide_eq_true (by omega)
    refine ⟨q1 ++ q2, a3, b3, ?_, by simp; omega, asc_app t1 t2, p3⟩
    unfold f_l_bent g_l_bent runIO
    generalize ((w : Nat) : Int) = W at *
    simp only [seqS, ifS, boolE, binE, unE, appE, ixOwnE, popOwnE, lenOwnE, cE, varE, retS, retNS, asgS, asgOwnS, parS, parOwnS, appendS, dropS, nopS, forS, forGo, seqI, range1I, range2I, enumI, rangeL, callE, callIO, callL, consA, nilA, nameT, tupT, consT, nilT, ownIxT, andE, orE, notE, andT, orT, notT, chainE, ifE, slE, someO, noO, lstE, lstF, appL, methE, isStrD, raiseS, rsIO, rsOf, own0, ofOpt, R.bind_ok, R.bind_er, R.bindS_ok, R.bindS_er, Option.bind_some, Option.map_some, List.map_cons, List.map_nil, List.cons_append, List.nil_append, List.replicate_succ, List.replicate_zero, List.getElem?_cons_zero, List.getElem?_cons_succ, List.length_cons, List.length_nil, List.set_cons_zero, List.set_cons_succ, isOwn, if_true, reduceIte, Bool.false_eq_true, Nat.reduceAdd, atI_0, atI_1, ixN_0, ixN_1, gt_int, lt_int, le_int, ge_int, add_int, sub_int, eq_int, ne_int, eq_str, ne_str, decide_true, decide_false, Nat.zero_add, l1, l9, e1, e2', e3, s1, s2, s3, d1, d2, d3, d4, m0, m1, m2]
  have m2 : ¬ ((w : Nat) : Int) = 2 := by omega
  by_cases w3 : w = 3
  · have m3 : decide (((w : Nat) : Int) = 3) = true := decide_eq_true (by omega)
    refine ⟨q1, a3, b3, ?_, by omega, t1, p3⟩
    unfold f_l_bent g_l_bent runIO
    generalize ((w : Nat) : Int) = W at *
    simp only [seqS, ifS, boolE, binE, unE, appE, ixOwnE, popOwnE, lenOwnE, cE, varE, retS, retNS, asgS, asgOwnS, parS, parOwnS, appendS, dropS, nopS, forS, forGo, seqI, range1I, range2I, enumI, rangeL, callE, callIO, callL, consA, nilA, nameT, tupT, consT, nilT, ownIxT, andE, orE, notE, andT, orT, notT, chainE, ifE, slE, someO, noO, lstE, lstF, appL, methE, isStrD, raiseS, rsIO, rsOf, own0, ofOpt, R.bind_ok, R.bind_er, R.bindS_ok, R.bindS_er, Option.bind_some, Option.map_some, List.map_cons, List.map_nil, List.cons_append, List.nil_append, List.replicate_succ, List.replicate_zero, List.getElem?_cons_zero, List.getElem?_cons_succ, List.length_cons, List.length_nil, List.set_cons_zero, List.set_cons_succ, isOwn, if_true, reduceIte, Bool.false_eq_true, Nat.reduceAdd, atI_0, atI_1, ixN_0, ixN_1, gt_int, lt_int, le_int, ge_int, add_int, sub_int, eq_int, ne_int, eq_str, ne_str, decide_true, decide_false, Nat.zero_add, l1, l9, e1, e2', e3, s1, s2, s3, d1, d2, d3, d4, m0, m1, m2, m3]
  have m3 : ¬ ((w : Nat) : Int) = 3 := by omega
  by_cases w4 : w = 4
  · have m4 : decide (((w : Nat) : Int) = 4) = true := decide_eq_true (by omega)
    refine ⟨x ++ c, a3, b3, ?_, by simp; omega, asc_app ha hc7, p3⟩
    unfold f_l_bent g_l_bent runIO
    generalize ((w : Nat) : Int) = W at *
    simp only [seqS, ifS, boolE, binE, unE, appE, ixOwnE, popOwnE, lenOwnE, cE, varE, retS, retNS, asgS, asgOwnS, parS, parOwnS, appendS, dropS, nopS, forS, forGo, seqI, range1I, range2I, enumI, rangeL, callE, callIO, callL, consA, nilA, nameT, tupT, consT, nilT, ownIxT, andE, orE, notE, andT, orT, notT, chainE, ifE, slE, someO, noO, lstE, lstF, appL, methE, isStrD, raiseS, rsIO, rsOf, own0, ofOpt, R.bind_ok, R.bind_er, R.bindS_ok, R.bindS_er, Option.bind_some, Option.map_some, List.map_cons, List.map_nil, List.cons_append, List.nil_append, List.replicate_succ, List.replicate_zero, List.getElem?_cons_zero, List.getElem?_cons_succ, List.length_cons, List.length_nil, List.set_cons_zero, List.set_cons_succ, isOwn, if_true, reduceIte, Bool.false_eq_true, Nat.reduceAdd, atI_0, atI_1, ixN_0, ixN_1, gt_int, lt_int, le_int, ge_int, add_int, sub_int, eq_int, ne_int, eq_str, ne_str, decide_true, decide_false, Nat.zero_add, l1, l9, e1, e2', e3, s1, s2, s3, d1, d2, d3, d4, d5, m0, m1, m2, m3, m4]
  have m4 : decide (((w : Nat) : Int) = 4) = false := decide_eq_false (by omega)
  refine ⟨x ++ [32] ++ x, a3, b3, ?_, by simp; omega, asc_app (asc_app ha a32) ha, p3⟩
  unfold f_l_bent g_l_bent runIO
  generalize ((w : Nat) : Int) = W at *
  simp only [seqS, ifS, boolE, binE, unE, appE, ixOwnE, popOwnE, lenOwnE, cE, varE, retS, retNS, asgS, asgOwnS, parS, parOwnS, appendS, dropS, nopS, forS, forGo, seqI, range1I, range2I, enumI, rangeL, callE, callIO, callL, consA, nilA, nameT, tupT, consT, nilT, ownIxT, andE, orE, notE, andT, orT, notT, chainE, ifE, slE, someO, noO, lstE, lstF, appL, methE, isStrD, raiseS, rsIO, rsOf, own0, ofOpt, R.bind_ok, R.bind_er, R.bindS_ok, R.bindS_er, Option.bind_some, Option.map_some, List.map_cons, List.map_nil, List.cons_append, List.nil_append, List.replicate_succ, List.replicate_zero, List.getElem?_cons_zero, List.getElem?_cons_succ, List.length_cons, List.length_nil, List.set_cons_zero, List.set_cons_succ, isOwn, if_true, reduceIte, Bool.false_eq_true, Nat.reduceAdd, atI_0, atI_1, ixN_0, ixN_1, gt_int, lt_int, le_int, ge_int, add_int, sub_int, eq_int, ne_int, eq_str, ne_str, decide_true, decide_false, Nat.zero_add, l1, l9, e1, e2', e3, s1, s2, s3, d1, d2, d3, d4, d5, d6, d7, m0, m1, m2, m3, m4]
end K12
end L2
set_option linter.all false
set_option maxRecDepth 100000
set_option maxHeartbeats 4000000
namespace L2
namespace K12
open PySem PySem.Spec PL TL
open _root_.SX (S S_len S_cat S_tl S_inj split_S join_S num_S int_S)
/-! an event is right -/
theorem eq_same {ds : List D} {p : PyData} (h : (D.lst ds).toP = some p) (hs : SeqAt.shaped p = true) : eqF (.lst ds) (.lst ds) = some (.bl true) := by
  have e : eqF (.lst ds) (.lst ds) = eqPF false (.lst ds) (.lst ds) := rfl
  rw [e]
  unfold eqPF
  rw [h]
  show (if (SeqAt.shaped p && SeqAt.shaped p) = true then _ else _) = _
  rw [hs]
  have hc : p.canLay0 = true := (Bool.and_eq_true_iff.mp hs).1
  show some (D.bl (PyData.eqv p p)) = _
  rw [SeqAt.eqv_refl p hc]
def L12 : List D := [.non, .bl true, .int 3, .int (-1), .int 100, .str ("Ann" : Str), .str ("" : Str), .str (S (List.replicate 13 122)), .str ("told" : Str), .str ("leave" : Str), .str ("fix" : Str), .tup [.str ("a" : Str)]]
theorem part_ok : ∀ d ∈ L12, OkD d := by
  intro d hd
  unfold L12 at hd
  simp only [List.mem_cons, List.not_mem_nil, or_false] at hd
  rcases hd with rfl | rfl | rfl | rfl | rfl | rfl | rfl | rfl | rfl | rfl | rfl | rfl
  · exact ⟨(fun x h => by cases h), FD.non.up (Nat.le_refl _) (by decide)⟩
  · exact ⟨(fun x h => by cases h), FD.bl.up (Nat.le_refl _) (by decide)⟩
  · exact ⟨(fun x h => by cases h), (FD.int (by decide)).up (Nat.le_refl _) (by decide)⟩
  · exact ⟨(fun x h => by cases h), (FD.int (by decide)).up (Nat.le_refl _) (by decide)⟩
  · exact ⟨(fun x h => by cases h), (FD.int (by decide)).up (Nat.le_refl _) (by decide)⟩
  · exact okS (p := c' "Ann") (by decide) (by decide)
  · exact okS (p := []) (by decide) (by decide)
  · exact okS (p := List.replicate 13 122) (by decide) (by decide)
  · exact okS (p := c' "told") (by decide) (by decide)
  · exact okS (p := c' "leave") (by decide) (by decide)
  · exact okS (p := c' "fix") (by decide) (by decide)
  · exact ⟨(fun x h => by cases h), (FDs.tup (k := 0) (.cons (FD.str (by decide) (by decide)) .nil)).up (Nat.le_refl _) (by decide)⟩
def L6 (xs : List D) (w : List Nat) (i : Nat) (part : D) : List D := [.tup (xs.take i ++ [part] ++ xs.drop (i + 1)), .tup xs.dropLast, .tup (xs ++ [.int 0]), .lst xs, .non, .str (S w)]
structure Odd (odd : D) : Prop where
  fd : FD odd 2 3000
  one : f_is_event_form [odd] = .ok (.bl (evForm odd))
  two : f_l_is_event [odd] = .ok (.bl (evForm odd))
theorem up8 {ds : List D} (h : ∀ d ∈ ds, OkD d) (hl : ds.length ≤ 8) : FDs ds 1 2000 := by
  obtain ⟨ps, q1, q2, q3, q4⟩ := FDs.all (k := 1) (c := 200) fun d hd => (h d hd).2
  exact ⟨ps, q1, q2, q3, by omega⟩
theorem odd_tup {ds : List D} (h : ∀ d ∈ ds, OkD d) (hl : ds.length ≤ 8) : Odd (.tup ds) := by
  have o1 : ∀ w r, (.tup ds : D) = .tup (.str w :: r) → ∀ e ∈ r, okStr e := fun w r e d hd => by
    injection e with e
    subst e
    exact (h d (List.mem_cons_of_mem _ hd)).1
  exact ⟨(up8 h hl).tup.up (Nat.le_refl _) (by decide), ev_prog _ o1, ev_law _ o1 fun xs e => by
    injection e with e
    subst e
    exact ⟨1, _, up8 h hl, by decide⟩⟩
theorem odd_no {d : D} (h : ∀ xs, d ≠ .tup xs) (hf : FD d 2 3000) : Odd d :=
  ⟨hf, ev_prog _ fun w r e => absurd e (h _), ev_law _ (fun w r e => absurd e (h _)) fun xs e => absurd e (h _)⟩
theorem odd_ok {xs : List D} {ps : List (List Nat)} (ev : Ev xs ps) {w : List Nat} (hw : w.length ≤ 13 ∧ asc w = true) {i : Nat} {part odd : D} (hp : OkD part) (h : odd ∈ L6 xs w i part) : Odd odd := by
  obtain ⟨ho, h2, h5, _⟩ := ev_items ev
  have i0 : OkD (.int 0) := okNat (n := 0) (by decide)
  unfold L6 at h
  simp only [List.mem_cons, List.not_mem_nil, or_false] at h
  rcases h with rfl | rfl | rfl | rfl | rfl | rfl
  · refine odd_tup (fun d hd => ?_) ?_
    · rcases List.mem_append.mp hd with hd | hd
      · rcases List.mem_append.mp hd with hd | hd
        · exact ho d (List.mem_of_mem_take hd)
        · rw [List.mem_singleton.mp hd]; exact hp
      · exact ho d (List.mem_of_mem_drop hd)
    · rw [List.length_append, List.length_append, List.length_take, List.length_drop, List.length_singleton]
      omega
  · exact odd_tup (fun d hd => ho d (List.mem_of_mem_take (List.dropLast_eq_take ▸ hd))) (by rw [List.length_dropLast]; omega)
  · refine odd_tup (fun d hd => ?_) (by rw [List.length_append, List.length_singleton]; omega)
    rcases List.mem_append.mp hd with hd | hd
    · exact ho d hd
    · rw [List.mem_singleton.mp hd]; exact i0
  · exact odd_no (fun xs h => by cases h) ((up8 ho (by omega)).lst.up (Nat.le_refl _) (by decide))
  · exact odd_no (fun xs h => by cases h) (FD.non.up (Nat.le_refl _) (by decide))
  · exact odd_no (fun xs h => by cases h) ((fdS (by omega) hw.2).up (Nat.le_refl _) (by omega))
def E1 : GS := (asgS (callE 1 f_l_text (consA (varE 1) nilA)) (nameT 2))
def E2 : GS := (ifS (orT (boolE (binE neF (appE reprF (consA (lstE (lstF (consA (callE 1 f_event_text (consA (varE 1) nilA)) (consA (callE 1 f_event_text (consA (varE 1) nilA)) (consA (callE 1 f_event_of_text (consA (varE 2) nilA)) nilA))))) nilA)) (appE reprF (consA (lstE (lstF (consA (varE 2) (consA (varE 2) (consA (varE 1) nilA))))) nilA)))) (boolE (binE isNotF (callE 1 f_is_event_form (consA (varE 1) nilA)) (cE (.bl true))))) (retS (cE (.bl false))) nopS)
def E3 : GS := (asgS (callIO 0 2 f_l_draw (consA (appE lenF (consA (varE 1) nilA)) nilA)) (nameT 3))
def E4 : GS := (asgS (callIO 0 2 f_l_pick (consA (lstE (lstF (consA (cE .non) (consA (cE (.bl true)) (consA (cE (.int 3)) (consA (unE negF (cE (.int 1))) (consA (cE (.int 100)) (consA (cE (.str "Ann")) (consA (cE (.str "")) (consA (binE mulF (cE (.str "z")) (cE (.int 13))) (consA (cE (.str "told")) (consA (cE (.str "leave")) (consA (cE (.str "fix")) (consA (appE tupF (consA (cE (.str "a")) nilA)) nilA)))))))))))))) nilA)) (nameT 4))
def E5 : GS := (asgS (callIO 0 2 f_l_pick (consA (lstE (lstF (consA (binE addF (binE addF (slE (varE 1) noO (someO (varE 3))) (appE tupF (consA (varE 4) nilA))) (slE (varE 1) (someO (binE addF (varE 3) (cE (.int 1)))) noO)) (consA (slE (varE 1) noO (someO (unE negF (cE (.int 1))))) (consA (binE addF (varE 1) (appE tupF (consA (cE (.int 0)) nilA))) (consA (lstE (appL listF (consA (varE 1) nilA))) (consA (cE .non) (consA (binE ixF (varE 1) (cE (.int 0))) nilA)))))))) nilA)) (nameT 5))
def E6 : GS := (asgS (callE 1 f_l_is_event (consA (varE 5) nilA)) (nameT 6))
def E7 : GS := (ifS (boolE (binE neF (appE reprF (consA (lstE (lstF (consA (callE 1 f_is_event_form (consA (varE 5) nilA)) (consA (callE 1 f_is_event_form (consA (varE 5) nilA)) nilA)))) nilA)) (appE reprF (consA (lstE (lstF (consA (varE 6) (consA (varE 6) nilA)))) nilA)))) (retS (cE (.bl false))) nopS)
def EH : GE D := (heardE (some "told") hd_l (callE 1 f_event_text (consA (varE 5) nilA)))
def E8 : GS := (retS (orE (varE 6) (binE eqF EH (lstE (lstF (consA (cE (.str "no event")) (consA (appE reprF (consA (varE 5) nilA)) (consA (cE (.bl true)) nilA))))))))
theorem right_is : g_l_event_right = seqS E1 (seqS E2 (seqS E3 (seqS E4 (seqS E5 (seqS E6 (seqS E7 E8)))))) := rfl
theorem E12_ok {xs : List D} {ps : List (List Nat)} (ev : Ev xs ps) (x0 : SV) : seqS E1 E2 [x0, .d (.tup xs), .un, .un, .un, .un, .un] = .nx [x0, .d (.tup xs), .d (.str (S (txt ps))), .un, .un, .un, .un] := by
  have e1 := x_l_text ev
  have e2 := x_event_text ev
  have e3 := x_of_text ev
  have e4 := x_is_form ev
  obtain ⟨ho, h2, h5, _⟩ := ev_items ev
  have hl := (ev_parts ev).2.2.1
  have ft := fdS (p := txt ps) (k := 2) (by omega) (txt_asc ev)
  obtain ⟨r, hr, _⟩ := (FDs.lst (.cons ft (.cons ft (.cons (up8 ho (by omega)).tup .nil)))).repr (by decide) (by omega)
  have l3 : (3 : Nat) ≤ lim := by decide
  have nn : isNotF (.bl true) (.bl true) = some (.bl false) := rfl
  generalize txt ps = tx at *
  unfold E1 E2
  simp only [seqS, ifS, boolE, binE, unE, appE, ixOwnE, popOwnE, lenOwnE, cE, varE, retS, retNS, asgS, asgOwnS, parS, parOwnS, appendS, dropS, nopS, forS, forGo, seqI, range1I, range2I, enumI, rangeL, callE, callIO, callL, consA, nilA, nameT, tupT, consT, nilT, ownIxT, andE, orE, notE, andT, orT, notT, chainE, ifE, slE, someO, noO, lstE, lstF, appL, methE, isStrD, raiseS, rsIO, rsOf, own0, ofOpt, R.bind_ok, R.bind_er, R.bindS_ok, R.bindS_er, Option.bind_some, Option.map_some, List.map_cons, List.map_nil, List.cons_append, List.nil_append, List.replicate_succ, List.replicate_zero, List.getElem?_cons_zero, List.getElem?_cons_succ, List.length_cons, List.length_nil, List.set_cons_zero, List.set_cons_succ, isOwn, if_true, reduceIte, Bool.false_eq_true, Nat.reduceAdd, atI_0, atI_1, ixN_0, ixN_1, gt_int, lt_int, le_int, ge_int, add_int, sub_int, eq_int, ne_int, eq_str, ne_str, decide_true, decide_false, Nat.zero_add, e1, e2, e3, e4, hr, l3, nn, Bool.not_true]
theorem sl_last {xs : List D} {ps : List (List Nat)} (ev : Ev xs ps) : slF (.tup xs) none (some (-1)) = some (.tup xs.dropLast) := by cases ev <;> rfl
theorem E345_ok {xs : List D} {ps : List (List Nat)} {a b : Int} (ev : Ev xs ps) (hp : PotOk a b) (x : SV) : ∃ (a' b' : Int) (u3 u4 : SV) (odd : D), PotOk a' b' ∧ Odd odd ∧
    seqS E3 (seqS E4 E5) [.own [.int a, .int b], .d (.tup xs), x, .un, .un, .un, .un] = .nx [.own [.int a', .int b'], .d (.tup xs), x, u3, u4, .d odd, .un] := by
  obtain ⟨ho, h2, h5, w, hw0, hw⟩ := ev_items ev
  have lx : lenF [.tup xs] = some (.int (xs.length : Nat)) := rfl
  obtain ⟨i, a1, b1, e1, hi, p1⟩ := x_drawN a b xs.length hp ⟨by omega, by omega⟩
  obtain ⟨part, a2, b2, e2, hpart, p2⟩ := x_pick a1 b1 p1 L12 (by unfold L12; simp) (by unfold L12; simp)
  obtain ⟨odd, a3, b3, e3, hodd, p3⟩ := x_pick a2 b2 p2 (L6 xs w i part) (by unfold L6; simp) (by unfold L6; simp)
  refine ⟨a3, b3, .d (.int i), .d part, odd, p3, odd_ok ev hw (part_ok part hpart) hodd, ?_⟩
  have n1 : negF (.int 1) = some (.int (-1)) := rfl
  have z1 : mulF (.str ("z" : Str)) (.int 13) = some (.str (S (List.replicate 13 122))) := mulS 122 13 (by decide)
  have t1 : ∀ d : D, tupF [d] = some (.tup [d]) := fun _ => rfl
  have l12 : (12 : Nat) ≤ lim := by decide
  have l6 : (6 : Nat) ≤ lim := by decide
  have s1 := sl_to xs i (by omega)
  have s2 := sl_from xs i (by omega)
  have s3 := sl_last ev
  have i0 : ixF (.tup xs) (.int 0) = some (.str (S w)) := by
    cases xs with
    | nil => cases hw0
    | cons d r =>
      injection hw0 with hw0
      subst hw0
      exact atI_0
  have lf : listF [.tup xs] = some xs := rfl
  have g1 := add_tup (xs := xs.take i) (ys := [part]) (by rw [List.length_take]; simp; omega)
  have g2 := add_tup (xs := xs.take i ++ [part]) (ys := xs.drop (i + 1)) (by rw [List.length_append, List.length_take, List.length_drop]; simp; omega)
  have g3 := add_tup (xs := xs) (ys := [.int 0]) (by simp; omega)
  unfold L12 at e2
  unfold L6 at e3
  generalize List.replicate 13 122 = r13 at *
  generalize xs.take i ++ [part] ++ xs.drop (i + 1) = w1 at *
  generalize xs.take i ++ [part] = w2 at *
  generalize xs.dropLast = w3 at *
  generalize xs ++ [.int 0] = w4 at *
  generalize xs.drop (i + 1) = w5 at *
  generalize xs.take i = w6 at *
  unfold E3 E4 E5
  simp only [seqS, ifS, boolE, binE, unE, appE, ixOwnE, popOwnE, lenOwnE, cE, varE, retS, retNS, asgS, asgOwnS, parS, parOwnS, appendS, dropS, nopS, forS, forGo, seqI, range1I, range2I, enumI, rangeL, callE, callIO, callL, consA, nilA, nameT, tupT, consT, nilT, ownIxT, andE, orE, notE, andT, orT, notT, chainE, ifE, slE, someO, noO, lstE, lstF, appL, methE, isStrD, raiseS, rsIO, rsOf, own0, ofOpt, R.bind_ok, R.bind_er, R.bindS_ok, R.bindS_er, Option.bind_some, Option.map_some, List.map_cons, List.map_nil, List.cons_append, List.nil_append, List.replicate_succ, List.replicate_zero, List.getElem?_cons_zero, List.getElem?_cons_succ, List.length_cons, List.length_nil, List.set_cons_zero, List.set_cons_succ, isOwn, if_true, reduceIte, Bool.false_eq_true, Nat.reduceAdd, atI_0, atI_1, ixN_0, ixN_1, gt_int, lt_int, le_int, ge_int, add_int, sub_int, eq_int, ne_int, eq_str, ne_str, decide_true, decide_false, Nat.zero_add, lx, e1, n1, z1, t1, l12, l6, s1, s2, s3, i0, lf, g1, g2, g3, e2, e3]
theorem E678_ok {odd : D} (ho : Odd odd) (x1 x2 t3 t4 : SV) (pot : List D) : rsIO (seqS E6 (seqS E7 E8) [.own pot, x1, x2, t3, t4, .d odd, .un]) = (.ok (.bl true), pot) := by
  have h1 := ho.one
  have h2 := ho.two
  obtain ⟨r, hr⟩ := pair_repr (FD.bl (b := evForm odd) (k := 0)) (by decide) (by decide)
  have l2 : (2 : Nat) ≤ lim := by decide
  have l3 : (3 : Nat) ≤ lim := by decide
  cases hb : evForm odd with
  | true =>
    rw [hb] at h1 h2 hr
    unfold E6 E7 E8
    simp only [seqS, ifS, boolE, binE, unE, appE, ixOwnE, popOwnE, lenOwnE, cE, varE, retS, retNS, asgS, asgOwnS, parS, parOwnS, appendS, dropS, nopS, forS, forGo, seqI, range1I, range2I, enumI, rangeL, callE, callIO, callL, consA, nilA, nameT, tupT, consT, nilT, ownIxT, andE, orE, notE, andT, orT, notT, chainE, ifE, slE, someO, noO, lstE, lstF, appL, methE, isStrD, raiseS, rsIO, rsOf, own0, ofOpt, R.bind_ok, R.bind_er, R.bindS_ok, R.bindS_er, Option.bind_some, Option.map_some, List.map_cons, List.map_nil, List.cons_append, List.nil_append, List.replicate_succ, List.replicate_zero, List.getElem?_cons_zero, List.getElem?_cons_succ, List.length_cons, List.length_nil, List.set_cons_zero, List.set_cons_succ, isOwn, if_true, reduceIte, Bool.false_eq_true, Nat.reduceAdd, atI_0, atI_1, ixN_0, ixN_1, gt_int, lt_int, le_int, ge_int, add_int, sub_int, eq_int, ne_int, eq_str, ne_str, decide_true, decide_false, Nat.zero_add, h1, h2, hr, l2, Bool.not_true, rsIO, own0]
  | false =>
    rw [hb] at h1 h2 hr
    obtain ⟨r2, hr2, ha2, _⟩ := ho.fd.repr (by decide) (by decide)
    have h4 := x_event_text_no h1
    have hd1 : hdF hd_l ⟨"InvalidEvent", [("value", odd)]⟩ = some (.lst [.str ("no event" : Str), .str r2, .bl true]) := by
      show itL _ _ = _
      have q : itR (itF "value") ⟨"InvalidEvent", [("value", odd)]⟩ = some (.str r2) := hr2
      unfold itL itCons
      simp only [q, itC, itNil, Option.bind_some, List.length_cons, List.length_nil]
      rw [if_pos (by decide)]
    have ns : eqF (.lst [.str ("no event" : Str), .str r2, .bl true]) (.lst [.str ("no event" : Str), .str r2, .bl true]) = some (.bl true) := by
      refine eq_same (p := .list [.str ("no event" : Str), .str r2, .bool true]) rfl ?_
      have k1 := strOk_asc ha2
      show ((PyData.canLay0 (.str ("no event" : Str)) && (PyData.canLay0 (.str r2) && true)) && decide (0 + 1 ≤ 64)) = true
      have k0 : PyData.canLay0 (.str ("no event" : Str)) = true := strOk_asc (Asc.of (by decide))
      rw [k1, k0]
      rfl
    have hc : EH [.own pot, x1, x2, t3, t4, .d odd, .d (.bl false)] = .ok (.lst [.str ("no event" : Str), .str r2, .bl true]) [.own pot, x1, x2, t3, t4, .d odd, .d (.bl false)] := by
      have z : callE 1 f_event_text (consA (varE 5) nilA) [.own pot, x1, x2, t3, t4, .d odd, .d (.bl false)] = .er ⟨"InvalidEvent", [("value", odd)]⟩ [.own pot, x1, x2, t3, t4, .d odd, .d (.bl false)] := by
        simp only [seqS, ifS, boolE, binE, unE, appE, ixOwnE, popOwnE, lenOwnE, cE, varE, retS, retNS, asgS, asgOwnS, parS, parOwnS, appendS, dropS, nopS, forS, forGo, seqI, range1I, range2I, enumI, rangeL, callE, callIO, callL, consA, nilA, nameT, tupT, consT, nilT, ownIxT, andE, orE, notE, andT, orT, notT, chainE, ifE, slE, someO, noO, lstE, lstF, appL, methE, isStrD, raiseS, rsIO, rsOf, own0, ofOpt, R.bind_ok, R.bind_er, R.bindS_ok, R.bindS_er, Option.bind_some, Option.map_some, List.map_cons, List.map_nil, List.cons_append, List.nil_append, List.replicate_succ, List.replicate_zero, List.getElem?_cons_zero, List.getElem?_cons_succ, List.length_cons, List.length_nil, List.set_cons_zero, List.set_cons_succ, isOwn, if_true, reduceIte, Bool.false_eq_true, Nat.reduceAdd, atI_0, atI_1, ixN_0, ixN_1, gt_int, lt_int, le_int, ge_int, add_int, sub_int, eq_int, ne_int, eq_str, ne_str, decide_true, decide_false, Nat.zero_add, h4]
      unfold EH heardE
      rw [z]
      show ofOpt (hdF hd_l _) _ = _
      rw [hd1]
      rfl
    unfold E6 E7 E8
    generalize EH = HE at hc
    simp only [seqS, ifS, boolE, binE, unE, appE, ixOwnE, popOwnE, lenOwnE, cE, varE, retS, retNS, asgS, asgOwnS, parS, parOwnS, appendS, dropS, nopS, forS, forGo, seqI, range1I, range2I, enumI, rangeL, callE, callIO, callL, consA, nilA, nameT, tupT, consT, nilT, ownIxT, andE, orE, notE, andT, orT, notT, chainE, ifE, slE, someO, noO, lstE, lstF, appL, methE, isStrD, raiseS, rsIO, rsOf, own0, ofOpt, R.bind_ok, R.bind_er, R.bindS_ok, R.bindS_er, Option.bind_some, Option.map_some, List.map_cons, List.map_nil, List.cons_append, List.nil_append, List.replicate_succ, List.replicate_zero, List.getElem?_cons_zero, List.getElem?_cons_succ, List.length_cons, List.length_nil, List.set_cons_zero, List.set_cons_succ, isOwn, if_true, reduceIte, Bool.false_eq_true, Nat.reduceAdd, atI_0, atI_1, ixN_0, ixN_1, gt_int, lt_int, le_int, ge_int, add_int, sub_int, eq_int, ne_int, eq_str, ne_str, decide_true, decide_false, Nat.zero_add, h1, h2, hr, hr2, l2, l3, hc, ns, Bool.not_false, Bool.not_true, rsIO, own0]
theorem x_l_event_right {xs : List D} {ps : List (List Nat)} {a b : Int} (ev : Ev xs ps) (hp : PotOk a b) : ∃ (a' b' : Int), f_l_event_right [.int a, .int b] [.tup xs] = (.ok (.bl true), [.int a', .int b']) ∧ PotOk a' b' := by
  obtain ⟨a1, b1, u3, u4, odd, p1, ho, e2⟩ := E345_ok ev hp (.d (.str (S (txt ps))))
  refine ⟨a1, b1, ?_, p1⟩
  have z : f_l_event_right [.int a, .int b] [.tup xs] = rsIO (g_l_event_right [.own [.int a, .int b], .d (.tup xs), .un, .un, .un, .un, .un]) := rfl
  have q : ∀ h : GS, seqS E3 (seqS E4 (seqS E5 h)) = seqS (seqS E3 (seqS E4 E5)) h := fun h => by
    rw [seqS_as E4 E5 h, seqS_as E3]
  rw [z, right_is, seqS_as E1 E2, seqS_nx (E12_ok ev _), q, seqS_nx e2]
  exact E678_ok ho _ _ _ _ _
end K12
end L2
set_option linter.all false
set_option maxRecDepth 100000
set_option maxHeartbeats 4000000
namespace L2
namespace K12
open PySem PySem.Spec PL TL
open _root_.SX (S S_len S_cat S_tl S_inj split_S join_S num_S int_S)
/-! law -/
def JS : List (List Nat) := [c' "a", c' "b", c' " ", c' "fix", c' "beats", c' "1", c' "0"]
theorem JS_ok : ∀ p ∈ JS, p.length ≤ 5 ∧ asc p = true := by decide
def pkE : GE D := (callIO 4 2 f_l_pick (consA (lstE (lstF (consA (cE (.str "a")) (consA (cE (.str "b")) (consA (cE (.str " ")) (consA (cE (.str "fix")) (consA (cE (.str "beats")) (consA (cE (.str "1")) (consA (cE (.str "0")) nilA))))))))) nilA))
theorem pkE_ok {a b : Int} (hp : PotOk a b) (x0 x1 x2 x3 x5 x6 x7 x8 : SV) : ∃ (p : List Nat) (a' b' : Int), p ∈ JS ∧ PotOk a' b' ∧ pkE [x0, x1, x2, x3, .own [.int a, .int b], x5, x6, x7, x8] = .ok (sd p) [x0, x1, x2, x3, .own [.int a', .int b'], x5, x6, x7, x8] := by
  obtain ⟨d, a1, b1, e1, hd, p1⟩ := x_pick a b hp (JS.map sd) (by unfold JS; simp) (by unfold JS; simp)
  obtain ⟨p, hp', rfl⟩ := List.mem_map.mp hd
  have eL : JS.map sd = [.str ("a" : Str), .str ("b" : Str), .str (" " : Str), .str ("fix" : Str), .str ("beats" : Str), .str ("1" : Str), .str ("0" : Str)] := rfl
  rw [eL] at e1
  have l7 : (7 : Nat) ≤ lim := by decide
  refine ⟨p, a1, b1, hp', p1, ?_⟩
  unfold pkE
  simp only [seqS, ifS, boolE, binE, unE, appE, ixOwnE, popOwnE, lenOwnE, cE, varE, retS, retNS, asgS, asgOwnS, parS, parOwnS, appendS, dropS, nopS, forS, forGo, seqI, range1I, range2I, enumI, rangeL, callE, callIO, callL, consA, nilA, nameT, tupT, consT, nilT, ownIxT, andE, orE, notE, andT, orT, notT, chainE, ifE, slE, someO, noO, lstE, lstF, appL, methE, isStrD, raiseS, rsIO, rsOf, own0, ofOpt, R.bind_ok, R.bind_er, R.bindS_ok, R.bindS_er, Option.bind_some, Option.map_some, List.map_cons, List.map_nil, List.cons_append, List.nil_append, List.replicate_succ, List.replicate_zero, List.getElem?_cons_zero, List.getElem?_cons_succ, List.length_cons, List.length_nil, List.set_cons_zero, List.set_cons_succ, isOwn, if_true, reduceIte, Bool.false_eq_true, Nat.reduceAdd, atI_0, atI_1, ixN_0, ixN_1, gt_int, lt_int, le_int, ge_int, add_int, sub_int, eq_int, ne_int, eq_str, ne_str, decide_true, decide_false, Nat.zero_add, l7, e1]
theorem pkGo (x0 x1 x2 x3 x6 x7 x8 : SV) : ∀ (is : List D) (acc : List (List Nat)) (a b : Int), PotOk a b → acc.length + is.length ≤ 100 → ∃ (cs : List (List Nat)) (a' b' : Int), PotOk a' b' ∧ (∀ c ∈ cs, c ∈ JS) ∧ cs.length = is.length ∧
    lcGo [5] (nameT 5) yesT pkE is [x0, x1, x2, x3, .own [.int a, .int b], .un, x6, x7, x8] (acc.map sd) = .ok ((acc ++ cs).map sd) [x0, x1, x2, x3, .own [.int a', .int b'], .un, x6, x7, x8]
  | [], acc, a, b, hp, _ => ⟨[], a, b, hp, (fun c h => by cases h), rfl, by rw [List.append_nil]; rfl⟩
  | i :: is, acc, a, b, hp, hl => by
    rw [List.length_cons] at hl
    obtain ⟨c, a1, b1, hc, p1, e1⟩ := pkE_ok hp x0 x1 x2 x3 (.d i) x6 x7 x8
    obtain ⟨cs, a2, b2, p2, hcs, hlen, e2⟩ := pkGo x0 x1 x2 x3 x6 x7 x8 is (acc ++ [c]) a1 b1 p1 (by rw [List.length_append, List.length_singleton]; omega)
    refine ⟨c :: cs, a2, b2, p2, fun d hd => ?_, by rw [List.length_cons, List.length_cons, hlen], ?_⟩
    · rcases List.mem_cons.mp hd with rfl | hd
      · exact hc
      · exact hcs d hd
    · show (match pkE [x0, x1, x2, x3, .own [.int a, .int b], .d i, x6, x7, x8] with | .ok y ρ3 => if (acc.map sd).length < lim then lcGo [5] (nameT 5) yesT pkE is (wipeP ρ3 [5]) (acc.map sd ++ [y]) else .bad | _ => .bad) = _
      rw [e1]
      show (if (acc.map sd).length < lim then lcGo [5] (nameT 5) yesT pkE is [x0, x1, x2, x3, .own [.int a1, .int b1], .un, x6, x7, x8] (acc.map sd ++ [sd c]) else .bad) = _
      rw [if_pos (by rw [List.length_map]; unfold lim; omega)]
      rw [List.map_append] at e2
      have e2' : lcGo [5] (nameT 5) yesT pkE is [x0, x1, x2, x3, .own [.int a1, .int b1], .un, x6, x7, x8] (acc.map sd ++ [sd c]) = _ := e2
      rw [e2', List.append_assoc]
      rfl
def pkL : GE (List D) := (lcE [5] (range1I (consA (callIO 4 2 f_l_draw (consA (cE (.int 9)) nilA)) nilA)) (nameT 5) yesT pkE)
theorem pkL_ok {a b : Int} (hp : PotOk a b) (x0 x1 x2 x3 x5 x6 x7 x8 : SV) (h5 : isFix (some x5) = false) : ∃ (cs : List (List Nat)) (a' b' : Int), PotOk a' b' ∧ (∀ c ∈ cs, c ∈ JS) ∧ cs.length ≤ 9 ∧
    pkL [x0, x1, x2, x3, .own [.int a, .int b], x5, x6, x7, x8] = .ok (cs.map sd) [x0, x1, x2, x3, .own [.int a', .int b'], x5, x6, x7, x8] := by
  obtain ⟨k, a1, b1, e1, hk, p1⟩ := x_drawN a b 9 hp (by decide)
  have e1' : f_l_draw [.int a, .int b] [.int 9] = _ := e1
  obtain ⟨cs, a2, b2, p2, hcs, hlen, e2⟩ := pkGo x0 x1 x2 x3 x6 x7 x8 ((List.range k).map fun (i : Nat) => D.int i) [] a1 b1 p1 (by simp; omega)
  refine ⟨cs, a2, b2, p2, hcs, by rw [hlen, List.length_map, List.length_range]; omega, ?_⟩
  have rg : range1I (consA (callIO 4 2 f_l_draw (consA (cE (.int 9)) nilA)) nilA) [x0, x1, x2, x3, .own [.int a, .int b], x5, x6, x7, x8] = .ok ((List.range k).map fun (i : Nat) => D.int i) [x0, x1, x2, x3, .own [.int a1, .int b1], x5, x6, x7, x8] := range1_nat (by simp only [seqS, ifS, boolE, binE, unE, appE, ixOwnE, popOwnE, lenOwnE, cE, varE, retS, retNS, asgS, asgOwnS, parS, parOwnS, appendS, dropS, nopS, forS, forGo, seqI, range1I, range2I, enumI, rangeL, callE, callIO, callL, consA, nilA, nameT, tupT, consT, nilT, ownIxT, andE, orE, notE, andT, orT, notT, chainE, ifE, slE, someO, noO, lstE, lstF, appL, methE, isStrD, raiseS, rsIO, rsOf, own0, ofOpt, R.bind_ok, R.bind_er, R.bindS_ok, R.bindS_er, Option.bind_some, Option.map_some, List.map_cons, List.map_nil, List.cons_append, List.nil_append, List.replicate_succ, List.replicate_zero, List.getElem?_cons_zero, List.getElem?_cons_succ, List.length_cons, List.length_nil, List.set_cons_zero, List.set_cons_succ, isOwn, if_true, reduceIte, Bool.false_eq_true, Nat.reduceAdd, atI_0, atI_1, ixN_0, ixN_1, gt_int, lt_int, le_int, ge_int, add_int, sub_int, eq_int, ne_int, eq_str, ne_str, decide_true, decide_false, Nat.zero_add, e1']) (by omega)
  have no : noOwn [x0, x1, x2, x3, .own [.int a1, .int b1], x5, x6, x7, x8] [5] = true := by
    cases x5 <;> first | rfl | (cases h5; done)
  unfold pkL lcE
  rw [rg, R.bind_ok, if_pos no]
  have e2' : lcGo [5] (nameT 5) yesT pkE ((List.range k).map fun (i : Nat) => D.int i) (wipeP [x0, x1, x2, x3, .own [.int a1, .int b1], x5, x6, x7, x8] [5]) [] = _ := e2
  rw [e2']
  rfl
theorem joinL5 : ∀ cs : List (List Nat), (∀ c ∈ cs, c ∈ JS) → (joinL [] cs).length ≤ 5 * cs.length
  | [], _ => Nat.le_refl _
  | [c], h => by
    have := (JS_ok c (h c List.mem_cons_self)).1
    show c.length ≤ 5 * 1
    omega
  | c :: d :: cs, h => by
    have := (JS_ok c (h c List.mem_cons_self)).1
    have ih := joinL5 (d :: cs) fun e he => h e (List.mem_cons_of_mem _ he)
    show (c ++ ([] ++ joinL [] (d :: cs))).length ≤ _
    rw [List.length_append, List.nil_append, List.length_cons]
    omega
theorem join_cat (cs : List (List Nat)) (h : ∀ c ∈ cs, c ∈ JS) (hl : cs.length ≤ 100) : joinF (.str ("" : Str)) [.lst (cs.map sd)] = some (.str (S (joinL [] cs))) := by
  have e : cs.map sd = (cs.map S).map D.str := by rw [List.map_map]; rfl
  show ((strsOf (cs.map sd)).bind fun ts => if (ts.map (·.length)).sum + ts.length * ("" : Str).length ≤ lim then some (D.str (Txt.join ("" : Str) ts)) else none) = _
  rw [e, strsOf_map]
  have hs : ∀ cs : List (List Nat), (∀ c ∈ cs, c ∈ JS) → ((cs.map S).map (·.length)).sum ≤ 5 * cs.length := fun cs => by
    induction cs with
    | nil => intro _; exact Nat.le_refl _
    | cons c cs ih =>
      intro h
      have := (JS_ok c (h c List.mem_cons_self)).1
      have ih' := ih fun e he => h e (List.mem_cons_of_mem _ he)
      rw [List.map_cons, List.map_cons, List.sum_cons, List.length_cons, S_len]
      omega
  have := hs cs h
  show (if ((cs.map S).map (·.length)).sum + _ * 0 ≤ lim then _ else none) = _
  rw [if_pos (by unfold lim; omega)]
  show some (D.str (Txt.join (S []) _)) = _
  rw [join_S]
def C1 : GS := (seqS (asgS (callIO 4 1 f_l_drawn nilA) (nameT 6))
    (ifS (orT (notT (boolE (callIO 4 2 f_l_event_right (consA (varE 6) nilA)))) (orT (notT (boolE (callE 1 f_l_text_right (consA (callIO 4 2 f_l_bent (consA (callE 1 f_l_text (consA (varE 6) nilA)) nilA)) nilA)))) (notT (boolE (callE 1 f_l_text_right (consA (callIO 4 2 f_l_bent (consA (callE 1 f_l_text (consA (varE 6) nilA)) nilA)) nilA)))))) (retS (cE (.bl false))) nopS))
def C2 : GS := (ifS (notT (boolE (callE 1 f_l_text_right (consA (methE joinF (cE (.str "")) (consA (lstE pkL) nilA)) nilA)))) (retS (cE (.bl false))) nopS)
def CB : GS := (seqS (asgOwnS (callL 2 f_l_pot (consA (varE 0) (consA (varE 2) nilA))) 4)
    (seqS (forS (range1I (consA (cE (.int 6)) nilA)) (nameT 5) C1) C2))
theorem C1_ok {a b : Int} (hp : PotOk a b) (x0 x1 x2 x3 x5 x6 x7 x8 : SV) : ∃ (a' b' : Int) (y6 : SV), PotOk a' b' ∧ C1 [x0, x1, x2, x3, .own [.int a, .int b], x5, x6, x7, x8] = .nx [x0, x1, x2, x3, .own [.int a', .int b'], x5, y6, x7, x8] := by
  obtain ⟨xs, ps, a1, b1, e1, ev, p1⟩ := x_l_drawn hp
  obtain ⟨a2, b2, e2, p2⟩ := x_l_event_right ev p1
  obtain ⟨_, _, h3, h4⟩ := ev_parts ev
  have e3 := x_l_text ev
  obtain ⟨l1, a3, b3, e4, k1, k2, p3⟩ := x_l_bent p2 (txt ps) h4 (by omega) (txt_asc ev)
  have e5 := x_l_text_right k1 k2
  obtain ⟨l2, a4, b4, e6, k3, k4, p4⟩ := x_l_bent p3 (txt ps) h4 (by omega) (txt_asc ev)
  have e7 := x_l_text_right k3 k4
  refine ⟨a4, b4, .d (.tup xs), p4, ?_⟩
  generalize txt ps = tx at *
  unfold C1
  simp only [seqS, ifS, boolE, binE, unE, appE, ixOwnE, popOwnE, lenOwnE, cE, varE, retS, retNS, asgS, asgOwnS, parS, parOwnS, appendS, dropS, nopS, forS, forGo, seqI, range1I, range2I, enumI, rangeL, callE, callIO, callL, consA, nilA, nameT, tupT, consT, nilT, ownIxT, andE, orE, notE, andT, orT, notT, chainE, ifE, slE, someO, noO, lstE, lstF, appL, methE, isStrD, raiseS, rsIO, rsOf, own0, ofOpt, R.bind_ok, R.bind_er, R.bindS_ok, R.bindS_er, Option.bind_some, Option.map_some, List.map_cons, List.map_nil, List.cons_append, List.nil_append, List.replicate_succ, List.replicate_zero, List.getElem?_cons_zero, List.getElem?_cons_succ, List.length_cons, List.length_nil, List.set_cons_zero, List.set_cons_succ, isOwn, if_true, reduceIte, Bool.false_eq_true, Nat.reduceAdd, atI_0, atI_1, ixN_0, ixN_1, gt_int, lt_int, le_int, ge_int, add_int, sub_int, eq_int, ne_int, eq_str, ne_str, decide_true, decide_false, Nat.zero_add, e1, e2, e3, e4, e5, e6, e7, Bool.not_true]
theorem C1go (x0 x1 x2 x3 x7 x8 : SV) : ∀ (is : List D) (a b : Int) (x5 x6 : SV), isFix (some x5) = false → PotOk a b → ∃ (a' b' : Int) (y5 y6 : SV), isFix (some y5) = false ∧ PotOk a' b' ∧
    forGo (nameT 5) C1 is [x0, x1, x2, x3, .own [.int a, .int b], x5, x6, x7, x8] = .nx [x0, x1, x2, x3, .own [.int a', .int b'], y5, y6, x7, x8]
  | [], a, b, x5, x6, h5, hp => ⟨a, b, x5, x6, h5, hp, rfl⟩
  | i :: is, a, b, x5, x6, h5, hp => by
    obtain ⟨a1, b1, y6, p1, e1⟩ := C1_ok hp x0 x1 x2 x3 (.d i) x6 x7 x8
    obtain ⟨a2, b2, z5, z6, h5', p2, e2⟩ := C1go x0 x1 x2 x3 x7 x8 is a1 b1 (.d i) y6 rfl p1
    refine ⟨a2, b2, z5, z6, h5', p2, ?_⟩
    have nt : nameT 5 i [x0, x1, x2, x3, .own [.int a, .int b], x5, x6, x7, x8] = some [x0, x1, x2, x3, .own [.int a, .int b], .d i, x6, x7, x8] := by
      cases x5 <;> first | rfl | (cases h5; done)
    unfold forGo
    rw [nt]
    simp only [e1]
    exact e2
theorem C2_ok {a b : Int} (hp : PotOk a b) (x0 x1 x2 x3 x5 x6 x7 x8 : SV) (h5 : isFix (some x5) = false) : ∃ (a' b' : Int), C2 [x0, x1, x2, x3, .own [.int a, .int b], x5, x6, x7, x8] = .nx [x0, x1, x2, x3, .own [.int a', .int b'], x5, x6, x7, x8] := by
  obtain ⟨cs, a1, b1, p1, hcs, hlen, e1⟩ := pkL_ok hp x0 x1 x2 x3 x5 x6 x7 x8 h5
  have jn := join_cat cs hcs (by omega)
  have j5 := joinL5 cs hcs
  have ja : asc (joinL [] cs) = true := join_asc rfl fun p hp => (JS_ok p (hcs p hp)).2
  have e2 := x_l_text_right (a := joinL [] cs) (by omega) ja
  have isd : isStrD (.str ("" : Str)) = true := rfl
  refine ⟨a1, b1, ?_⟩
  unfold C2
  generalize pkL = K at *
  generalize joinL [] cs = jj at *
  simp only [seqS, ifS, boolE, binE, unE, appE, ixOwnE, popOwnE, lenOwnE, cE, varE, retS, retNS, asgS, asgOwnS, parS, parOwnS, appendS, dropS, nopS, forS, forGo, seqI, range1I, range2I, enumI, rangeL, callE, callIO, callL, consA, nilA, nameT, tupT, consT, nilT, ownIxT, andE, orE, notE, andT, orT, notT, chainE, ifE, slE, someO, noO, lstE, lstF, appL, methE, isStrD, raiseS, rsIO, rsOf, own0, ofOpt, R.bind_ok, R.bind_er, R.bindS_ok, R.bindS_er, Option.bind_some, Option.map_some, List.map_cons, List.map_nil, List.cons_append, List.nil_append, List.replicate_succ, List.replicate_zero, List.getElem?_cons_zero, List.getElem?_cons_succ, List.length_cons, List.length_nil, List.set_cons_zero, List.set_cons_succ, isOwn, if_true, reduceIte, Bool.false_eq_true, Nat.reduceAdd, atI_0, atI_1, ixN_0, ixN_1, gt_int, lt_int, le_int, ge_int, add_int, sub_int, eq_int, ne_int, eq_str, ne_str, decide_true, decide_false, Nat.zero_add, e1, jn, isd, e2, Bool.not_true]
theorem CB_ok (ns : List Int) (k : Nat) (x1 x3 x4 x5 x6 x7 x8 : SV) (h5 : isFix (some x5) = false) : ∃ y4 y5 y6 : SV, isFix (some y5) = false ∧ CB [.d (.fz (ns.map .int)), x1, .d (.int k), x3, x4, x5, x6, x7, x8] = .nx [.d (.fz (ns.map .int)), x1, .d (.int k), x3, y4, y5, y6, x7, x8] := by
  obtain ⟨a, b, e0, p0⟩ := x_l_pot ns k
  obtain ⟨a1, b1, y5, y6, g5, p1, e1⟩ := C1go (.d (.fz (ns.map .int))) x1 (.d (.int k)) x3 x7 x8 ((List.range 6).map fun (i : Nat) => D.int i) a b x5 x6 h5 p0
  obtain ⟨a2, b2, e2⟩ := C2_ok p1 (.d (.fz (ns.map .int))) x1 (.d (.int k)) x3 y5 y6 x7 x8 g5
  refine ⟨.own [.int a2, .int b2], y5, y6, g5, ?_⟩
  generalize ns.map D.int = xs at *
  have rg : range1I (consA (cE (.int 6)) nilA) [.d (.fz xs), x1, .d (.int k), x3, .own [.int a, .int b], x5, x6, x7, x8] = .ok ((List.range 6).map fun (i : Nat) => D.int i) [.d (.fz xs), x1, .d (.int k), x3, .own [.int a, .int b], x5, x6, x7, x8] := range1_nat (n := 6) rfl (by decide)
  have hfor : forS (range1I (consA (cE (.int 6)) nilA)) (nameT 5) C1 [.d (.fz xs), x1, .d (.int k), x3, .own [.int a, .int b], x5, x6, x7, x8] = .nx [.d (.fz xs), x1, .d (.int k), x3, .own [.int a1, .int b1], y5, y6, x7, x8] := by
    unfold forS
    rw [rg]
    exact e1
  have hpot : asgOwnS (callL 2 f_l_pot (consA (varE 0) (consA (varE 2) nilA))) 4 [.d (.fz xs), x1, .d (.int k), x3, x4, x5, x6, x7, x8] = .nx [.d (.fz xs), x1, .d (.int k), x3, .own [.int a, .int b], x5, x6, x7, x8] := by
    simp only [seqS, ifS, boolE, binE, unE, appE, ixOwnE, popOwnE, lenOwnE, cE, varE, retS, retNS, asgS, asgOwnS, parS, parOwnS, appendS, dropS, nopS, forS, forGo, seqI, range1I, range2I, enumI, rangeL, callE, callIO, callL, consA, nilA, nameT, tupT, consT, nilT, ownIxT, andE, orE, notE, andT, orT, notT, chainE, ifE, slE, someO, noO, lstE, lstF, appL, methE, isStrD, raiseS, rsIO, rsOf, own0, ofOpt, R.bind_ok, R.bind_er, R.bindS_ok, R.bindS_er, Option.bind_some, Option.map_some, List.map_cons, List.map_nil, List.cons_append, List.nil_append, List.replicate_succ, List.replicate_zero, List.getElem?_cons_zero, List.getElem?_cons_succ, List.length_cons, List.length_nil, List.set_cons_zero, List.set_cons_succ, isOwn, if_true, reduceIte, Bool.false_eq_true, Nat.reduceAdd, atI_0, atI_1, ixN_0, ixN_1, gt_int, lt_int, le_int, ge_int, add_int, sub_int, eq_int, ne_int, eq_str, ne_str, decide_true, decide_false, Nat.zero_add, e0]
  unfold CB
  rw [seqS_nx hpot, seqS_nx hfor]
  exact e2
end K12
end L2
set_option linter.all false
set_option maxRecDepth 100000
set_option maxHeartbeats 4000000
namespace L2
namespace K12
open PySem PySem.Spec PL TL
open _root_.SX (S S_len S_cat S_tl S_inj split_S join_S num_S int_S)
/-! law, all of it -/
def TX1 : List (List Nat) := [[], c' " ", c' "fix", c' "fix ", c' "fix 0", c' "fix 00 a beats b", c' "fix 100 a beats b", c' "fix beats a", c' "fix leaves", c' "fix 1 leaves", c' "a beats a", c' "a beats aa", c' "a leaves b", List.replicate 13 122, c' "a  beats b"]
def TX2 : List (List Nat) := [List.replicate 12 122 ++ c' " beats " ++ List.replicate 12 122, c' "fix 5 a leaves", c' "fix fix beats a", c' "a beats b ", c' "beats beats beat"]
theorem TX_ok : ∀ p ∈ TX1 ++ TX2, p.length ≤ 600 ∧ asc p = true := by decide
def A1 : GS := (asgS (lstE (lstF (consA (cE (.str "")) (consA (cE (.str " ")) (consA (cE (.str "fix")) (consA (cE (.str "fix ")) (consA (cE (.str "fix 0")) (consA (cE (.str "fix 00 a beats b")) (consA (cE (.str "fix 100 a beats b")) (consA (cE (.str "fix beats a")) (consA (cE (.str "fix leaves")) (consA (cE (.str "fix 1 leaves")) (consA (cE (.str "a beats a")) (consA (cE (.str "a beats aa")) (consA (cE (.str "a leaves b")) (consA (binE mulF (cE (.str "z")) (cE (.int 13))) (consA (cE (.str "a  beats b")) nilA))))))))))))))))) (nameT 1))
def A2 : GS := (asgS (binE addF (varE 1) (lstE (lstF (consA (binE addF (binE addF (binE mulF (cE (.str "z")) (cE (.int 12))) (cE (.str " beats "))) (binE mulF (cE (.str "z")) (cE (.int 12)))) (consA (cE (.str "fix 5 a leaves")) (consA (cE (.str "fix fix beats a")) (consA (cE (.str "a beats b ")) (consA (cE (.str "beats beats beat")) nilA)))))))) (nameT 1))
def A12 : GS := seqS A1 A2
theorem A12_ok (x0 : SV) : A12 [x0, .un, .un, .un, .un, .un, .un, .un, .un] = .nx [x0, .d (.lst ((TX1 ++ TX2).map sd)), .un, .un, .un, .un, .un, .un, .un] := by
  have l15 : (15 : Nat) ≤ lim := by decide
  have l5 : (5 : Nat) ≤ lim := by decide
  have z13 : mulF (.str ("z" : Str)) (.int 13) = some (.str (S (List.replicate 13 122))) := mulS 122 13 (by decide)
  have z12 : mulF (.str ("z" : Str)) (.int 12) = some (.str (S (List.replicate 12 122))) := mulS 122 12 (by decide)
  have b1 : addF (.str (S (List.replicate 12 122))) (.str (" beats " : Str)) = some (.str (S (List.replicate 12 122 ++ c' " beats "))) := cat _ (c' " beats ") (by decide) rfl rfl
  have b2 : addF (.str (S (List.replicate 12 122 ++ c' " beats "))) (.str (S (List.replicate 12 122))) = some (.str (S (List.replicate 12 122 ++ c' " beats " ++ List.replicate 12 122))) := add_len _ _ (by decide)
  have e1 : [D.str ("" : Str), .str (" " : Str), .str ("fix" : Str), .str ("fix " : Str), .str ("fix 0" : Str), .str ("fix 00 a beats b" : Str), .str ("fix 100 a beats b" : Str), .str ("fix beats a" : Str), .str ("fix leaves" : Str), .str ("fix 1 leaves" : Str), .str ("a beats a" : Str), .str ("a beats aa" : Str), .str ("a leaves b" : Str), .str (S (List.replicate 13 122)), .str ("a  beats b" : Str)] = TX1.map sd := rfl
  have e2 : [D.str (S (List.replicate 12 122 ++ c' " beats " ++ List.replicate 12 122)), .str ("fix 5 a leaves" : Str), .str ("fix fix beats a" : Str), .str ("a beats b " : Str), .str ("beats beats beat" : Str)] = TX2.map sd := rfl
  have n1 : (TX1.map sd).length ≤ lim := by rw [List.length_map]; show 15 ≤ lim; decide
  have n2 : (TX2.map sd).length ≤ lim := by rw [List.length_map]; show 5 ≤ lim; decide
  have ad : addF (.lst (TX1.map sd)) (.lst (TX2.map sd)) = some (.lst ((TX1 ++ TX2).map sd)) := rfl
  unfold A12 A1 A2
  rw [seqS_nx (ρ1 := [x0, .d (.lst (TX1.map sd)), .un, .un, .un, .un, .un, .un, .un])]
  · generalize List.replicate 12 122 = r12 at *
    generalize (TX1 ++ TX2).map sd = L at *
    generalize TX1.map sd = L1 at *
    simp only [seqS, ifS, boolE, binE, unE, appE, ixOwnE, popOwnE, lenOwnE, cE, varE, retS, retNS, asgS, asgOwnS, parS, parOwnS, appendS, dropS, nopS, forS, forGo, seqI, range1I, range2I, enumI, rangeL, callE, callIO, callL, consA, nilA, nameT, tupT, consT, nilT, ownIxT, andE, orE, notE, andT, orT, notT, chainE, ifE, slE, someO, noO, lstE, lstF, appL, methE, isStrD, raiseS, rsIO, rsOf, own0, ofOpt, R.bind_ok, R.bind_er, R.bindS_ok, R.bindS_er, Option.bind_some, Option.map_some, List.map_cons, List.map_nil, List.cons_append, List.nil_append, List.replicate_succ, List.replicate_zero, List.getElem?_cons_zero, List.getElem?_cons_succ, List.length_cons, List.length_nil, List.set_cons_zero, List.set_cons_succ, isOwn, if_true, reduceIte, Bool.false_eq_true, Nat.reduceAdd, atI_0, atI_1, ixN_0, ixN_1, gt_int, lt_int, le_int, ge_int, add_int, sub_int, eq_int, ne_int, eq_str, ne_str, decide_true, decide_false, Nat.zero_add, l5, z12, b1, b2, e2, ad, n2]
  · generalize List.replicate 13 122 = r13 at *
    generalize TX1.map sd = L1 at *
    simp only [seqS, ifS, boolE, binE, unE, appE, ixOwnE, popOwnE, lenOwnE, cE, varE, retS, retNS, asgS, asgOwnS, parS, parOwnS, appendS, dropS, nopS, forS, forGo, seqI, range1I, range2I, enumI, rangeL, callE, callIO, callL, consA, nilA, nameT, tupT, consT, nilT, ownIxT, andE, orE, notE, andT, orT, notT, chainE, ifE, slE, someO, noO, lstE, lstF, appL, methE, isStrD, raiseS, rsIO, rsOf, own0, ofOpt, R.bind_ok, R.bind_er, R.bindS_ok, R.bindS_er, Option.bind_some, Option.map_some, List.map_cons, List.map_nil, List.cons_append, List.nil_append, List.replicate_succ, List.replicate_zero, List.getElem?_cons_zero, List.getElem?_cons_succ, List.length_cons, List.length_nil, List.set_cons_zero, List.set_cons_succ, isOwn, if_true, reduceIte, Bool.false_eq_true, Nat.reduceAdd, atI_0, atI_1, ixN_0, ixN_1, gt_int, lt_int, le_int, ge_int, add_int, sub_int, eq_int, ne_int, eq_str, ne_str, decide_true, decide_false, Nat.zero_add, l15, z13, e1, n1]
theorem x_no_str {d : D} (h : isiF "str" d = some (.bl false)) : f_event_of_text [d] = .er ⟨"InvalidText", [("value", d)]⟩ := by
  unfold f_event_of_text g_event_of_text runP
  simp only [seqS, ifS, boolE, binE, unE, appE, ixOwnE, popOwnE, lenOwnE, cE, varE, retS, retNS, asgS, asgOwnS, parS, parOwnS, appendS, dropS, nopS, forS, forGo, seqI, range1I, range2I, enumI, rangeL, callE, callIO, callL, consA, nilA, nameT, tupT, consT, nilT, ownIxT, andE, orE, notE, andT, orT, notT, chainE, ifE, slE, someO, noO, lstE, lstF, appL, methE, isStrD, raiseS, rsIO, rsOf, own0, ofOpt, R.bind_ok, R.bind_er, R.bindS_ok, R.bindS_er, Option.bind_some, Option.map_some, List.map_cons, List.map_nil, List.cons_append, List.nil_append, List.replicate_succ, List.replicate_zero, List.getElem?_cons_zero, List.getElem?_cons_succ, List.length_cons, List.length_nil, List.set_cons_zero, List.set_cons_succ, isOwn, if_true, reduceIte, Bool.false_eq_true, Nat.reduceAdd, atI_0, atI_1, ixN_0, ixN_1, gt_int, lt_int, le_int, ge_int, add_int, sub_int, eq_int, ne_int, eq_str, ne_str, decide_true, decide_false, Nat.zero_add, h, Bool.not_false]
def OD : List D := [.non, .int 0, .tup [.str ("a leaves" : Str)], .lst [.str ("a leaves" : Str)], .bl true]
theorem OD_ok : ∀ d ∈ OD, FD d 1 200 ∧ isiF "str" d = some (.bl false) := by
  intro d hd
  unfold OD at hd
  simp only [List.mem_cons, List.not_mem_nil, or_false] at hd
  rcases hd with rfl | rfl | rfl | rfl | rfl
  · exact ⟨FD.non.up (Nat.le_refl _) (by decide), rfl⟩
  · exact ⟨(FD.int (by decide)).up (Nat.le_refl _) (by decide), rfl⟩
  · exact ⟨(FDs.tup (k := 0) (.cons (FD.str (by decide) (by decide)) .nil)).up (Nat.le_refl _) (by decide), rfl⟩
  · exact ⟨(FDs.lst (k := 0) (.cons (FD.str (by decide) (by decide)) .nil)).up (Nat.le_refl _) (by decide), rfl⟩
  · exact ⟨FD.bl.up (Nat.le_refl _) (by decide), rfl⟩
/-- what is shown -/
def rp (d : D) : Str := match reprF [d] with
  | some (.str r) => r
  | _ => ""
theorem rp_ok {d : D} (h : d ∈ OD) : reprF [d] = some (.str (rp d)) ∧ Asc (tl (rp d)) := by
  obtain ⟨r, hr, ha, _⟩ := (OD_ok d h).1.repr (by decide) (by decide)
  have : rp d = r := by unfold rp; rw [hr]
  rw [this]
  exact ⟨hr, ha⟩
def nt (r : Str) : D := .lst [.str ("no text" : Str), .str r, .bl true]
def ntP (r : Str) : PyData := .list [.str ("no text" : Str), .str r, .bool true]
theorem nt_toPs : ∀ rs : List Str, D.toPs (rs.map nt) = some (rs.map ntP)
  | [] => rfl
  | r :: rs => by
    show (match D.toP (nt r), D.toPs (rs.map nt) with | some p, some ps => some (p :: ps) | _, _ => none) = _
    rw [nt_toPs rs]
    rfl
theorem nt_depth : ∀ rs : List Str, PyData.depthAll (rs.map ntP) ≤ 1
  | [] => Nat.zero_le _
  | r :: rs => by
    have h1 : PyData.depthAll ((r :: rs).map ntP) = max (ntP r).depth (PyData.depthAll (rs.map ntP)) := rfl
    have h2 : (ntP r).depth = 1 := rfl
    have := nt_depth rs
    rw [h1, h2]
    omega
theorem nt_lay : ∀ rs : List Str, (∀ r ∈ rs, Asc (tl r)) → PyData.canLayAll0 (rs.map ntP) = true
  | [], _ => rfl
  | r :: rs, h => by
    show ((ntP r).canLay0 && PyData.canLayAll0 (rs.map ntP)) = true
    rw [nt_lay rs fun q hq => h q (List.mem_cons_of_mem _ hq), Bool.and_true]
    have k1 := strOk_asc (h r List.mem_cons_self)
    show (PyData.canLay0 (.str ("no text" : Str)) && (PyData.canLay0 (.str r) && true)) = true
    have k0 : PyData.canLay0 (.str ("no text" : Str)) = true := strOk_asc (Asc.of (by decide))
    rw [k1, k0]
    rfl
theorem nt_eq (rs : List Str) (h : ∀ r ∈ rs, Asc (tl r)) : eqF (.lst (rs.map nt)) (.lst (rs.map nt)) = some (.bl true) := by
  refine eq_same (p := .list (rs.map ntP)) ?_ ?_
  · show (D.toPs _).map _ = _
    rw [nt_toPs]
    rfl
  · show (PyData.canLayAll0 (rs.map ntP) && decide (PyData.depthAll (rs.map ntP) + 1 ≤ 64)) = true
    have := nt_depth rs
    rw [nt_lay rs h, decide_eq_true (by omega)]
    rfl
def O1 : GE (List D) := (lcE [8] (seqI (varE 3)) (nameT 8) yesT (heardE (some "told") hd_l (callE 1 f_event_of_text (consA (varE 8) nilA))))
def O2 : GE (List D) := (lcE [8] (seqI (varE 3)) (nameT 8) yesT (lstE (lstF (consA (cE (.str "no text")) (consA (appE reprF (consA (varE 8) nilA)) (consA (cE (.bl true)) nilA))))))
theorem O1_ok (x0 x1 x2 x4 x5 x6 x7 : SV) : O1 [x0, x1, x2, .d (.lst OD), x4, x5, x6, x7, .un] = .ok ((OD.map rp).map nt) [x0, x1, x2, .d (.lst OD), x4, x5, x6, x7, .un] := by
  refine (lcE_pure (vs := [8]) (gi := seqI (varE 3)) (fun _ => true) (fun d => nt (rp d)) (items := OD) (ρ1 := [x0, x1, x2, .d (.lst OD), x4, x5, x6, x7, .un]) rfl rfl (by decide) rfl ?_).trans (by rw [filt, List.map_map]; rfl)
  intro d hd
  refine ⟨[x0, x1, x2, .d (.lst OD), x4, x5, x6, x7, .d d], rfl, rfl, rfl, fun _ => ?_⟩
  have e1 := x_no_str (OD_ok d hd).2
  obtain ⟨hr, ha⟩ := rp_ok hd
  have hd1 : hdF hd_l ⟨"InvalidText", [("value", d)]⟩ = some (nt (rp d)) := by
    show itL _ _ = _
    have q : itR (itF "value") ⟨"InvalidText", [("value", d)]⟩ = some (.str (rp d)) := hr
    unfold itL itCons
    simp only [q, itC, itNil, Option.bind_some, List.length_cons, List.length_nil]
    rw [if_pos (by decide)]
    rfl
  generalize OD = L at *
  have z : callE 1 f_event_of_text (consA (varE 8) nilA) [x0, x1, x2, .d (.lst L), x4, x5, x6, x7, .d d] = .er ⟨"InvalidText", [("value", d)]⟩ [x0, x1, x2, .d (.lst L), x4, x5, x6, x7, .d d] := by
    simp only [seqS, ifS, boolE, binE, unE, appE, ixOwnE, popOwnE, lenOwnE, cE, varE, retS, retNS, asgS, asgOwnS, parS, parOwnS, appendS, dropS, nopS, forS, forGo, seqI, range1I, range2I, enumI, rangeL, callE, callIO, callL, consA, nilA, nameT, tupT, consT, nilT, ownIxT, andE, orE, notE, andT, orT, notT, chainE, ifE, slE, someO, noO, lstE, lstF, appL, methE, isStrD, raiseS, rsIO, rsOf, own0, ofOpt, R.bind_ok, R.bind_er, R.bindS_ok, R.bindS_er, Option.bind_some, Option.map_some, List.map_cons, List.map_nil, List.cons_append, List.nil_append, List.replicate_succ, List.replicate_zero, List.getElem?_cons_zero, List.getElem?_cons_succ, List.length_cons, List.length_nil, List.set_cons_zero, List.set_cons_succ, isOwn, if_true, reduceIte, Bool.false_eq_true, Nat.reduceAdd, atI_0, atI_1, ixN_0, ixN_1, gt_int, lt_int, le_int, ge_int, add_int, sub_int, eq_int, ne_int, eq_str, ne_str, decide_true, decide_false, Nat.zero_add, e1]
  unfold heardE
  rw [z]
  show ofOpt (hdF hd_l _) _ = _
  rw [hd1]
  rfl
theorem O2_ok (x0 x1 x2 x4 x5 x6 x7 : SV) : O2 [x0, x1, x2, .d (.lst OD), x4, x5, x6, x7, .un] = .ok ((OD.map rp).map nt) [x0, x1, x2, .d (.lst OD), x4, x5, x6, x7, .un] := by
  refine (lcE_pure (vs := [8]) (gi := seqI (varE 3)) (fun _ => true) (fun d => nt (rp d)) (items := OD) (ρ1 := [x0, x1, x2, .d (.lst OD), x4, x5, x6, x7, .un]) rfl rfl (by decide) rfl ?_).trans (by rw [filt, List.map_map]; rfl)
  intro d hd
  refine ⟨[x0, x1, x2, .d (.lst OD), x4, x5, x6, x7, .d d], rfl, rfl, rfl, fun _ => ?_⟩
  obtain ⟨hr, ha⟩ := rp_ok hd
  have l3 : (3 : Nat) ≤ lim := by decide
  generalize OD = L at *
  unfold nt
  simp only [seqS, ifS, boolE, binE, unE, appE, ixOwnE, popOwnE, lenOwnE, cE, varE, retS, retNS, asgS, asgOwnS, parS, parOwnS, appendS, dropS, nopS, forS, forGo, seqI, range1I, range2I, enumI, rangeL, callE, callIO, callL, consA, nilA, nameT, tupT, consT, nilT, ownIxT, andE, orE, notE, andT, orT, notT, chainE, ifE, slE, someO, noO, lstE, lstF, appL, methE, isStrD, raiseS, rsIO, rsOf, own0, ofOpt, R.bind_ok, R.bind_er, R.bindS_ok, R.bindS_er, Option.bind_some, Option.map_some, List.map_cons, List.map_nil, List.cons_append, List.nil_append, List.replicate_succ, List.replicate_zero, List.getElem?_cons_zero, List.getElem?_cons_succ, List.length_cons, List.length_nil, List.set_cons_zero, List.set_cons_succ, isOwn, if_true, reduceIte, Bool.false_eq_true, Nat.reduceAdd, atI_0, atI_1, ixN_0, ixN_1, gt_int, lt_int, le_int, ge_int, add_int, sub_int, eq_int, ne_int, eq_str, ne_str, decide_true, decide_false, Nat.zero_add, hr, l3]
def T1 : GE (List D) := (lcE [7] (seqI (varE 1)) (nameT 7) yesT (callE 1 f_l_text_right (consA (varE 7) nilA)))
theorem T1_ok (ts : List (List Nat)) (hl : ts.length ≤ 1000) (h : ∀ p ∈ ts, p.length ≤ 600 ∧ asc p = true) (x0 x2 x3 x4 x5 x6 x8 : SV) : T1 [x0, .d (.lst (ts.map sd)), x2, x3, x4, x5, x6, .un, x8] = .ok (ts.map fun _ => D.bl true) [x0, .d (.lst (ts.map sd)), x2, x3, x4, x5, x6, .un, x8] := by
  refine (lcE_pure (vs := [7]) (gi := seqI (varE 1)) (fun _ => true) (fun _ => .bl true) (items := ts.map sd) (ρ1 := [x0, .d (.lst (ts.map sd)), x2, x3, x4, x5, x6, .un, x8]) rfl rfl (by rw [List.length_map]; unfold lim; omega) rfl ?_).trans (by rw [filt, List.map_map]; rfl)
  intro d hd
  obtain ⟨p, hp, rfl⟩ := List.mem_map.mp hd
  refine ⟨[x0, .d (.lst (ts.map sd)), x2, x3, x4, x5, x6, .d (sd p), x8], rfl, rfl, rfl, fun _ => ?_⟩
  obtain ⟨h1, h2⟩ := h p hp
  have e1 : f_l_text_right [sd p] = .ok (.bl true) := x_l_text_right h1 h2
  generalize ts.map sd = L at *
  simp only [seqS, ifS, boolE, binE, unE, appE, ixOwnE, popOwnE, lenOwnE, cE, varE, retS, retNS, asgS, asgOwnS, parS, parOwnS, appendS, dropS, nopS, forS, forGo, seqI, range1I, range2I, enumI, rangeL, callE, callIO, callL, consA, nilA, nameT, tupT, consT, nilT, ownIxT, andE, orE, notE, andT, orT, notT, chainE, ifE, slE, someO, noO, lstE, lstF, appL, methE, isStrD, raiseS, rsIO, rsOf, own0, ofOpt, R.bind_ok, R.bind_er, R.bindS_ok, R.bindS_er, Option.bind_some, Option.map_some, List.map_cons, List.map_nil, List.cons_append, List.nil_append, List.replicate_succ, List.replicate_zero, List.getElem?_cons_zero, List.getElem?_cons_succ, List.length_cons, List.length_nil, List.set_cons_zero, List.set_cons_succ, isOwn, if_true, reduceIte, Bool.false_eq_true, Nat.reduceAdd, atI_0, atI_1, ixN_0, ixN_1, gt_int, lt_int, le_int, ge_int, add_int, sub_int, eq_int, ne_int, eq_str, ne_str, decide_true, decide_false, Nat.zero_add, e1]
theorem all_true (ts : List (List Nat)) : allF [.lst (ts.map fun _ => D.bl true)] = some (.bl true) := by
  show (blsOf _).map _ = _
  rw [bls_mapL (fun _ => true)]
  show some (D.bl ((ts.map fun _ => true).all id)) = _
  congr 2
  rw [List.all_map]
  exact List.all_eq_true.mpr fun _ _ => rfl
def A3 : GS := (asgS (lstE (lstF (consA (cE .non) (consA (cE (.int 0)) (consA (appE tupF (consA (cE (.str "a leaves")) nilA)) (consA (lstE (lstF (consA (cE (.str "a leaves")) nilA))) (consA (cE (.bl true)) nilA))))))) (nameT 3))
def A4 : GS := (retS (andE (appE allF (consA (lstE T1) nilA)) (binE eqF (lstE O1) (lstE O2))))
theorem law_is : g_law = seqS A1 (seqS A2 (seqS (forS (seqI (appE tupF (consA (cE (.int 0)) (consA (cE (.int 1)) nilA)))) (nameT 2) CB) (seqS A3 A4))) := rfl
theorem law_plain (ns : List Int) : f_law [.fz (ns.map .int)] = .ok (.bl true) := by
  obtain ⟨y4, y5, y6, h5, e1⟩ := CB_ok ns 0 (.d (.lst ((TX1 ++ TX2).map sd))) .un .un .un .un .un .un rfl
  obtain ⟨z4, z5, z6, h5', e2⟩ := CB_ok ns 1 (.d (.lst ((TX1 ++ TX2).map sd))) .un y4 y5 y6 .un .un h5
  have t2 : ∀ x y : D, tupF [x, y] = some (.tup [x, y]) := fun _ _ => rfl
  have e0 := A12_ok (.d (.fz (ns.map .int)))
  have e3 := T1_ok (TX1 ++ TX2) (by decide) TX_ok (.d (.fz (ns.map .int))) (.d (.int 1)) (.d (.lst OD)) z4 z5 z6 .un
  have e4 := O1_ok (.d (.fz (ns.map .int))) (.d (.lst ((TX1 ++ TX2).map sd))) (.d (.int 1)) z4 z5 z6 .un
  have e5 := O2_ok (.d (.fz (ns.map .int))) (.d (.lst ((TX1 ++ TX2).map sd))) (.d (.int 1)) z4 z5 z6 .un
  have e6 := nt_eq (OD.map rp) fun r hr => by
    obtain ⟨d, hd, rfl⟩ := List.mem_map.mp hr
    exact (rp_ok hd).2
  have e7 := all_true (TX1 ++ TX2)
  have t1 : ∀ x : D, tupF [x] = some (.tup [x]) := fun _ => rfl
  have l5 : (5 : Nat) ≤ lim := by decide
  have l1 : (1 : Nat) ≤ lim := by decide
  have a3 : ∀ x1 : SV, A3 [.d (.fz (ns.map .int)), x1, .d (.int 1), .un, z4, z5, z6, .un, .un] = .nx [.d (.fz (ns.map .int)), x1, .d (.int 1), .d (.lst OD), z4, z5, z6, .un, .un] := fun x1 => by
    unfold A3 OD
    generalize ns.map D.int = xs at *
    simp only [seqS, ifS, boolE, binE, unE, appE, ixOwnE, popOwnE, lenOwnE, cE, varE, retS, retNS, asgS, asgOwnS, parS, parOwnS, appendS, dropS, nopS, forS, forGo, seqI, range1I, range2I, enumI, rangeL, callE, callIO, callL, consA, nilA, nameT, tupT, consT, nilT, ownIxT, andE, orE, notE, andT, orT, notT, chainE, ifE, slE, someO, noO, lstE, lstF, appL, methE, isStrD, raiseS, rsIO, rsOf, own0, ofOpt, R.bind_ok, R.bind_er, R.bindS_ok, R.bindS_er, Option.bind_some, Option.map_some, List.map_cons, List.map_nil, List.cons_append, List.nil_append, List.replicate_succ, List.replicate_zero, List.getElem?_cons_zero, List.getElem?_cons_succ, List.length_cons, List.length_nil, List.set_cons_zero, List.set_cons_succ, isOwn, if_true, reduceIte, Bool.false_eq_true, Nat.reduceAdd, atI_0, atI_1, ixN_0, ixN_1, gt_int, lt_int, le_int, ge_int, add_int, sub_int, eq_int, ne_int, eq_str, ne_str, decide_true, decide_false, Nat.zero_add, t1, l5, l1]
  generalize ((OD.map rp).map nt) = N at *
  generalize (TX1 ++ TX2).map (fun _ => D.bl true) = L3 at *
  generalize (TX1 ++ TX2).map sd = L at *
  generalize ns.map D.int = xs at *
  have hfor : forS (seqI (appE tupF (consA (cE (.int 0)) (consA (cE (.int 1)) nilA)))) (nameT 2) CB [.d (.fz xs), .d (.lst L), .un, .un, .un, .un, .un, .un, .un] = .nx [.d (.fz xs), .d (.lst L), .d (.int 1), .un, z4, z5, z6, .un, .un] := by
    have e1' : CB [.d (.fz xs), .d (.lst L), .d (.int 0), .un, .un, .un, .un, .un, .un] = .nx [.d (.fz xs), .d (.lst L), .d (.int 0), .un, y4, y5, y6, .un, .un] := e1
    have e2' : CB [.d (.fz xs), .d (.lst L), .d (.int 1), .un, y4, y5, y6, .un, .un] = .nx [.d (.fz xs), .d (.lst L), .d (.int 1), .un, z4, z5, z6, .un, .un] := e2
    generalize CB = B at e1' e2'
    simp only [seqS, ifS, boolE, binE, unE, appE, ixOwnE, popOwnE, lenOwnE, cE, varE, retS, retNS, asgS, asgOwnS, parS, parOwnS, appendS, dropS, nopS, forS, forGo, seqI, range1I, range2I, enumI, rangeL, callE, callIO, callL, consA, nilA, nameT, tupT, consT, nilT, ownIxT, andE, orE, notE, andT, orT, notT, chainE, ifE, slE, someO, noO, lstE, lstF, appL, methE, isStrD, raiseS, rsIO, rsOf, own0, ofOpt, R.bind_ok, R.bind_er, R.bindS_ok, R.bindS_er, Option.bind_some, Option.map_some, List.map_cons, List.map_nil, List.cons_append, List.nil_append, List.replicate_succ, List.replicate_zero, List.getElem?_cons_zero, List.getElem?_cons_succ, List.length_cons, List.length_nil, List.set_cons_zero, List.set_cons_succ, isOwn, if_true, reduceIte, Bool.false_eq_true, Nat.reduceAdd, atI_0, atI_1, ixN_0, ixN_1, gt_int, lt_int, le_int, ge_int, add_int, sub_int, eq_int, ne_int, eq_str, ne_str, decide_true, decide_false, Nat.zero_add, t2, e1', e2']
  show rsOf (g_law [.d (.fz xs), .un, .un, .un, .un, .un, .un, .un, .un]) = _
  have q : ∀ h : GS, seqS A1 (seqS A2 h) = seqS A12 h := fun h => seqS_as _ _ _
  rw [law_is, q, seqS_nx e0, seqS_nx hfor, seqS_nx (a3 _)]
  unfold A4
  generalize T1 = T at *
  generalize O1 = P1 at *
  generalize O2 = P2 at *
  generalize OD = L5 at *
  simp only [seqS, ifS, boolE, binE, unE, appE, ixOwnE, popOwnE, lenOwnE, cE, varE, retS, retNS, asgS, asgOwnS, parS, parOwnS, appendS, dropS, nopS, forS, forGo, seqI, range1I, range2I, enumI, rangeL, callE, callIO, callL, consA, nilA, nameT, tupT, consT, nilT, ownIxT, andE, orE, notE, andT, orT, notT, chainE, ifE, slE, someO, noO, lstE, lstF, appL, methE, isStrD, raiseS, rsIO, rsOf, own0, ofOpt, R.bind_ok, R.bind_er, R.bindS_ok, R.bindS_er, Option.bind_some, Option.map_some, List.map_cons, List.map_nil, List.cons_append, List.nil_append, List.replicate_succ, List.replicate_zero, List.getElem?_cons_zero, List.getElem?_cons_succ, List.length_cons, List.length_nil, List.set_cons_zero, List.set_cons_succ, isOwn, if_true, reduceIte, Bool.false_eq_true, Nat.reduceAdd, atI_0, atI_1, ixN_0, ixN_1, gt_int, lt_int, le_int, ge_int, add_int, sub_int, eq_int, ne_int, eq_str, ne_str, decide_true, decide_false, Nat.zero_add, e3, e7, e4, e5, e6]
end K12
end L2
namespace L2
namespace K12
open PySem PySem.Spec PyProof.Rows PL
theorem law_true : ∀ ns : List Int, ns.length ≤ 63 → (∀ z ∈ ns, Builtin.Int.intBits z ≤ 1048576) → f_law [.fz (ns.map .int)] = .ok (.bl true) := fun ns _ _ => law_plain ns
end K12
end L2
set_option Elab.async false
set_option linter.all false
set_option maxRecDepth 100000
set_option maxHeartbeats 4000000
namespace L2
namespace K12
open PySem PySem.Spec PyProof.Rows PL
theorem law_mk {w : World} {K : PySem.W.Frag} {h : Heap} {mg : Str → Option Value} {fa : Addr} (X : K.In h) (G : h.Ns mainGlobals mg) (hfa : mg "law" = some (.ref fa))
    {q_is_integer : Addr}
    {od_is_integer an_is_integer : Option Addr}
    {sl_is_integer : Array (Option Value)}
    {oc_is_integer kV_is_integer dc_is_integer pm_is_integer cd_is_integer ct_is_integer : Value}
    (a_is_integer : PySem.W.nsIn K mainGlobals "is_integer" = some (some (.ref q_is_integer)))
    (l_is_integer : K.lookup q_is_integer = some ⟨oc_is_integer, od_is_integer, .func (PySem.W.fnOf "is_integer" "is_integer" (defArgs s_is_integer) (defBody s_is_integer) (defScope s_is_integer) .none kV_is_integer dc_is_integer pm_is_integer an_is_integer cd_is_integer ct_is_integer), sl_is_integer⟩)
    (c_is_integer : PySem.W.codeIn K cd_is_integer "is_integer" = true)
    (k_is_integer : PySem.W.keepIn K (.ref q_is_integer) = true)
    {q_is_within : Addr}
    {od_is_within an_is_within : Option Addr}
    {sl_is_within : Array (Option Value)}
    {oc_is_within kV_is_within dc_is_within pm_is_within cd_is_within ct_is_within : Value}
    (a_is_within : PySem.W.nsIn K mainGlobals "is_within" = some (some (.ref q_is_within)))
    (l_is_within : K.lookup q_is_within = some ⟨oc_is_within, od_is_within, .func (PySem.W.fnOf "is_within" "is_within" (defArgs s_is_within) (defBody s_is_within) (defScope s_is_within) .none kV_is_within dc_is_within pm_is_within an_is_within cd_is_within ct_is_within), sl_is_within⟩)
    (c_is_within : PySem.W.codeIn K cd_is_within "is_within" = true)
    (k_is_within : PySem.W.keepIn K (.ref q_is_within) = true)
    {q_is_name_value : Addr}
    {od_is_name_value an_is_name_value : Option Addr}
    {sl_is_name_value : Array (Option Value)}
    {oc_is_name_value kV_is_name_value dc_is_name_value pm_is_name_value cd_is_name_value ct_is_name_value : Value}
    (a_is_name_value : PySem.W.nsIn K mainGlobals "is_name_value" = some (some (.ref q_is_name_value)))
    (l_is_name_value : K.lookup q_is_name_value = some ⟨oc_is_name_value, od_is_name_value, .func (PySem.W.fnOf "is_name_value" "is_name_value" (defArgs s_is_name_value) (defBody s_is_name_value) (defScope s_is_name_value) .none kV_is_name_value dc_is_name_value pm_is_name_value an_is_name_value cd_is_name_value ct_is_name_value), sl_is_name_value⟩)
    (c_is_name_value : PySem.W.codeIn K cd_is_name_value "is_name_value" = true)
    (k_is_name_value : PySem.W.keepIn K (.ref q_is_name_value) = true)
    {q_number_in : Addr}
    {od_number_in an_number_in : Option Addr}
    {sl_number_in : Array (Option Value)}
    {oc_number_in kV_number_in dc_number_in pm_number_in cd_number_in ct_number_in : Value}
    (a_number_in : PySem.W.nsIn K mainGlobals "number_in" = some (some (.ref q_number_in)))
    (l_number_in : K.lookup q_number_in = some ⟨oc_number_in, od_number_in, .func (PySem.W.fnOf "number_in" "number_in" (defArgs s_number_in) (defBody s_number_in) (defScope s_number_in) .none kV_number_in dc_number_in pm_number_in an_number_in cd_number_in ct_number_in), sl_number_in⟩)
    (c_number_in : PySem.W.codeIn K cd_number_in "number_in" = true)
    (k_number_in : PySem.W.keepIn K (.ref q_number_in) = true)
    {q_are_two : Addr}
    {od_are_two an_are_two : Option Addr}
    {sl_are_two : Array (Option Value)}
    {oc_are_two kV_are_two dc_are_two pm_are_two cd_are_two ct_are_two : Value}
    (a_are_two : PySem.W.nsIn K mainGlobals "are_two" = some (some (.ref q_are_two)))
    (l_are_two : K.lookup q_are_two = some ⟨oc_are_two, od_are_two, .func (PySem.W.fnOf "are_two" "are_two" (defArgs s_are_two) (defBody s_are_two) (defScope s_are_two) .none kV_are_two dc_are_two pm_are_two an_are_two cd_are_two ct_are_two), sl_are_two⟩)
    (c_are_two : PySem.W.codeIn K cd_are_two "are_two" = true)
    (k_are_two : PySem.W.keepIn K (.ref q_are_two) = true)
    {q_is_event_form : Addr}
    {od_is_event_form an_is_event_form : Option Addr}
    {sl_is_event_form : Array (Option Value)}
    {oc_is_event_form kV_is_event_form dc_is_event_form pm_is_event_form cd_is_event_form ct_is_event_form : Value}
    (a_is_event_form : PySem.W.nsIn K mainGlobals "is_event_form" = some (some (.ref q_is_event_form)))
    (l_is_event_form : K.lookup q_is_event_form = some ⟨oc_is_event_form, od_is_event_form, .func (PySem.W.fnOf "is_event_form" "is_event_form" (defArgs s_is_event_form) (defBody s_is_event_form) (defScope s_is_event_form) .none kV_is_event_form dc_is_event_form pm_is_event_form an_is_event_form cd_is_event_form ct_is_event_form), sl_is_event_form⟩)
    (c_is_event_form : PySem.W.codeIn K cd_is_event_form "is_event_form" = true)
    (k_is_event_form : PySem.W.keepIn K (.ref q_is_event_form) = true)
    {q_event_told : Addr}
    {od_event_told an_event_told : Option Addr}
    {sl_event_told : Array (Option Value)}
    {oc_event_told kV_event_told dc_event_told pm_event_told cd_event_told ct_event_told : Value}
    (a_event_told : PySem.W.nsIn K mainGlobals "event_told" = some (some (.ref q_event_told)))
    (l_event_told : K.lookup q_event_told = some ⟨oc_event_told, od_event_told, .func (PySem.W.fnOf "event_told" "event_told" (defArgs s_event_told) (defBody s_event_told) (defScope s_event_told) .none kV_event_told dc_event_told pm_event_told an_event_told cd_event_told ct_event_told), sl_event_told⟩)
    (c_event_told : PySem.W.codeIn K cd_event_told "event_told" = true)
    (k_event_told : PySem.W.keepIn K (.ref q_event_told) = true)
    {q_event_by : Addr}
    {od_event_by an_event_by : Option Addr}
    {sl_event_by : Array (Option Value)}
    {oc_event_by kV_event_by dc_event_by pm_event_by cd_event_by ct_event_by : Value}
    (a_event_by : PySem.W.nsIn K mainGlobals "event_by" = some (some (.ref q_event_by)))
    (l_event_by : K.lookup q_event_by = some ⟨oc_event_by, od_event_by, .func (PySem.W.fnOf "event_by" "event_by" (defArgs s_event_by) (defBody s_event_by) (defScope s_event_by) .none kV_event_by dc_event_by pm_event_by an_event_by cd_event_by ct_event_by), sl_event_by⟩)
    (c_event_by : PySem.W.codeIn K cd_event_by "event_by" = true)
    (k_event_by : PySem.W.keepIn K (.ref q_event_by) = true)
    {q_can_be_name : Addr}
    {od_can_be_name an_can_be_name : Option Addr}
    {sl_can_be_name : Array (Option Value)}
    {oc_can_be_name kV_can_be_name dc_can_be_name pm_can_be_name cd_can_be_name ct_can_be_name : Value}
    (a_can_be_name : PySem.W.nsIn K mainGlobals "can_be_name" = some (some (.ref q_can_be_name)))
    (l_can_be_name : K.lookup q_can_be_name = some ⟨oc_can_be_name, od_can_be_name, .func (PySem.W.fnOf "can_be_name" "can_be_name" (defArgs s_can_be_name) (defBody s_can_be_name) (defScope s_can_be_name) .none kV_can_be_name dc_can_be_name pm_can_be_name an_can_be_name cd_can_be_name ct_can_be_name), sl_can_be_name⟩)
    (c_can_be_name : PySem.W.codeIn K cd_can_be_name "can_be_name" = true)
    (k_can_be_name : PySem.W.keepIn K (.ref q_can_be_name) = true)
    {q_can_be_round : Addr}
    {od_can_be_round an_can_be_round : Option Addr}
    {sl_can_be_round : Array (Option Value)}
    {oc_can_be_round kV_can_be_round dc_can_be_round pm_can_be_round cd_can_be_round ct_can_be_round : Value}
    (a_can_be_round : PySem.W.nsIn K mainGlobals "can_be_round" = some (some (.ref q_can_be_round)))
    (l_can_be_round : K.lookup q_can_be_round = some ⟨oc_can_be_round, od_can_be_round, .func (PySem.W.fnOf "can_be_round" "can_be_round" (defArgs s_can_be_round) (defBody s_can_be_round) (defScope s_can_be_round) .none kV_can_be_round dc_can_be_round pm_can_be_round an_can_be_round cd_can_be_round ct_can_be_round), sl_can_be_round⟩)
    (c_can_be_round : PySem.W.codeIn K cd_can_be_round "can_be_round" = true)
    (k_can_be_round : PySem.W.keepIn K (.ref q_can_be_round) = true)
    {q_can_be_verb : Addr}
    {od_can_be_verb an_can_be_verb : Option Addr}
    {sl_can_be_verb : Array (Option Value)}
    {oc_can_be_verb kV_can_be_verb dc_can_be_verb pm_can_be_verb cd_can_be_verb ct_can_be_verb : Value}
    (a_can_be_verb : PySem.W.nsIn K mainGlobals "can_be_verb" = some (some (.ref q_can_be_verb)))
    (l_can_be_verb : K.lookup q_can_be_verb = some ⟨oc_can_be_verb, od_can_be_verb, .func (PySem.W.fnOf "can_be_verb" "can_be_verb" (defArgs s_can_be_verb) (defBody s_can_be_verb) (defScope s_can_be_verb) .none kV_can_be_verb dc_can_be_verb pm_can_be_verb an_can_be_verb cd_can_be_verb ct_can_be_verb), sl_can_be_verb⟩)
    (c_can_be_verb : PySem.W.codeIn K cd_can_be_verb "can_be_verb" = true)
    (k_can_be_verb : PySem.W.keepIn K (.ref q_can_be_verb) = true)
    {q_can_be_game : Addr}
    {od_can_be_game an_can_be_game : Option Addr}
    {sl_can_be_game : Array (Option Value)}
    {oc_can_be_game kV_can_be_game dc_can_be_game pm_can_be_game cd_can_be_game ct_can_be_game : Value}
    (a_can_be_game : PySem.W.nsIn K mainGlobals "can_be_game" = some (some (.ref q_can_be_game)))
    (l_can_be_game : K.lookup q_can_be_game = some ⟨oc_can_be_game, od_can_be_game, .func (PySem.W.fnOf "can_be_game" "can_be_game" (defArgs s_can_be_game) (defBody s_can_be_game) (defScope s_can_be_game) .none kV_can_be_game dc_can_be_game pm_can_be_game an_can_be_game cd_can_be_game ct_can_be_game), sl_can_be_game⟩)
    (c_can_be_game : PySem.W.codeIn K cd_can_be_game "can_be_game" = true)
    (k_can_be_game : PySem.W.keepIn K (.ref q_can_be_game) = true)
    {q_can_begin : Addr}
    {od_can_begin an_can_begin : Option Addr}
    {sl_can_begin : Array (Option Value)}
    {oc_can_begin kV_can_begin dc_can_begin pm_can_begin cd_can_begin ct_can_begin : Value}
    (a_can_begin : PySem.W.nsIn K mainGlobals "can_begin" = some (some (.ref q_can_begin)))
    (l_can_begin : K.lookup q_can_begin = some ⟨oc_can_begin, od_can_begin, .func (PySem.W.fnOf "can_begin" "can_begin" (defArgs s_can_begin) (defBody s_can_begin) (defScope s_can_begin) .none kV_can_begin dc_can_begin pm_can_begin an_can_begin cd_can_begin ct_can_begin), sl_can_begin⟩)
    (c_can_begin : PySem.W.codeIn K cd_can_begin "can_begin" = true)
    (k_can_begin : PySem.W.keepIn K (.ref q_can_begin) = true)
    {q_event_in : Addr}
    {od_event_in an_event_in : Option Addr}
    {sl_event_in : Array (Option Value)}
    {oc_event_in kV_event_in dc_event_in pm_event_in cd_event_in ct_event_in : Value}
    (a_event_in : PySem.W.nsIn K mainGlobals "event_in" = some (some (.ref q_event_in)))
    (l_event_in : K.lookup q_event_in = some ⟨oc_event_in, od_event_in, .func (PySem.W.fnOf "event_in" "event_in" (defArgs s_event_in) (defBody s_event_in) (defScope s_event_in) .none kV_event_in dc_event_in pm_event_in an_event_in cd_event_in ct_event_in), sl_event_in⟩)
    (c_event_in : PySem.W.codeIn K cd_event_in "event_in" = true)
    (k_event_in : PySem.W.keepIn K (.ref q_event_in) = true)
    {q_unread_at : Addr}
    {od_unread_at an_unread_at : Option Addr}
    {sl_unread_at : Array (Option Value)}
    {oc_unread_at kV_unread_at dc_unread_at pm_unread_at cd_unread_at ct_unread_at : Value}
    (a_unread_at : PySem.W.nsIn K mainGlobals "unread_at" = some (some (.ref q_unread_at)))
    (l_unread_at : K.lookup q_unread_at = some ⟨oc_unread_at, od_unread_at, .func (PySem.W.fnOf "unread_at" "unread_at" (defArgs s_unread_at) (defBody s_unread_at) (defScope s_unread_at) .none kV_unread_at dc_unread_at pm_unread_at an_unread_at cd_unread_at ct_unread_at), sl_unread_at⟩)
    (c_unread_at : PySem.W.codeIn K cd_unread_at "unread_at" = true)
    (k_unread_at : PySem.W.keepIn K (.ref q_unread_at) = true)
    {q_event_text : Addr}
    {od_event_text an_event_text : Option Addr}
    {sl_event_text : Array (Option Value)}
    {oc_event_text kV_event_text dc_event_text pm_event_text cd_event_text ct_event_text : Value}
    (a_event_text : PySem.W.nsIn K mainGlobals "event_text" = some (some (.ref q_event_text)))
    (l_event_text : K.lookup q_event_text = some ⟨oc_event_text, od_event_text, .func (PySem.W.fnOf "event_text" "event_text" (defArgs s_event_text) (defBody s_event_text) (defScope s_event_text) .none kV_event_text dc_event_text pm_event_text an_event_text cd_event_text ct_event_text), sl_event_text⟩)
    (c_event_text : PySem.W.codeIn K cd_event_text "event_text" = true)
    (k_event_text : PySem.W.keepIn K (.ref q_event_text) = true)
    {q_event_of_text : Addr}
    {od_event_of_text an_event_of_text : Option Addr}
    {sl_event_of_text : Array (Option Value)}
    {oc_event_of_text kV_event_of_text dc_event_of_text pm_event_of_text cd_event_of_text ct_event_of_text : Value}
    (a_event_of_text : PySem.W.nsIn K mainGlobals "event_of_text" = some (some (.ref q_event_of_text)))
    (l_event_of_text : K.lookup q_event_of_text = some ⟨oc_event_of_text, od_event_of_text, .func (PySem.W.fnOf "event_of_text" "event_of_text" (defArgs s_event_of_text) (defBody s_event_of_text) (defScope s_event_of_text) .none kV_event_of_text dc_event_of_text pm_event_of_text an_event_of_text cd_event_of_text ct_event_of_text), sl_event_of_text⟩)
    (c_event_of_text : PySem.W.codeIn K cd_event_of_text "event_of_text" = true)
    (k_event_of_text : PySem.W.keepIn K (.ref q_event_of_text) = true)
    {q_is_event_text : Addr}
    {od_is_event_text an_is_event_text : Option Addr}
    {sl_is_event_text : Array (Option Value)}
    {oc_is_event_text kV_is_event_text dc_is_event_text pm_is_event_text cd_is_event_text ct_is_event_text : Value}
    (a_is_event_text : PySem.W.nsIn K mainGlobals "is_event_text" = some (some (.ref q_is_event_text)))
    (l_is_event_text : K.lookup q_is_event_text = some ⟨oc_is_event_text, od_is_event_text, .func (PySem.W.fnOf "is_event_text" "is_event_text" (defArgs s_is_event_text) (defBody s_is_event_text) (defScope s_is_event_text) .none kV_is_event_text dc_is_event_text pm_is_event_text an_is_event_text cd_is_event_text ct_is_event_text), sl_is_event_text⟩)
    (c_is_event_text : PySem.W.codeIn K cd_is_event_text "is_event_text" = true)
    (k_is_event_text : PySem.W.keepIn K (.ref q_is_event_text) = true)
    {q_l_pot : Addr}
    {od_l_pot an_l_pot : Option Addr}
    {sl_l_pot : Array (Option Value)}
    {oc_l_pot kV_l_pot dc_l_pot pm_l_pot cd_l_pot ct_l_pot : Value}
    (a_l_pot : PySem.W.nsIn K mainGlobals "_law_pot" = some (some (.ref q_l_pot)))
    (l_l_pot : K.lookup q_l_pot = some ⟨oc_l_pot, od_l_pot, .func (PySem.W.fnOf "_law_pot" "_law_pot" (defArgs s_l_pot) (defBody s_l_pot) (defScope s_l_pot) .none kV_l_pot dc_l_pot pm_l_pot an_l_pot cd_l_pot ct_l_pot), sl_l_pot⟩)
    (c_l_pot : PySem.W.codeIn K cd_l_pot "_law_pot" = true)
    (k_l_pot : PySem.W.keepIn K (.ref q_l_pot) = true)
    {q_l_draw : Addr}
    {od_l_draw an_l_draw : Option Addr}
    {sl_l_draw : Array (Option Value)}
    {oc_l_draw kV_l_draw dc_l_draw pm_l_draw cd_l_draw ct_l_draw : Value}
    (a_l_draw : PySem.W.nsIn K mainGlobals "_law_draw" = some (some (.ref q_l_draw)))
    (l_l_draw : K.lookup q_l_draw = some ⟨oc_l_draw, od_l_draw, .func (PySem.W.fnOf "_law_draw" "_law_draw" (defArgs s_l_draw) (defBody s_l_draw) (defScope s_l_draw) .none kV_l_draw dc_l_draw pm_l_draw an_l_draw cd_l_draw ct_l_draw), sl_l_draw⟩)
    (c_l_draw : PySem.W.codeIn K cd_l_draw "_law_draw" = true)
    (k_l_draw : PySem.W.keepIn K (.ref q_l_draw) = true)
    {q_l_pick : Addr}
    {od_l_pick an_l_pick : Option Addr}
    {sl_l_pick : Array (Option Value)}
    {oc_l_pick kV_l_pick dc_l_pick pm_l_pick cd_l_pick ct_l_pick : Value}
    (a_l_pick : PySem.W.nsIn K mainGlobals "_law_pick" = some (some (.ref q_l_pick)))
    (l_l_pick : K.lookup q_l_pick = some ⟨oc_l_pick, od_l_pick, .func (PySem.W.fnOf "_law_pick" "_law_pick" (defArgs s_l_pick) (defBody s_l_pick) (defScope s_l_pick) .none kV_l_pick dc_l_pick pm_l_pick an_l_pick cd_l_pick ct_l_pick), sl_l_pick⟩)
    (c_l_pick : PySem.W.codeIn K cd_l_pick "_law_pick" = true)
    (k_l_pick : PySem.W.keepIn K (.ref q_l_pick) = true)
    {q_l_is_name : Addr}
    {od_l_is_name an_l_is_name : Option Addr}
    {sl_l_is_name : Array (Option Value)}
    {oc_l_is_name kV_l_is_name dc_l_is_name pm_l_is_name cd_l_is_name ct_l_is_name : Value}
    (a_l_is_name : PySem.W.nsIn K mainGlobals "_law_is_name" = some (some (.ref q_l_is_name)))
    (l_l_is_name : K.lookup q_l_is_name = some ⟨oc_l_is_name, od_l_is_name, .func (PySem.W.fnOf "_law_is_name" "_law_is_name" (defArgs s_l_is_name) (defBody s_l_is_name) (defScope s_l_is_name) .none kV_l_is_name dc_l_is_name pm_l_is_name an_l_is_name cd_l_is_name ct_l_is_name), sl_l_is_name⟩)
    (c_l_is_name : PySem.W.codeIn K cd_l_is_name "_law_is_name" = true)
    (k_l_is_name : PySem.W.keepIn K (.ref q_l_is_name) = true)
    {q_l_is_event : Addr}
    {od_l_is_event an_l_is_event : Option Addr}
    {sl_l_is_event : Array (Option Value)}
    {oc_l_is_event kV_l_is_event dc_l_is_event pm_l_is_event cd_l_is_event ct_l_is_event : Value}
    (a_l_is_event : PySem.W.nsIn K mainGlobals "_law_is_event" = some (some (.ref q_l_is_event)))
    (l_l_is_event : K.lookup q_l_is_event = some ⟨oc_l_is_event, od_l_is_event, .func (PySem.W.fnOf "_law_is_event" "_law_is_event" (defArgs s_l_is_event) (defBody s_l_is_event) (defScope s_l_is_event) .none kV_l_is_event dc_l_is_event pm_l_is_event an_l_is_event cd_l_is_event ct_l_is_event), sl_l_is_event⟩)
    (c_l_is_event : PySem.W.codeIn K cd_l_is_event "_law_is_event" = true)
    (k_l_is_event : PySem.W.keepIn K (.ref q_l_is_event) = true)
    {q_l_text : Addr}
    {od_l_text an_l_text : Option Addr}
    {sl_l_text : Array (Option Value)}
    {oc_l_text kV_l_text dc_l_text pm_l_text cd_l_text ct_l_text : Value}
    (a_l_text : PySem.W.nsIn K mainGlobals "_law_text" = some (some (.ref q_l_text)))
    (l_l_text : K.lookup q_l_text = some ⟨oc_l_text, od_l_text, .func (PySem.W.fnOf "_law_text" "_law_text" (defArgs s_l_text) (defBody s_l_text) (defScope s_l_text) .none kV_l_text dc_l_text pm_l_text an_l_text cd_l_text ct_l_text), sl_l_text⟩)
    (c_l_text : PySem.W.codeIn K cd_l_text "_law_text" = true)
    (k_l_text : PySem.W.keepIn K (.ref q_l_text) = true)
    {q_l_event : Addr}
    {od_l_event an_l_event : Option Addr}
    {sl_l_event : Array (Option Value)}
    {oc_l_event kV_l_event dc_l_event pm_l_event cd_l_event ct_l_event : Value}
    (a_l_event : PySem.W.nsIn K mainGlobals "_law_event" = some (some (.ref q_l_event)))
    (l_l_event : K.lookup q_l_event = some ⟨oc_l_event, od_l_event, .func (PySem.W.fnOf "_law_event" "_law_event" (defArgs s_l_event) (defBody s_l_event) (defScope s_l_event) .none kV_l_event dc_l_event pm_l_event an_l_event cd_l_event ct_l_event), sl_l_event⟩)
    (c_l_event : PySem.W.codeIn K cd_l_event "_law_event" = true)
    (k_l_event : PySem.W.keepIn K (.ref q_l_event) = true)
    {q_l_can_be_told : Addr}
    {od_l_can_be_told an_l_can_be_told : Option Addr}
    {sl_l_can_be_told : Array (Option Value)}
    {oc_l_can_be_told kV_l_can_be_told dc_l_can_be_told pm_l_can_be_told cd_l_can_be_told ct_l_can_be_told : Value}
    (a_l_can_be_told : PySem.W.nsIn K mainGlobals "_law_can_be_told" = some (some (.ref q_l_can_be_told)))
    (l_l_can_be_told : K.lookup q_l_can_be_told = some ⟨oc_l_can_be_told, od_l_can_be_told, .func (PySem.W.fnOf "_law_can_be_told" "_law_can_be_told" (defArgs s_l_can_be_told) (defBody s_l_can_be_told) (defScope s_l_can_be_told) .none kV_l_can_be_told dc_l_can_be_told pm_l_can_be_told an_l_can_be_told cd_l_can_be_told ct_l_can_be_told), sl_l_can_be_told⟩)
    (c_l_can_be_told : PySem.W.codeIn K cd_l_can_be_told "_law_can_be_told" = true)
    (k_l_can_be_told : PySem.W.keepIn K (.ref q_l_can_be_told) = true)
    {q_l_can_begin : Addr}
    {od_l_can_begin an_l_can_begin : Option Addr}
    {sl_l_can_begin : Array (Option Value)}
    {oc_l_can_begin kV_l_can_begin dc_l_can_begin pm_l_can_begin cd_l_can_begin ct_l_can_begin : Value}
    (a_l_can_begin : PySem.W.nsIn K mainGlobals "_law_can_begin" = some (some (.ref q_l_can_begin)))
    (l_l_can_begin : K.lookup q_l_can_begin = some ⟨oc_l_can_begin, od_l_can_begin, .func (PySem.W.fnOf "_law_can_begin" "_law_can_begin" (defArgs s_l_can_begin) (defBody s_l_can_begin) (defScope s_l_can_begin) .none kV_l_can_begin dc_l_can_begin pm_l_can_begin an_l_can_begin cd_l_can_begin ct_l_can_begin), sl_l_can_begin⟩)
    (c_l_can_begin : PySem.W.codeIn K cd_l_can_begin "_law_can_begin" = true)
    (k_l_can_begin : PySem.W.keepIn K (.ref q_l_can_begin) = true)
    {q_l_unread : Addr}
    {od_l_unread an_l_unread : Option Addr}
    {sl_l_unread : Array (Option Value)}
    {oc_l_unread kV_l_unread dc_l_unread pm_l_unread cd_l_unread ct_l_unread : Value}
    (a_l_unread : PySem.W.nsIn K mainGlobals "_law_unread" = some (some (.ref q_l_unread)))
    (l_l_unread : K.lookup q_l_unread = some ⟨oc_l_unread, od_l_unread, .func (PySem.W.fnOf "_law_unread" "_law_unread" (defArgs s_l_unread) (defBody s_l_unread) (defScope s_l_unread) .none kV_l_unread dc_l_unread pm_l_unread an_l_unread cd_l_unread ct_l_unread), sl_l_unread⟩)
    (c_l_unread : PySem.W.codeIn K cd_l_unread "_law_unread" = true)
    (k_l_unread : PySem.W.keepIn K (.ref q_l_unread) = true)
    {q_l_heard : Addr}
    {od_l_heard an_l_heard : Option Addr}
    {sl_l_heard : Array (Option Value)}
    {oc_l_heard kV_l_heard dc_l_heard pm_l_heard cd_l_heard ct_l_heard : Value}
    (a_l_heard : PySem.W.nsIn K mainGlobals "_law_heard" = some (some (.ref q_l_heard)))
    (l_l_heard : K.lookup q_l_heard = some ⟨oc_l_heard, od_l_heard, .func (PySem.W.fnOf "_law_heard" "_law_heard" (defArgs s_l_heard) (defBody s_l_heard) (defScope s_l_heard) .none kV_l_heard dc_l_heard pm_l_heard an_l_heard cd_l_heard ct_l_heard), sl_l_heard⟩)
    (c_l_heard : PySem.W.codeIn K cd_l_heard "_law_heard" = true)
    (k_l_heard : PySem.W.keepIn K (.ref q_l_heard) = true)
    {q_l_name : Addr}
    {od_l_name an_l_name : Option Addr}
    {sl_l_name : Array (Option Value)}
    {oc_l_name kV_l_name dc_l_name pm_l_name cd_l_name ct_l_name : Value}
    (a_l_name : PySem.W.nsIn K mainGlobals "_law_name" = some (some (.ref q_l_name)))
    (l_l_name : K.lookup q_l_name = some ⟨oc_l_name, od_l_name, .func (PySem.W.fnOf "_law_name" "_law_name" (defArgs s_l_name) (defBody s_l_name) (defScope s_l_name) .none kV_l_name dc_l_name pm_l_name an_l_name cd_l_name ct_l_name), sl_l_name⟩)
    (c_l_name : PySem.W.codeIn K cd_l_name "_law_name" = true)
    (k_l_name : PySem.W.keepIn K (.ref q_l_name) = true)
    {q_l_drawn : Addr}
    {od_l_drawn an_l_drawn : Option Addr}
    {sl_l_drawn : Array (Option Value)}
    {oc_l_drawn kV_l_drawn dc_l_drawn pm_l_drawn cd_l_drawn ct_l_drawn : Value}
    (a_l_drawn : PySem.W.nsIn K mainGlobals "_law_drawn" = some (some (.ref q_l_drawn)))
    (l_l_drawn : K.lookup q_l_drawn = some ⟨oc_l_drawn, od_l_drawn, .func (PySem.W.fnOf "_law_drawn" "_law_drawn" (defArgs s_l_drawn) (defBody s_l_drawn) (defScope s_l_drawn) .none kV_l_drawn dc_l_drawn pm_l_drawn an_l_drawn cd_l_drawn ct_l_drawn), sl_l_drawn⟩)
    (c_l_drawn : PySem.W.codeIn K cd_l_drawn "_law_drawn" = true)
    (k_l_drawn : PySem.W.keepIn K (.ref q_l_drawn) = true)
    {q_l_bent : Addr}
    {od_l_bent an_l_bent : Option Addr}
    {sl_l_bent : Array (Option Value)}
    {oc_l_bent kV_l_bent dc_l_bent pm_l_bent cd_l_bent ct_l_bent : Value}
    (a_l_bent : PySem.W.nsIn K mainGlobals "_law_bent" = some (some (.ref q_l_bent)))
    (l_l_bent : K.lookup q_l_bent = some ⟨oc_l_bent, od_l_bent, .func (PySem.W.fnOf "_law_bent" "_law_bent" (defArgs s_l_bent) (defBody s_l_bent) (defScope s_l_bent) .none kV_l_bent dc_l_bent pm_l_bent an_l_bent cd_l_bent ct_l_bent), sl_l_bent⟩)
    (c_l_bent : PySem.W.codeIn K cd_l_bent "_law_bent" = true)
    (k_l_bent : PySem.W.keepIn K (.ref q_l_bent) = true)
    {q_l_text_right : Addr}
    {od_l_text_right an_l_text_right : Option Addr}
    {sl_l_text_right : Array (Option Value)}
    {oc_l_text_right kV_l_text_right dc_l_text_right pm_l_text_right ct_l_text_right : Value}
    {cc_l_text_right pp_l_text_right : Addr}
    (a_l_text_right : PySem.W.nsIn K mainGlobals "_law_text_right" = some (some (.ref q_l_text_right)))
    (l_l_text_right : K.lookup q_l_text_right = some ⟨oc_l_text_right, od_l_text_right, .func (PySem.W.fnOf "_law_text_right" "_law_text_right" (defArgs s_l_text_right) (defBody s_l_text_right) (defScope s_l_text_right) .none kV_l_text_right dc_l_text_right pm_l_text_right an_l_text_right (.ref cc_l_text_right) ct_l_text_right), sl_l_text_right⟩)
    (c_l_text_right : PySem.W.codeIn K (.ref cc_l_text_right) "_law_text_right" = true)
    (k_l_text_right : PySem.W.keepIn K (.ref q_l_text_right) = true)
    (h_l_text_right : PySem.W.codeHdIn K cc_l_text_right pp_l_text_right = true)
    (z_l_text_right : K.lookup pp_l_text_right = none)
    (t_l_text_right : h.get? pp_l_text_right = some (PySem.W.tabObj #[]))
    {q_l_event_right : Addr}
    {od_l_event_right an_l_event_right : Option Addr}
    {sl_l_event_right : Array (Option Value)}
    {oc_l_event_right kV_l_event_right dc_l_event_right pm_l_event_right ct_l_event_right : Value}
    {cc_l_event_right pp_l_event_right : Addr}
    (a_l_event_right : PySem.W.nsIn K mainGlobals "_law_event_right" = some (some (.ref q_l_event_right)))
    (l_l_event_right : K.lookup q_l_event_right = some ⟨oc_l_event_right, od_l_event_right, .func (PySem.W.fnOf "_law_event_right" "_law_event_right" (defArgs s_l_event_right) (defBody s_l_event_right) (defScope s_l_event_right) .none kV_l_event_right dc_l_event_right pm_l_event_right an_l_event_right (.ref cc_l_event_right) ct_l_event_right), sl_l_event_right⟩)
    (c_l_event_right : PySem.W.codeIn K (.ref cc_l_event_right) "_law_event_right" = true)
    (k_l_event_right : PySem.W.keepIn K (.ref q_l_event_right) = true)
    (h_l_event_right : PySem.W.codeHdIn K cc_l_event_right pp_l_event_right = true)
    (z_l_event_right : K.lookup pp_l_event_right = none)
    (t_l_event_right : h.get? pp_l_event_right = some (PySem.W.tabObj #[]))
    {q_law : Addr}
    {od_law an_law : Option Addr}
    {sl_law : Array (Option Value)}
    {oc_law kV_law dc_law pm_law ct_law : Value}
    {cc_law pp_law : Addr}
    (a_law : PySem.W.nsIn K mainGlobals "law" = some (some (.ref q_law)))
    (l_law : K.lookup q_law = some ⟨oc_law, od_law, .func (PySem.W.fnOf "law" "law" (defArgs s_law) (defBody s_law) (defScope s_law) .none kV_law dc_law pm_law an_law (.ref cc_law) ct_law), sl_law⟩)
    (c_law : PySem.W.codeIn K (.ref cc_law) "law" = true)
    (k_law : PySem.W.keepIn K (.ref q_law) = true)
    (h_law : PySem.W.codeHdIn K cc_law pp_law = true)
    (z_law : K.lookup pp_law = none)
    (t_law : h.get? pp_law = some (PySem.W.tabObj #[]))
    (d_l_event_right_l_text_right : pp_l_event_right ≠ pp_l_text_right)
    (d_l_event_right_law : pp_l_event_right ≠ pp_law)
    (d_l_text_right_law : pp_l_text_right ≠ pp_law)
    (n_abs : PySem.W.nsIn K mainGlobals "abs" = some none)
    (n_all : PySem.W.nsIn K mainGlobals "all" = some none)
    (n_any : PySem.W.nsIn K mainGlobals "any" = some none)
    (n_bool : PySem.W.nsIn K mainGlobals "bool" = some none)
    (n_divmod : PySem.W.nsIn K mainGlobals "divmod" = some none)
    (n_int : PySem.W.nsIn K mainGlobals "int" = some none)
    (n_isinstance : PySem.W.nsIn K mainGlobals "isinstance" = some none)
    (n_len : PySem.W.nsIn K mainGlobals "len" = some none)
    (n_list : PySem.W.nsIn K mainGlobals "list" = some none)
    (n_max : PySem.W.nsIn K mainGlobals "max" = some none)
    (n_range : PySem.W.nsIn K mainGlobals "range" = some none)
    (n_repr : PySem.W.nsIn K mainGlobals "repr" = some none)
    (n_str : PySem.W.nsIn K mainGlobals "str" = some none)
    (n_tuple : PySem.W.nsIn K mainGlobals "tuple" = some none)
    {tk_LETTERS : Tok}
    (g_LETTERS : PySem.W.nsIn K mainGlobals "LETTERS" = some (some (.str "abcdefghijklmnopqrstuvwxyz" tk_LETTERS)))
    {tk_DIGITS : Tok}
    (g_DIGITS : PySem.W.nsIn K mainGlobals "DIGITS" = some (some (.str "0123456789" tk_DIGITS)))
    {tk_MINUS : Tok}
    (g_MINUS : PySem.W.nsIn K mainGlobals "MINUS" = some (some (.str "-" tk_MINUS)))
    {tk_MOST_NAME : Tok}
    (g_MOST_NAME : PySem.W.nsIn K mainGlobals "MOST_NAME" = some (some (.int 12 tk_MOST_NAME)))
    {tk_MOST_DIGITS : Tok}
    (g_MOST_DIGITS : PySem.W.nsIn K mainGlobals "MOST_DIGITS" = some (some (.int 13 tk_MOST_DIGITS)))
    {tk_TOLD : Tok}
    (g_TOLD : PySem.W.nsIn K mainGlobals "TOLD" = some (some (.str "told" tk_TOLD)))
    {tk_FIX : Tok}
    (g_FIX : PySem.W.nsIn K mainGlobals "FIX" = some (some (.str "fix" tk_FIX)))
    {tk_LEAVE : Tok}
    (g_LEAVE : PySem.W.nsIn K mainGlobals "LEAVE" = some (some (.str "leave" tk_LEAVE)))
    {tk_LEAVES : Tok}
    (g_LEAVES : PySem.W.nsIn K mainGlobals "LEAVES" = some (some (.str "leaves" tk_LEAVES)))
    {tk_VERBS_0 tk_VERBS_1 tk_VERBS_2 : Tok}
    {u_VERBS : Addr}
    {nn_VERBS : Nat}
    {ls_VERBS : Array (Option Value)}
    (g_VERBS : PySem.W.nsIn K mainGlobals "VERBS" = some (some (.ref u_VERBS)))
    (lk_VERBS : K.lookup u_VERBS = some ⟨.type "tuple", none, .seq #[.str "yields" tk_VERBS_0, .str "draws" tk_VERBS_1, .str "beats" tk_VERBS_2] nn_VERBS, ls_VERBS⟩)
    {tk_MOST_ROUND : Tok}
    (g_MOST_ROUND : PySem.W.nsIn K mainGlobals "MOST_ROUND" = some (some (.int 99 tk_MOST_ROUND)))
    {f_init td_init : Addr}
    {od_init an_init dd_init : Option Addr}
    {sl_init sm_init : Array (Option Value)}
    {oc_init kV_init dc_init pm_init cd_init ct_init cl_init : Value}
    {nn_init : Nat}
    {q_init_UnreadEvent : Addr}
    {od_init_UnreadEvent an_init_UnreadEvent : Option Addr}
    {sl_init_UnreadEvent : Array (Option Value)}
    {oc_init_UnreadEvent kV_init_UnreadEvent dc_init_UnreadEvent pm_init_UnreadEvent cd_init_UnreadEvent ct_init_UnreadEvent : Value}
    {C_InvalidText : Addr}
    (ax_InvalidText : PySem.W.nsIn K mainGlobals "InvalidText" = some (some (.ref C_InvalidText)))
    {xo_InvalidText : Obj}
    (xl_InvalidText : K.lookup C_InvalidText = some xo_InvalidText)
    (xc_InvalidText : ∃ nm q N bs bm sn sub ab col dd k0 k1 k2 k3 k5, xo_InvalidText = excClassObj nm q C_InvalidText N bs bm true sn sub ab col dd k0 k1 k2 k3 k5 "ValueError.__new__" ∧ PySem.HandSPX.refsVE bm = true)
    (xs_InvalidText : PySem.W.findIn K (.ref C_InvalidText) "__setattr__" = some (some (.builtin "object.__setattr__")))
    (xb_InvalidText : PySem.W.subIn K (.ref C_InvalidText) (.type "BaseException") = some true)
    (xt_InvalidText : PySem.W.typeIn K (.ref C_InvalidText) = some (.type "type"))
    (xk_InvalidText : PySem.W.keepIn K (.ref C_InvalidText) = true)
    (xv_InvalidText : PySem.W.findIn K (.ref C_InvalidText) "value" = some none)
    (xi_InvalidText : PySem.W.findIn K (.ref C_InvalidText) "__init__" = some (some (.ref f_init)))
    (xg_InvalidText : PySem.W.findIn K (.ref C_InvalidText) "__getattribute__" = some (some (.builtin "BaseException.__getattribute__")))
    (xh_InvalidText : PySem.W.findIn K (.ref C_InvalidText) "__getattr__" = some none)
    (xd_InvalidText : PySem.W.hasDictIn K C_InvalidText = true)
    {C_InvalidEvent : Addr}
    (ax_InvalidEvent : PySem.W.nsIn K mainGlobals "InvalidEvent" = some (some (.ref C_InvalidEvent)))
    {xo_InvalidEvent : Obj}
    (xl_InvalidEvent : K.lookup C_InvalidEvent = some xo_InvalidEvent)
    (xc_InvalidEvent : ∃ nm q N bs bm sn sub ab col dd k0 k1 k2 k3 k5, xo_InvalidEvent = excClassObj nm q C_InvalidEvent N bs bm true sn sub ab col dd k0 k1 k2 k3 k5 "ValueError.__new__" ∧ PySem.HandSPX.refsVE bm = true)
    (xs_InvalidEvent : PySem.W.findIn K (.ref C_InvalidEvent) "__setattr__" = some (some (.builtin "object.__setattr__")))
    (xb_InvalidEvent : PySem.W.subIn K (.ref C_InvalidEvent) (.type "BaseException") = some true)
    (xt_InvalidEvent : PySem.W.typeIn K (.ref C_InvalidEvent) = some (.type "type"))
    (xk_InvalidEvent : PySem.W.keepIn K (.ref C_InvalidEvent) = true)
    (xv_InvalidEvent : PySem.W.findIn K (.ref C_InvalidEvent) "value" = some none)
    (xi_InvalidEvent : PySem.W.findIn K (.ref C_InvalidEvent) "__init__" = some (some (.ref f_init)))
    (xg_InvalidEvent : PySem.W.findIn K (.ref C_InvalidEvent) "__getattribute__" = some (some (.builtin "BaseException.__getattribute__")))
    (xh_InvalidEvent : PySem.W.findIn K (.ref C_InvalidEvent) "__getattr__" = some none)
    (xd_InvalidEvent : PySem.W.hasDictIn K C_InvalidEvent = true)
    {C_UnreadEvent : Addr}
    (ax_UnreadEvent : PySem.W.nsIn K mainGlobals "UnreadEvent" = some (some (.ref C_UnreadEvent)))
    {xo_UnreadEvent : Obj}
    (xl_UnreadEvent : K.lookup C_UnreadEvent = some xo_UnreadEvent)
    (xc_UnreadEvent : ∃ nm q N bs bm sn sub ab col dd k0 k1 k2 k3 k5, xo_UnreadEvent = excClassObj nm q C_UnreadEvent N bs bm true sn sub ab col dd k0 k1 k2 k3 k5 "ValueError.__new__" ∧ PySem.HandSPX.refsVE bm = true)
    (xs_UnreadEvent : PySem.W.findIn K (.ref C_UnreadEvent) "__setattr__" = some (some (.builtin "object.__setattr__")))
    (xb_UnreadEvent : PySem.W.subIn K (.ref C_UnreadEvent) (.type "BaseException") = some true)
    (xt_UnreadEvent : PySem.W.typeIn K (.ref C_UnreadEvent) = some (.type "type"))
    (xk_UnreadEvent : PySem.W.keepIn K (.ref C_UnreadEvent) = true)
    (xv_UnreadEvent : PySem.W.findIn K (.ref C_UnreadEvent) "position" = some none)
    (xi_UnreadEvent : PySem.W.findIn K (.ref C_UnreadEvent) "__init__" = some (some (.ref q_init_UnreadEvent)))
    (xg_UnreadEvent : PySem.W.findIn K (.ref C_UnreadEvent) "__getattribute__" = some (some (.builtin "BaseException.__getattribute__")))
    (xh_UnreadEvent : PySem.W.findIn K (.ref C_UnreadEvent) "__getattr__" = some none)
    (xd_UnreadEvent : PySem.W.hasDictIn K C_UnreadEvent = true)
    (l_init_UnreadEvent : K.lookup q_init_UnreadEvent = some ⟨oc_init_UnreadEvent, od_init_UnreadEvent, .func (PySem.W.fnOf "__init__" "UnreadEvent.__init__" (defArgs s_init_UnreadEvent) (defBody s_init_UnreadEvent) (defScope s_init_UnreadEvent) .none kV_init_UnreadEvent dc_init_UnreadEvent pm_init_UnreadEvent an_init_UnreadEvent cd_init_UnreadEvent ct_init_UnreadEvent), sl_init_UnreadEvent⟩)
    (c_init_UnreadEvent : PySem.W.codeIn K cd_init_UnreadEvent "UnreadEvent.__init__" = true)
    (k_init_UnreadEvent : PySem.W.keepIn K (.ref q_init_UnreadEvent) = true)
    (ty_init_UnreadEvent : PySem.W.typeIn K (.ref q_init_UnreadEvent) = some (.type "function"))
    (l_init : K.lookup f_init = some ⟨oc_init, od_init, .func (PySem.W.fnOf "__init__" "ContestError.__init__" (defArgs s_init) (defBody s_init) (defScope s_init) (.ref td_init) kV_init dc_init pm_init an_init cd_init ct_init), sl_init⟩)
    (c_init : PySem.W.codeIn K cd_init "ContestError.__init__" = true)
    (k_init : PySem.W.keepIn K (.ref f_init) = true)
    (lt_init : K.lookup td_init = some ⟨cl_init, dd_init, .seq #[Value.none] nn_init, sm_init⟩)
    (ty_init : PySem.W.typeIn K (.ref f_init) = some (.type "function"))
    {C_ContestError : Addr}
    (ax_ContestError : PySem.W.nsIn K mainGlobals "ContestError" = some (some (.ref C_ContestError)))
    (xn_InvalidEvent_value : PySem.W.findIn K (.ref C_InvalidEvent) "value" = some none)
    (xn_InvalidText_value : PySem.W.findIn K (.ref C_InvalidText) "value" = some none)
    (xn_UnreadEvent_position : PySem.W.findIn K (.ref C_UnreadEvent) "position" = some none)
    (xi_InvalidEvent_ContestError : PySem.W.isIn K (.ref C_InvalidEvent) C_ContestError = true)
    (xi_InvalidText_ContestError : PySem.W.isIn K (.ref C_InvalidText) C_ContestError = true)
    (xi_UnreadEvent_ContestError : PySem.W.isIn K (.ref C_UnreadEvent) C_ContestError = true)
    (xe_UnreadEvent_UnreadEvent : PySem.W.exmOne K (.ref C_UnreadEvent) (.ref C_UnreadEvent) = some true)
    (xe_UnreadEvent_InvalidEvent : PySem.W.exmOne K (.ref C_UnreadEvent) (.ref C_InvalidEvent) = some false)
    (xe_UnreadEvent_InvalidText : PySem.W.exmOne K (.ref C_UnreadEvent) (.ref C_InvalidText) = some false)
    (xe_InvalidEvent_UnreadEvent : PySem.W.exmOne K (.ref C_InvalidEvent) (.ref C_UnreadEvent) = some false)
    (xe_InvalidEvent_InvalidEvent : PySem.W.exmOne K (.ref C_InvalidEvent) (.ref C_InvalidEvent) = some true)
    (xe_InvalidEvent_InvalidText : PySem.W.exmOne K (.ref C_InvalidEvent) (.ref C_InvalidText) = some false)
    (xe_InvalidText_UnreadEvent : PySem.W.exmOne K (.ref C_InvalidText) (.ref C_UnreadEvent) = some false)
    (xe_InvalidText_InvalidEvent : PySem.W.exmOne K (.ref C_InvalidText) (.ref C_InvalidEvent) = some false)
    (xe_InvalidText_InvalidText : PySem.W.exmOne K (.ref C_InvalidText) (.ref C_InvalidText) = some true)
    : LawG PySem.Challenge.rw_contesthouse_k12_events_as_texts_of_any w K 11 63 "script" mg fa h := by
  have e := hfa.symm.trans (PySem.W.mg_of X G a_law)
  cases e
  let T : Tx K mg := {
    a_is_integer := q_is_integer,
    fd_is_integer := _,
    F_is_integer := fun_mk l_is_integer c_is_integer k_is_integer,
    g_is_integer := PySem.W.mg_of X G a_is_integer,
    b_is_integer := (fun_mk l_is_integer c_is_integer k_is_integer).binds (ps := ["value"]) fun _ _ _ _ _ _ us hl => match us, hl with | [_], _ => rfl,
    bk_is_integer := kw_all fun us hl => match us, hl with | [_], _ => rfl,
    a_is_within := q_is_within,
    fd_is_within := _,
    F_is_within := fun_mk l_is_within c_is_within k_is_within,
    g_is_within := PySem.W.mg_of X G a_is_within,
    b_is_within := (fun_mk l_is_within c_is_within k_is_within).binds (ps := ["value", "least", "most"]) fun _ _ _ _ _ _ us hl => match us, hl with | [_, _, _], _ => rfl,
    bk_is_within := kw_all fun us hl => match us, hl with | [_, _, _], _ => rfl,
    a_is_name_value := q_is_name_value,
    fd_is_name_value := _,
    F_is_name_value := fun_mk l_is_name_value c_is_name_value k_is_name_value,
    g_is_name_value := PySem.W.mg_of X G a_is_name_value,
    b_is_name_value := (fun_mk l_is_name_value c_is_name_value k_is_name_value).binds (ps := ["value"]) fun _ _ _ _ _ _ us hl => match us, hl with | [_], _ => rfl,
    bk_is_name_value := kw_all fun us hl => match us, hl with | [_], _ => rfl,
    a_number_in := q_number_in,
    fd_number_in := _,
    F_number_in := fun_mk l_number_in c_number_in k_number_in,
    g_number_in := PySem.W.mg_of X G a_number_in,
    b_number_in := (fun_mk l_number_in c_number_in k_number_in).binds (ps := ["token"]) fun _ _ _ _ _ _ us hl => match us, hl with | [_], _ => rfl,
    bk_number_in := kw_all fun us hl => match us, hl with | [_], _ => rfl,
    a_are_two := q_are_two,
    fd_are_two := _,
    F_are_two := fun_mk l_are_two c_are_two k_are_two,
    g_are_two := PySem.W.mg_of X G a_are_two,
    b_are_two := (fun_mk l_are_two c_are_two k_are_two).binds (ps := ["one", "other"]) fun _ _ _ _ _ _ us hl => match us, hl with | [_, _], _ => rfl,
    bk_are_two := kw_all fun us hl => match us, hl with | [_, _], _ => rfl,
    a_is_event_form := q_is_event_form,
    fd_is_event_form := _,
    F_is_event_form := fun_mk l_is_event_form c_is_event_form k_is_event_form,
    g_is_event_form := PySem.W.mg_of X G a_is_event_form,
    b_is_event_form := (fun_mk l_is_event_form c_is_event_form k_is_event_form).binds (ps := ["value"]) fun _ _ _ _ _ _ us hl => match us, hl with | [_], _ => rfl,
    bk_is_event_form := kw_all fun us hl => match us, hl with | [_], _ => rfl,
    a_event_told := q_event_told,
    fd_event_told := _,
    F_event_told := fun_mk l_event_told c_event_told k_event_told,
    g_event_told := PySem.W.mg_of X G a_event_told,
    b_event_told := (fun_mk l_event_told c_event_told k_event_told).binds (ps := ["event"]) fun _ _ _ _ _ _ us hl => match us, hl with | [_], _ => rfl,
    bk_event_told := kw_all fun us hl => match us, hl with | [_], _ => rfl,
    a_event_by := q_event_by,
    fd_event_by := _,
    F_event_by := fun_mk l_event_by c_event_by k_event_by,
    g_event_by := PySem.W.mg_of X G a_event_by,
    b_event_by := (fun_mk l_event_by c_event_by k_event_by).binds (ps := ["parts"]) fun _ _ _ _ _ _ us hl => match us, hl with | [_], _ => rfl,
    bk_event_by := kw_all fun us hl => match us, hl with | [_], _ => rfl,
    a_can_be_name := q_can_be_name,
    fd_can_be_name := _,
    F_can_be_name := fun_mk l_can_be_name c_can_be_name k_can_be_name,
    g_can_be_name := PySem.W.mg_of X G a_can_be_name,
    b_can_be_name := (fun_mk l_can_be_name c_can_be_name k_can_be_name).binds (ps := ["token"]) fun _ _ _ _ _ _ us hl => match us, hl with | [_], _ => rfl,
    bk_can_be_name := kw_all fun us hl => match us, hl with | [_], _ => rfl,
    a_can_be_round := q_can_be_round,
    fd_can_be_round := _,
    F_can_be_round := fun_mk l_can_be_round c_can_be_round k_can_be_round,
    g_can_be_round := PySem.W.mg_of X G a_can_be_round,
    b_can_be_round := (fun_mk l_can_be_round c_can_be_round k_can_be_round).binds (ps := ["token"]) fun _ _ _ _ _ _ us hl => match us, hl with | [_], _ => rfl,
    bk_can_be_round := kw_all fun us hl => match us, hl with | [_], _ => rfl,
    a_can_be_verb := q_can_be_verb,
    fd_can_be_verb := _,
    F_can_be_verb := fun_mk l_can_be_verb c_can_be_verb k_can_be_verb,
    g_can_be_verb := PySem.W.mg_of X G a_can_be_verb,
    b_can_be_verb := (fun_mk l_can_be_verb c_can_be_verb k_can_be_verb).binds (ps := ["token", "words"]) fun _ _ _ _ _ _ us hl => match us, hl with | [_, _], _ => rfl,
    bk_can_be_verb := kw_all fun us hl => match us, hl with | [_, _], _ => rfl,
    a_can_be_game := q_can_be_game,
    fd_can_be_game := _,
    F_can_be_game := fun_mk l_can_be_game c_can_be_game k_can_be_game,
    g_can_be_game := PySem.W.mg_of X G a_can_be_game,
    b_can_be_game := (fun_mk l_can_be_game c_can_be_game k_can_be_game).binds (ps := ["parts"]) fun _ _ _ _ _ _ us hl => match us, hl with | [_], _ => rfl,
    bk_can_be_game := kw_all fun us hl => match us, hl with | [_], _ => rfl,
    a_can_begin := q_can_begin,
    fd_can_begin := _,
    F_can_begin := fun_mk l_can_begin c_can_begin k_can_begin,
    g_can_begin := PySem.W.mg_of X G a_can_begin,
    b_can_begin := (fun_mk l_can_begin c_can_begin k_can_begin).binds (ps := ["text"]) fun _ _ _ _ _ _ us hl => match us, hl with | [_], _ => rfl,
    bk_can_begin := kw_all fun us hl => match us, hl with | [_], _ => rfl,
    a_event_in := q_event_in,
    fd_event_in := _,
    F_event_in := fun_mk l_event_in c_event_in k_event_in,
    g_event_in := PySem.W.mg_of X G a_event_in,
    b_event_in := (fun_mk l_event_in c_event_in k_event_in).binds (ps := ["text"]) fun _ _ _ _ _ _ us hl => match us, hl with | [_], _ => rfl,
    bk_event_in := kw_all fun us hl => match us, hl with | [_], _ => rfl,
    a_unread_at := q_unread_at,
    fd_unread_at := _,
    F_unread_at := fun_mk l_unread_at c_unread_at k_unread_at,
    g_unread_at := PySem.W.mg_of X G a_unread_at,
    b_unread_at := (fun_mk l_unread_at c_unread_at k_unread_at).binds (ps := ["text"]) fun _ _ _ _ _ _ us hl => match us, hl with | [_], _ => rfl,
    bk_unread_at := kw_all fun us hl => match us, hl with | [_], _ => rfl,
    a_event_text := q_event_text,
    fd_event_text := _,
    F_event_text := fun_mk l_event_text c_event_text k_event_text,
    g_event_text := PySem.W.mg_of X G a_event_text,
    b_event_text := (fun_mk l_event_text c_event_text k_event_text).binds (ps := ["event"]) fun _ _ _ _ _ _ us hl => match us, hl with | [_], _ => rfl,
    bk_event_text := kw_all fun us hl => match us, hl with | [_], _ => rfl,
    a_event_of_text := q_event_of_text,
    fd_event_of_text := _,
    F_event_of_text := fun_mk l_event_of_text c_event_of_text k_event_of_text,
    g_event_of_text := PySem.W.mg_of X G a_event_of_text,
    b_event_of_text := (fun_mk l_event_of_text c_event_of_text k_event_of_text).binds (ps := ["text"]) fun _ _ _ _ _ _ us hl => match us, hl with | [_], _ => rfl,
    bk_event_of_text := kw_all fun us hl => match us, hl with | [_], _ => rfl,
    a_is_event_text := q_is_event_text,
    fd_is_event_text := _,
    F_is_event_text := fun_mk l_is_event_text c_is_event_text k_is_event_text,
    g_is_event_text := PySem.W.mg_of X G a_is_event_text,
    b_is_event_text := (fun_mk l_is_event_text c_is_event_text k_is_event_text).binds (ps := ["value"]) fun _ _ _ _ _ _ us hl => match us, hl with | [_], _ => rfl,
    bk_is_event_text := kw_all fun us hl => match us, hl with | [_], _ => rfl,
    a_l_pot := q_l_pot,
    fd_l_pot := _,
    F_l_pot := fun_mk l_l_pot c_l_pot k_l_pot,
    g_l_pot := PySem.W.mg_of X G a_l_pot,
    b_l_pot := (fun_mk l_l_pot c_l_pot k_l_pot).binds (ps := ["script", "k"]) fun _ _ _ _ _ _ us hl => match us, hl with | [_, _], _ => rfl,
    bk_l_pot := kw_all fun us hl => match us, hl with | [_, _], _ => rfl,
    a_l_draw := q_l_draw,
    fd_l_draw := _,
    F_l_draw := fun_mk l_l_draw c_l_draw k_l_draw,
    g_l_draw := PySem.W.mg_of X G a_l_draw,
    b_l_draw := (fun_mk l_l_draw c_l_draw k_l_draw).binds (ps := ["pot", "many"]) fun _ _ _ _ _ _ us hl => match us, hl with | [_, _], _ => rfl,
    bk_l_draw := kw_all fun us hl => match us, hl with | [_, _], _ => rfl,
    a_l_pick := q_l_pick,
    fd_l_pick := _,
    F_l_pick := fun_mk l_l_pick c_l_pick k_l_pick,
    g_l_pick := PySem.W.mg_of X G a_l_pick,
    b_l_pick := (fun_mk l_l_pick c_l_pick k_l_pick).binds (ps := ["pot", "some"]) fun _ _ _ _ _ _ us hl => match us, hl with | [_, _], _ => rfl,
    bk_l_pick := kw_all fun us hl => match us, hl with | [_, _], _ => rfl,
    a_l_is_name := q_l_is_name,
    fd_l_is_name := _,
    F_l_is_name := fun_mk l_l_is_name c_l_is_name k_l_is_name,
    g_l_is_name := PySem.W.mg_of X G a_l_is_name,
    b_l_is_name := (fun_mk l_l_is_name c_l_is_name k_l_is_name).binds (ps := ["text"]) fun _ _ _ _ _ _ us hl => match us, hl with | [_], _ => rfl,
    bk_l_is_name := kw_all fun us hl => match us, hl with | [_], _ => rfl,
    a_l_is_event := q_l_is_event,
    fd_l_is_event := _,
    F_l_is_event := fun_mk l_l_is_event c_l_is_event k_l_is_event,
    g_l_is_event := PySem.W.mg_of X G a_l_is_event,
    b_l_is_event := (fun_mk l_l_is_event c_l_is_event k_l_is_event).binds (ps := ["value"]) fun _ _ _ _ _ _ us hl => match us, hl with | [_], _ => rfl,
    bk_l_is_event := kw_all fun us hl => match us, hl with | [_], _ => rfl,
    a_l_text := q_l_text,
    fd_l_text := _,
    F_l_text := fun_mk l_l_text c_l_text k_l_text,
    g_l_text := PySem.W.mg_of X G a_l_text,
    b_l_text := (fun_mk l_l_text c_l_text k_l_text).binds (ps := ["event"]) fun _ _ _ _ _ _ us hl => match us, hl with | [_], _ => rfl,
    bk_l_text := kw_all fun us hl => match us, hl with | [_], _ => rfl,
    a_l_event := q_l_event,
    fd_l_event := _,
    F_l_event := fun_mk l_l_event c_l_event k_l_event,
    g_l_event := PySem.W.mg_of X G a_l_event,
    b_l_event := (fun_mk l_l_event c_l_event k_l_event).binds (ps := ["text"]) fun _ _ _ _ _ _ us hl => match us, hl with | [_], _ => rfl,
    bk_l_event := kw_all fun us hl => match us, hl with | [_], _ => rfl,
    a_l_can_be_told := q_l_can_be_told,
    fd_l_can_be_told := _,
    F_l_can_be_told := fun_mk l_l_can_be_told c_l_can_be_told k_l_can_be_told,
    g_l_can_be_told := PySem.W.mg_of X G a_l_can_be_told,
    b_l_can_be_told := (fun_mk l_l_can_be_told c_l_can_be_told k_l_can_be_told).binds (ps := ["parts", "verbs"]) fun _ _ _ _ _ _ us hl => match us, hl with | [_, _], _ => rfl,
    bk_l_can_be_told := kw_all fun us hl => match us, hl with | [_, _], _ => rfl,
    a_l_can_begin := q_l_can_begin,
    fd_l_can_begin := _,
    F_l_can_begin := fun_mk l_l_can_begin c_l_can_begin k_l_can_begin,
    g_l_can_begin := PySem.W.mg_of X G a_l_can_begin,
    b_l_can_begin := (fun_mk l_l_can_begin c_l_can_begin k_l_can_begin).binds (ps := ["text"]) fun _ _ _ _ _ _ us hl => match us, hl with | [_], _ => rfl,
    bk_l_can_begin := kw_all fun us hl => match us, hl with | [_], _ => rfl,
    a_l_unread := q_l_unread,
    fd_l_unread := _,
    F_l_unread := fun_mk l_l_unread c_l_unread k_l_unread,
    g_l_unread := PySem.W.mg_of X G a_l_unread,
    b_l_unread := (fun_mk l_l_unread c_l_unread k_l_unread).binds (ps := ["text"]) fun _ _ _ _ _ _ us hl => match us, hl with | [_], _ => rfl,
    bk_l_unread := kw_all fun us hl => match us, hl with | [_], _ => rfl,
    a_l_heard := q_l_heard,
    fd_l_heard := _,
    F_l_heard := fun_mk l_l_heard c_l_heard k_l_heard,
    g_l_heard := PySem.W.mg_of X G a_l_heard,
    b_l_heard := (fun_mk l_l_heard c_l_heard k_l_heard).binds (ps := ["call"]) fun _ _ _ _ _ _ us hl => match us, hl with | [_], _ => rfl,
    bk_l_heard := kw_all fun us hl => match us, hl with | [_], _ => rfl,
    a_l_name := q_l_name,
    fd_l_name := _,
    F_l_name := fun_mk l_l_name c_l_name k_l_name,
    g_l_name := PySem.W.mg_of X G a_l_name,
    b_l_name := (fun_mk l_l_name c_l_name k_l_name).binds (ps := ["pot"]) fun _ _ _ _ _ _ us hl => match us, hl with | [_], _ => rfl,
    bk_l_name := kw_all fun us hl => match us, hl with | [_], _ => rfl,
    a_l_drawn := q_l_drawn,
    fd_l_drawn := _,
    F_l_drawn := fun_mk l_l_drawn c_l_drawn k_l_drawn,
    g_l_drawn := PySem.W.mg_of X G a_l_drawn,
    b_l_drawn := (fun_mk l_l_drawn c_l_drawn k_l_drawn).binds (ps := ["pot"]) fun _ _ _ _ _ _ us hl => match us, hl with | [_], _ => rfl,
    bk_l_drawn := kw_all fun us hl => match us, hl with | [_], _ => rfl,
    a_l_bent := q_l_bent,
    fd_l_bent := _,
    F_l_bent := fun_mk l_l_bent c_l_bent k_l_bent,
    g_l_bent := PySem.W.mg_of X G a_l_bent,
    b_l_bent := (fun_mk l_l_bent c_l_bent k_l_bent).binds (ps := ["pot", "text"]) fun _ _ _ _ _ _ us hl => match us, hl with | [_, _], _ => rfl,
    bk_l_bent := kw_all fun us hl => match us, hl with | [_, _], _ => rfl,
    a_l_text_right := q_l_text_right,
    fd_l_text_right := _,
    F_l_text_right := funL_mk l_l_text_right c_l_text_right k_l_text_right,
    g_l_text_right := PySem.W.mg_of X G a_l_text_right,
    b_l_text_right := (funL_mk l_l_text_right c_l_text_right k_l_text_right).fun.binds (ps := ["text"]) fun _ _ _ _ _ _ us hl => match us, hl with | [_], _ => rfl,
    bk_l_text_right := kw_all fun us hl => match us, hl with | [_], _ => rfl,
    cc_l_text_right := cc_l_text_right,
    pp_l_text_right := pp_l_text_right,
    a_l_event_right := q_l_event_right,
    fd_l_event_right := _,
    F_l_event_right := funL_mk l_l_event_right c_l_event_right k_l_event_right,
    g_l_event_right := PySem.W.mg_of X G a_l_event_right,
    b_l_event_right := (funL_mk l_l_event_right c_l_event_right k_l_event_right).fun.binds (ps := ["pot", "event"]) fun _ _ _ _ _ _ us hl => match us, hl with | [_, _], _ => rfl,
    bk_l_event_right := kw_all fun us hl => match us, hl with | [_, _], _ => rfl,
    cc_l_event_right := cc_l_event_right,
    pp_l_event_right := pp_l_event_right,
    a_law := fa,
    fd_law := _,
    F_law := funL_mk l_law c_law k_law,
    g_law := PySem.W.mg_of X G a_law,
    b_law := (funL_mk l_law c_law k_law).fun.binds (ps := ["script"]) fun _ _ _ _ _ _ us hl => match us, hl with | [_], _ => rfl,
    bk_law := kw_all fun us hl => match us, hl with | [_], _ => rfl,
    cc_law := cc_law,
    pp_law := pp_law,
    tabs := [(pp_l_event_right, ("_law_event_right" : Str) ++ ".<locals>." ++ "<lambda>"), (pp_l_text_right, ("_law_text_right" : Str) ++ ".<locals>." ++ "<lambda>"), (pp_law, ("law" : Str) ++ ".<locals>." ++ "<lambda>")],
    tm_l_event_right := by simp,
    tu_l_event_right := by
      intro p hp e
      simp only [List.mem_cons, List.not_mem_nil, or_false] at hp
      rcases hp with hp | hp | hp <;> subst hp
      · rfl
      · exact absurd e.symm d_l_event_right_l_text_right
      · exact absurd e.symm d_l_event_right_law,
    tm_l_text_right := by simp,
    tu_l_text_right := by
      intro p hp e
      simp only [List.mem_cons, List.not_mem_nil, or_false] at hp
      rcases hp with hp | hp | hp <;> subst hp
      · exact absurd e d_l_event_right_l_text_right
      · rfl
      · exact absurd e.symm d_l_text_right_law,
    tm_law := by simp,
    tu_law := by
      intro p hp e
      simp only [List.mem_cons, List.not_mem_nil, or_false] at hp
      rcases hp with hp | hp | hp <;> subst hp
      · exact absurd e d_l_event_right_law
      · exact absurd e d_l_text_right_law
      · rfl,
    n_abs := PySem.W.mg_none_of X G n_abs,
    n_all := PySem.W.mg_none_of X G n_all,
    n_any := PySem.W.mg_none_of X G n_any,
    n_bool := PySem.W.mg_none_of X G n_bool,
    n_divmod := PySem.W.mg_none_of X G n_divmod,
    n_int := PySem.W.mg_none_of X G n_int,
    n_isinstance := PySem.W.mg_none_of X G n_isinstance,
    n_len := PySem.W.mg_none_of X G n_len,
    n_list := PySem.W.mg_none_of X G n_list,
    n_max := PySem.W.mg_none_of X G n_max,
    n_range := PySem.W.mg_none_of X G n_range,
    n_repr := PySem.W.mg_none_of X G n_repr,
    n_str := PySem.W.mg_none_of X G n_str,
    n_tuple := PySem.W.mg_none_of X G n_tuple,
    g_LETTERS := ⟨_, PySem.W.mg_of X G g_LETTERS⟩,
    g_DIGITS := ⟨_, PySem.W.mg_of X G g_DIGITS⟩,
    g_MINUS := ⟨_, PySem.W.mg_of X G g_MINUS⟩,
    g_MOST_NAME := ⟨_, PySem.W.mg_of X G g_MOST_NAME⟩,
    g_MOST_DIGITS := ⟨_, PySem.W.mg_of X G g_MOST_DIGITS⟩,
    g_TOLD := ⟨_, PySem.W.mg_of X G g_TOLD⟩,
    g_FIX := ⟨_, PySem.W.mg_of X G g_FIX⟩,
    g_LEAVE := ⟨_, PySem.W.mg_of X G g_LEAVE⟩,
    g_LEAVES := ⟨_, PySem.W.mg_of X G g_LEAVES⟩,
    u_VERBS := u_VERBS,
    g_VERBS := PySem.W.mg_of X G g_VERBS,
    s_VERBS := sqT_mk lk_VERBS (by simp) (.cons ⟨_, rfl⟩ (.cons ⟨_, rfl⟩ (.cons ⟨_, rfl⟩ (.nil)))),
    t_VERBS := ⟨_, lk_VERBS, rfl, rfl⟩,
    g_MOST_ROUND := ⟨_, PySem.W.mg_of X G g_MOST_ROUND⟩,
    C_InvalidText := C_InvalidText,
    xm_InvalidText := PySem.W.mg_of X G ax_InvalidText,
    x_InvalidText := ⟨by obtain ⟨nm, q, N, bs, bm, sn, sub, ab, col, dd, k0, k1, k2, k3, k5, e1, e2⟩ := xc_InvalidText; exact ⟨nm, q, N, bs, bm, sn, sub, ab, col, dd, k0, k1, k2, k3, k5, xl_InvalidText.trans (congrArg some e1), e2⟩, xs_InvalidText, xb_InvalidText, xt_InvalidText, xk_InvalidText⟩,
    xf_InvalidText := xv_InvalidText,
    xi_InvalidText := xi_InvalidText,
    xx_InvalidText := ⟨xg_InvalidText, xh_InvalidText, xb_InvalidText, xd_InvalidText⟩,
    C_InvalidEvent := C_InvalidEvent,
    xm_InvalidEvent := PySem.W.mg_of X G ax_InvalidEvent,
    x_InvalidEvent := ⟨by obtain ⟨nm, q, N, bs, bm, sn, sub, ab, col, dd, k0, k1, k2, k3, k5, e1, e2⟩ := xc_InvalidEvent; exact ⟨nm, q, N, bs, bm, sn, sub, ab, col, dd, k0, k1, k2, k3, k5, xl_InvalidEvent.trans (congrArg some e1), e2⟩, xs_InvalidEvent, xb_InvalidEvent, xt_InvalidEvent, xk_InvalidEvent⟩,
    xf_InvalidEvent := xv_InvalidEvent,
    xi_InvalidEvent := xi_InvalidEvent,
    xx_InvalidEvent := ⟨xg_InvalidEvent, xh_InvalidEvent, xb_InvalidEvent, xd_InvalidEvent⟩,
    C_UnreadEvent := C_UnreadEvent,
    xm_UnreadEvent := PySem.W.mg_of X G ax_UnreadEvent,
    x_UnreadEvent := ⟨by obtain ⟨nm, q, N, bs, bm, sn, sub, ab, col, dd, k0, k1, k2, k3, k5, e1, e2⟩ := xc_UnreadEvent; exact ⟨nm, q, N, bs, bm, sn, sub, ab, col, dd, k0, k1, k2, k3, k5, xl_UnreadEvent.trans (congrArg some e1), e2⟩, xs_UnreadEvent, xb_UnreadEvent, xt_UnreadEvent, xk_UnreadEvent⟩,
    xf_UnreadEvent := xv_UnreadEvent,
    xi_UnreadEvent := xi_UnreadEvent,
    xx_UnreadEvent := ⟨xg_UnreadEvent, xh_UnreadEvent, xb_UnreadEvent, xd_UnreadEvent⟩,
    a_init_UnreadEvent := q_init_UnreadEvent,
    fd_init_UnreadEvent := _,
    F_init_UnreadEvent := fun_mk l_init_UnreadEvent c_init_UnreadEvent k_init_UnreadEvent,
    xb_UnreadEvent := (fun_mk l_init_UnreadEvent c_init_UnreadEvent k_init_UnreadEvent).binds (ps := ["self", "position"]) fun _ _ _ _ _ _ us hl => match us, hl with | [_, _], _ => rfl,
    xt_UnreadEvent := ty_init_UnreadEvent,
    a_init := f_init,
    fd_init := _,
    F_init := (funD_mk (its := [Value.none]) (dvs := [V.non]) (osl2 := #[]) l_init c_init k_init (List.cons_ne_nil _ _) lt_init rfl (.cons rfl .nil)),
    xb := by
      obtain ⟨ds, h1, h2⟩ := (funD_mk (its := [Value.none]) (dvs := [V.non]) (osl2 := #[]) l_init c_init k_init (List.cons_ne_nil _ _) lt_init rfl (.cons rfl .nil)).binds1 (ps := ["self", "value"]) 2 1 (List.cons_ne_nil _ _) rfl fun T kV doc pm an cdv ct us its hl hi => match us, its, hl, hi with | [_, _], [_], _, _ => ⟨_, rfl, rfl⟩
      cases h1
      exact h2,
    xt := ty_init,
    C_ContestError := C_ContestError,
    xm_ContestError := PySem.W.mg_of X G ax_ContestError,
    xn_InvalidEvent_value := xn_InvalidEvent_value,
    xn_InvalidText_value := xn_InvalidText_value,
    xn_UnreadEvent_position := xn_UnreadEvent_position,
    xi_InvalidEvent_ContestError := xi_InvalidEvent_ContestError,
    xi_InvalidText_ContestError := xi_InvalidText_ContestError,
    xi_UnreadEvent_ContestError := xi_UnreadEvent_ContestError,
    xe_UnreadEvent_UnreadEvent := xe_UnreadEvent_UnreadEvent,
    xe_UnreadEvent_InvalidEvent := xe_UnreadEvent_InvalidEvent,
    xe_UnreadEvent_InvalidText := xe_UnreadEvent_InvalidText,
    xe_InvalidEvent_UnreadEvent := xe_InvalidEvent_UnreadEvent,
    xe_InvalidEvent_InvalidEvent := xe_InvalidEvent_InvalidEvent,
    xe_InvalidEvent_InvalidText := xe_InvalidEvent_InvalidText,
    xe_InvalidText_UnreadEvent := xe_InvalidText_UnreadEvent,
    xe_InvalidText_InvalidEvent := xe_InvalidText_InvalidEvent,
    xe_InvalidText_InvalidText := xe_InvalidText_InvalidText }
  refine ⟨T.fd_law, [(cc_l_event_right, pp_l_event_right), (cc_l_text_right, pp_l_text_right), (cc_law, pp_law)], T.tabs, f_law, List.forall_mem_cons.mpr ⟨t_l_event_right, List.forall_mem_cons.mpr ⟨t_l_text_right, List.forall_mem_cons.mpr ⟨t_law, fun _ h => nomatch h⟩⟩⟩, List.forall_mem_cons.mpr ⟨z_l_event_right, List.forall_mem_cons.mpr ⟨z_l_text_right, List.forall_mem_cons.mpr ⟨z_law, fun _ h => nomatch h⟩⟩⟩, List.forall_mem_cons.mpr ⟨PySem.W.codeHd_of_K X h_l_event_right, List.forall_mem_cons.mpr ⟨PySem.W.codeHd_of_K X h_l_text_right, List.forall_mem_cons.mpr ⟨PySem.W.codeHd_of_K X h_law, fun _ h => nomatch h⟩⟩⟩, ?_, fun s v => .of_eq rfl, law_true, fun base _ _ TB => ok_law T ⟨TB (cc_l_event_right, pp_l_event_right) (by simp), TB (cc_l_text_right, pp_l_text_right) (by simp), TB (cc_law, pp_law) (by simp)⟩⟩
  exact List.forall_mem_cons.mpr ⟨by simp, List.forall_mem_cons.mpr ⟨by simp, List.forall_mem_cons.mpr ⟨by simp, fun _ h => nomatch h⟩⟩⟩
end K12
end L2
open PySem PySem.W PyProof.Rows
set_option maxHeartbeats 0 in
theorem PySem.Challenge.cw_contesthouse_k12_events_as_texts_of_any_holds : PySem.Challenge.rw_contesthouse_k12_events_as_texts_of_any.Holds := by
  w_on; o_law; k_head; (case hw => w_witness2)
  k_fill
  refine L2.PL.walk_G (l := PySem.Challenge.rw_contesthouse_k12_events_as_texts_of_any) (n := 63) (k := 11) (x := "script") rfl (by decide) rfl ⟨rfl, by decide, by decide⟩ (fun w h Y => Y.1) ?F
  case F =>
    intro w mg fa h Y KX G hmg
    refine' L2.K12.law_mk (pp_l_event_right := 294) (pp_l_text_right := 289) (pp_law := 301) KX G hmg ?a_is_integer ?l_is_integer ?c_is_integer ?k_is_integer ?a_is_within ?l_is_within ?c_is_within ?k_is_within ?a_is_name_value ?l_is_name_value ?c_is_name_value ?k_is_name_value ?a_number_in ?l_number_in ?c_number_in ?k_number_in ?a_are_two ?l_are_two ?c_are_two ?k_are_two ?a_is_event_form ?l_is_event_form ?c_is_event_form ?k_is_event_form ?a_event_told ?l_event_told ?c_event_told ?k_event_told ?a_event_by ?l_event_by ?c_event_by ?k_event_by ?a_can_be_name ?l_can_be_name ?c_can_be_name ?k_can_be_name ?a_can_be_round ?l_can_be_round ?c_can_be_round ?k_can_be_round ?a_can_be_verb ?l_can_be_verb ?c_can_be_verb ?k_can_be_verb ?a_can_be_game ?l_can_be_game ?c_can_be_game ?k_can_be_game ?a_can_begin ?l_can_begin ?c_can_begin ?k_can_begin ?a_event_in ?l_event_in ?c_event_in ?k_event_in ?a_unread_at ?l_unread_at ?c_unread_at ?k_unread_at ?a_event_text ?l_event_text ?c_event_text ?k_event_text ?a_event_of_text ?l_event_of_text ?c_event_of_text ?k_event_of_text ?a_is_event_text ?l_is_event_text ?c_is_event_text ?k_is_event_text ?a_l_pot ?l_l_pot ?c_l_pot ?k_l_pot ?a_l_draw ?l_l_draw ?c_l_draw ?k_l_draw ?a_l_pick ?l_l_pick ?c_l_pick ?k_l_pick ?a_l_is_name ?l_l_is_name ?c_l_is_name ?k_l_is_name ?a_l_is_event ?l_l_is_event ?c_l_is_event ?k_l_is_event ?a_l_text ?l_l_text ?c_l_text ?k_l_text ?a_l_event ?l_l_event ?c_l_event ?k_l_event ?a_l_can_be_told ?l_l_can_be_told ?c_l_can_be_told ?k_l_can_be_told ?a_l_can_begin ?l_l_can_begin ?c_l_can_begin ?k_l_can_begin ?a_l_unread ?l_l_unread ?c_l_unread ?k_l_unread ?a_l_heard ?l_l_heard ?c_l_heard ?k_l_heard ?a_l_name ?l_l_name ?c_l_name ?k_l_name ?a_l_drawn ?l_l_drawn ?c_l_drawn ?k_l_drawn ?a_l_bent ?l_l_bent ?c_l_bent ?k_l_bent ?a_l_text_right ?l_l_text_right ?c_l_text_right ?k_l_text_right ?h_l_text_right ?z_l_text_right ?t_l_text_right ?a_l_event_right ?l_l_event_right ?c_l_event_right ?k_l_event_right ?h_l_event_right ?z_l_event_right ?t_l_event_right ?a_law ?l_law ?c_law ?k_law ?h_law ?z_law ?t_law ?d_l_event_right_l_text_right ?d_l_event_right_law ?d_l_text_right_law ?n_abs ?n_all ?n_any ?n_bool ?n_divmod ?n_int ?n_isinstance ?n_len ?n_list ?n_max ?n_range ?n_repr ?n_str ?n_tuple ?g_LETTERS ?g_DIGITS ?g_MINUS ?g_MOST_NAME ?g_MOST_DIGITS ?g_TOLD ?g_FIX ?g_LEAVE ?g_LEAVES ?g_VERBS ?lk_VERBS ?g_MOST_ROUND ?ax_InvalidText ?xl_InvalidText ?xc_InvalidText ?xs_InvalidText ?xb_InvalidText ?xt_InvalidText ?xk_InvalidText ?xv_InvalidText ?xi_InvalidText ?xg_InvalidText ?xh_InvalidText ?xd_InvalidText ?ax_InvalidEvent ?xl_InvalidEvent ?xc_InvalidEvent ?xs_InvalidEvent ?xb_InvalidEvent ?xt_InvalidEvent ?xk_InvalidEvent ?xv_InvalidEvent ?xi_InvalidEvent ?xg_InvalidEvent ?xh_InvalidEvent ?xd_InvalidEvent ?ax_UnreadEvent ?xl_UnreadEvent ?xc_UnreadEvent ?xs_UnreadEvent ?xb_UnreadEvent ?xt_UnreadEvent ?xk_UnreadEvent ?xv_UnreadEvent ?xi_UnreadEvent ?xg_UnreadEvent ?xh_UnreadEvent ?xd_UnreadEvent ?l_init_UnreadEvent ?c_init_UnreadEvent ?k_init_UnreadEvent ?ty_init_UnreadEvent ?l_init ?c_init ?k_init ?lt_init ?ty_init ?ax_ContestError ?xn_InvalidEvent_value ?xn_InvalidText_value ?xn_UnreadEvent_position ?xi_InvalidEvent_ContestError ?xi_InvalidText_ContestError ?xi_UnreadEvent_ContestError ?xe_UnreadEvent_UnreadEvent ?xe_UnreadEvent_InvalidEvent ?xe_UnreadEvent_InvalidText ?xe_InvalidEvent_UnreadEvent ?xe_InvalidEvent_InvalidEvent ?xe_InvalidEvent_InvalidText ?xe_InvalidText_UnreadEvent ?xe_InvalidText_InvalidEvent ?xe_InvalidText_InvalidText
    (case a_is_integer => k_is)
    (case l_is_integer => k_is)
    (case c_is_integer => k_is)
    (case k_is_integer => k_is)
    (case a_is_within => k_is)
    (case l_is_within => k_is)
    (case c_is_within => k_is)
    (case k_is_within => k_is)
    (case a_is_name_value => k_is)
    (case l_is_name_value => k_is)
    (case c_is_name_value => k_is)
    (case k_is_name_value => k_is)
    (case a_number_in => k_is)
    (case l_number_in => k_is)
    (case c_number_in => k_is)
    (case k_number_in => k_is)
    (case a_are_two => k_is)
    (case l_are_two => k_is)
    (case c_are_two => k_is)
    (case k_are_two => k_is)
    (case a_is_event_form => k_is)
    (case l_is_event_form => k_is)
    (case c_is_event_form => k_is)
    (case k_is_event_form => k_is)
    (case a_event_told => k_is)
    (case l_event_told => k_is)
    (case c_event_told => k_is)
    (case k_event_told => k_is)
    (case a_event_by => k_is)
    (case l_event_by => k_is)
    (case c_event_by => k_is)
    (case k_event_by => k_is)
    (case a_can_be_name => k_is)
    (case l_can_be_name => k_is)
    (case c_can_be_name => k_is)
    (case k_can_be_name => k_is)
    (case a_can_be_round => k_is)
    (case l_can_be_round => k_is)
    (case c_can_be_round => k_is)
    (case k_can_be_round => k_is)
    (case a_can_be_verb => k_is)
    (case l_can_be_verb => k_is)
    (case c_can_be_verb => k_is)
    (case k_can_be_verb => k_is)
    (case a_can_be_game => k_is)
    (case l_can_be_game => k_is)
    (case c_can_be_game => k_is)
    (case k_can_be_game => k_is)
    (case a_can_begin => k_is)
    (case l_can_begin => k_is)
    (case c_can_begin => k_is)
    (case k_can_begin => k_is)
    (case a_event_in => k_is)
    (case l_event_in => k_is)
    (case c_event_in => k_is)
    (case k_event_in => k_is)
    (case a_unread_at => k_is)
    (case l_unread_at => k_is)
    (case c_unread_at => k_is)
    (case k_unread_at => k_is)
    (case a_event_text => k_is)
    (case l_event_text => k_is)
    (case c_event_text => k_is)
    (case k_event_text => k_is)
    (case a_event_of_text => k_is)
    (case l_event_of_text => k_is)
    (case c_event_of_text => k_is)
    (case k_event_of_text => k_is)
    (case a_is_event_text => k_is)
    (case l_is_event_text => k_is)
    (case c_is_event_text => k_is)
    (case k_is_event_text => k_is)
    (case a_l_pot => k_is)
    (case l_l_pot => k_is)
    (case c_l_pot => k_is)
    (case k_l_pot => k_is)
    (case a_l_draw => k_is)
    (case l_l_draw => k_is)
    (case c_l_draw => k_is)
    (case k_l_draw => k_is)
    (case a_l_pick => k_is)
    (case l_l_pick => k_is)
    (case c_l_pick => k_is)
    (case k_l_pick => k_is)
    (case a_l_is_name => k_is)
    (case l_l_is_name => k_is)
    (case c_l_is_name => k_is)
    (case k_l_is_name => k_is)
    (case a_l_is_event => k_is)
    (case l_l_is_event => k_is)
    (case c_l_is_event => k_is)
    (case k_l_is_event => k_is)
    (case a_l_text => k_is)
    (case l_l_text => k_is)
    (case c_l_text => k_is)
    (case k_l_text => k_is)
    (case a_l_event => k_is)
    (case l_l_event => k_is)
    (case c_l_event => k_is)
    (case k_l_event => k_is)
    (case a_l_can_be_told => k_is)
    (case l_l_can_be_told => k_is)
    (case c_l_can_be_told => k_is)
    (case k_l_can_be_told => k_is)
    (case a_l_can_begin => k_is)
    (case l_l_can_begin => k_is)
    (case c_l_can_begin => k_is)
    (case k_l_can_begin => k_is)
    (case a_l_unread => k_is)
    (case l_l_unread => k_is)
    (case c_l_unread => k_is)
    (case k_l_unread => k_is)
    (case a_l_heard => k_is)
    (case l_l_heard => k_is)
    (case c_l_heard => k_is)
    (case k_l_heard => k_is)
    (case a_l_name => k_is)
    (case l_l_name => k_is)
    (case c_l_name => k_is)
    (case k_l_name => k_is)
    (case a_l_drawn => k_is)
    (case l_l_drawn => k_is)
    (case c_l_drawn => k_is)
    (case k_l_drawn => k_is)
    (case a_l_bent => k_is)
    (case l_l_bent => k_is)
    (case c_l_bent => k_is)
    (case k_l_bent => k_is)
    (case a_l_text_right => k_is)
    (case l_l_text_right => k_is)
    (case c_l_text_right => k_is)
    (case k_l_text_right => k_is)
    (case h_l_text_right => kernel_rfl)
    (case z_l_text_right => kernel_rfl)
    (case t_l_text_right => exact PySem.W.km_tabs_of Y _ (by decide))
    (case a_l_event_right => k_is)
    (case l_l_event_right => k_is)
    (case c_l_event_right => k_is)
    (case k_l_event_right => k_is)
    (case h_l_event_right => kernel_rfl)
    (case z_l_event_right => kernel_rfl)
    (case t_l_event_right => exact PySem.W.km_tabs_of Y _ (by decide))
    (case a_law => k_is)
    (case l_law => k_is)
    (case c_law => k_is)
    (case k_law => k_is)
    (case h_law => kernel_rfl)
    (case z_law => kernel_rfl)
    (case t_law => exact PySem.W.km_tabs_of Y _ (by decide))
    (case d_l_event_right_l_text_right => decide)
    (case d_l_event_right_law => decide)
    (case d_l_text_right_law => decide)
    (case n_abs => k_is)
    (case n_all => k_is)
    (case n_any => k_is)
    (case n_bool => k_is)
    (case n_divmod => k_is)
    (case n_int => k_is)
    (case n_isinstance => k_is)
    (case n_len => k_is)
    (case n_list => k_is)
    (case n_max => k_is)
    (case n_range => k_is)
    (case n_repr => k_is)
    (case n_str => k_is)
    (case n_tuple => k_is)
    (case g_LETTERS => k_is)
    (case g_DIGITS => k_is)
    (case g_MINUS => k_is)
    (case g_MOST_NAME => k_is)
    (case g_MOST_DIGITS => k_is)
    (case g_TOLD => k_is)
    (case g_FIX => k_is)
    (case g_LEAVE => k_is)
    (case g_LEAVES => k_is)
    (case g_VERBS => k_is)
    (case lk_VERBS => k_is)
    (case g_MOST_ROUND => k_is)
    (case ax_InvalidText => k_is)
    (case xl_InvalidText => k_is)
    (case xc_InvalidText => exact ⟨_, _, _, _, _, _, _, _, _, _, _, _, _, _, _, rfl, rfl⟩)
    (case xs_InvalidText => k_is)
    (case xb_InvalidText => k_is)
    (case xt_InvalidText => k_is)
    (case xk_InvalidText => k_is)
    (case xv_InvalidText => k_is)
    (case xi_InvalidText => k_is)
    (case xg_InvalidText => k_is)
    (case xh_InvalidText => k_is)
    (case xd_InvalidText => k_is)
    (case ax_InvalidEvent => k_is)
    (case xl_InvalidEvent => k_is)
    (case xc_InvalidEvent => exact ⟨_, _, _, _, _, _, _, _, _, _, _, _, _, _, _, rfl, rfl⟩)
    (case xs_InvalidEvent => k_is)
    (case xb_InvalidEvent => k_is)
    (case xt_InvalidEvent => k_is)
    (case xk_InvalidEvent => k_is)
    (case xv_InvalidEvent => k_is)
    (case xi_InvalidEvent => k_is)
    (case xg_InvalidEvent => k_is)
    (case xh_InvalidEvent => k_is)
    (case xd_InvalidEvent => k_is)
    (case ax_UnreadEvent => k_is)
    (case xl_UnreadEvent => k_is)
    (case xc_UnreadEvent => exact ⟨_, _, _, _, _, _, _, _, _, _, _, _, _, _, _, rfl, rfl⟩)
    (case xs_UnreadEvent => k_is)
    (case xb_UnreadEvent => k_is)
    (case xt_UnreadEvent => k_is)
    (case xk_UnreadEvent => k_is)
    (case xv_UnreadEvent => k_is)
    (case xi_UnreadEvent => k_is)
    (case xg_UnreadEvent => k_is)
    (case xh_UnreadEvent => k_is)
    (case xd_UnreadEvent => k_is)
    (case l_init_UnreadEvent => k_is)
    (case c_init_UnreadEvent => k_is)
    (case k_init_UnreadEvent => k_is)
    (case ty_init_UnreadEvent => k_is)
    (case l_init => k_is)
    (case c_init => k_is)
    (case k_init => k_is)
    (case lt_init => k_is)
    (case ty_init => k_is)
    (case ax_ContestError => k_is)
    (case xn_InvalidEvent_value => k_is)
    (case xn_InvalidText_value => k_is)
    (case xn_UnreadEvent_position => k_is)
    (case xi_InvalidEvent_ContestError => k_is)
    (case xi_InvalidText_ContestError => k_is)
    (case xi_UnreadEvent_ContestError => k_is)
    (case xe_UnreadEvent_UnreadEvent => kernel_rfl)
    (case xe_UnreadEvent_InvalidEvent => kernel_rfl)
    (case xe_UnreadEvent_InvalidText => kernel_rfl)
    (case xe_InvalidEvent_UnreadEvent => kernel_rfl)
    (case xe_InvalidEvent_InvalidEvent => kernel_rfl)
    (case xe_InvalidEvent_InvalidText => kernel_rfl)
    (case xe_InvalidText_UnreadEvent => kernel_rfl)
    (case xe_InvalidText_InvalidEvent => kernel_rfl)
    (case xe_InvalidText_InvalidText => kernel_rfl)
