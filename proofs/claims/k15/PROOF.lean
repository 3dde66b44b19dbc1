import PyProof.Rows.All
import Wide.All
import OpenK.AllK
import Wide.FinOn
import HandS.ForMost
import HandS.ForExc
import HandS.IsInst
import HandS.Lambda
import HandS.Wide
import HandS.TupAny
import KE.GoesEnum
import HandS.FStr
import HandS.ExcInit
import HandS.Text
import HandS.Keys
import HandS.DictTup
import HandS.ListItems
import KE.KSortTupAny
import KE.KIsAll
import KE.KExcIs
import KE.KTryMore
import HandS.ExcField
import HandS.ExcIs
import HandS.EndTab
import KE.KDictPairs
import HandS.TryOnly
import HandS.More
import PySem.Challenge.RW_saylore_k15_needless_exceptions
set_option Elab.async false
set_option linter.all false
set_option maxRecDepth 100000
set_option maxHeartbeats 4000000
/-! Data over the abstract heap: D, its representation, worlds, evaluation, expressions. -/
namespace Dm
open PySem L2

inductive D where
  | non | bl (b : Bool) | int (i : Int) | str (x : List Nat) | tup (xs : List D) | lst (xs : List D) | nm (i : Nat) | dct (ks : List D) (xs : List D)
inductive EK where
  | book | word | sounds | count | unsaid | letter | exception | others | samples | deed | halted | text | say
  deriving DecidableEq
structure Err where
  k : EK
  fs : List (Str × Int)
structure Pm where
  rho : Nat → Addr
  ca : EK → Addr

/-- a tuple whose object has no dict -/
def SqP (K : PySem.W.Frag) (G : Hp) (a : Addr) (xs : List V) : Prop := (∃ o : Obj, G a = some (.frz o (.tup xs)) ∧ o.dict = none) ∨
  ∃ (o : Obj) (its : Array Value) (n : Nat), K.lookup a = some o ∧ o.cls = .type "tuple" ∧ o.dict = none ∧ o.data = .seq its n ∧ its.size ≤ sizeLine ∧ Vals xs its.toList
theorem SqP.t {K : PySem.W.Frag} {G : Hp} {a : Addr} {xs : List V} (h : SqP K G a xs) : SqT K G a xs := by
  rcases h with ⟨o, h, _⟩ | ⟨o, its, n, h1, h2, _, h3⟩
  · exact .inl (.inr ⟨o, h⟩)
  · exact .inr ⟨o, its, n, h1, h2, h3⟩
theorem SqP.of {K : PySem.W.Frag} {G : Hp} {a : Addr} {xs : List V} {o : Obj} (h : G a = some (.frz o (.tup xs))) (hd : o.dict = none) : SqP K G a xs := .inl ⟨o, h, hd⟩
mutual
def Rep (K : PySem.W.Frag) (Γ : Pm) (G : Hp) : D → V → Prop
  | .non, v => v = .non
  | .bl b, v => v = .bl b
  | .int i, v => v = .int i
  | .str x, v => v = .str ⟨x.toArray⟩
  | .tup xs, v => ∃ a vs, v = .ref a ∧ SqP K G a vs ∧ RepL K Γ G xs vs
  | .lst xs, v => ∃ a vs, v = .ref a ∧ G a = some (.lst vs) ∧ RepL K Γ G xs vs
  | .nm i, v => v = .ref (Γ.rho i)
  | .dct ks xs, v => ∃ a o vs kk, v = .ref a ∧ ks = List.map D.str kk ∧ kk.length = vs.length ∧ G a = some (.frz o (.dK ((List.map (fun k : List Nat => (Sum.inr ⟨k.toArray⟩ : Key)) kk).zip vs))) ∧ RepL K Γ G xs vs
def RepL (K : PySem.W.Frag) (Γ : Pm) (G : Hp) : List D → List V → Prop
  | [], vs => vs = []
  | d :: ds, vs => ∃ v vs', vs = v :: vs' ∧ Rep K Γ G d v ∧ RepL K Γ G ds vs'
end

def Sub (G H : Hp) : Prop := ∀ a o, G a = some o → H a = some o
theorem Sub.refl (G : Hp) : Sub G G := fun _ _ h => h
theorem Sub.trans {G H I : Hp} (a : Sub G H) (b : Sub H I) : Sub G I := fun x o h => b x o (a x o h)
theorem Sub.seqT {K : PySem.W.Frag} {G H : Hp} {a : Addr} {xs : List V} (e : Sub G H) (h : SqT K G a xs) : SqT K H a xs := by
  rcases h with (h | ⟨o, h⟩) | h
  · exact .inl (.inl (e _ _ h))
  · exact .inl (.inr ⟨o, e _ _ h⟩)
  · exact .inr h
theorem Sub.seqP {K : PySem.W.Frag} {G H : Hp} {a : Addr} {xs : List V} (e : Sub G H) (h : SqP K G a xs) : SqP K H a xs := by
  rcases h with ⟨o, h, hd⟩ | h
  · exact .inl ⟨o, e _ _ h, hd⟩
  · exact .inr h
theorem Sub.seqL {K : PySem.W.Frag} {G H : Hp} {a : Addr} {xs : List V} (e : Sub G H) (h : SqL K G a xs) : SqL K H a xs := by
  rcases h with (h | ⟨o, h⟩) | h
  · exact .inl (.inl (e _ _ h))
  · exact .inl (.inr ⟨o, e _ _ h⟩)
  · exact .inr h

section
variable {K : PySem.W.Frag} {Γ : Pm} {G G' : Hp}
mutual
theorem Rep.mono (e : Sub G G') : ∀ {d : D} {v : V}, Rep K Γ G d v → Rep K Γ G' d v
  | .non, _, h => h
  | .bl _, _, h => h
  | .int _, _, h => h
  | .str _, _, h => h
  | .nm _, _, h => h
  | .dct ks xs, v, h => by
    simp only [Rep] at h ⊢
    obtain ⟨a, o, vs, kk, h1, h2, h3, h4, h5⟩ := h
    exact ⟨a, o, vs, kk, h1, h2, h3, e _ _ h4, RepL.mono e h5⟩
  | .tup xs, v, h => by
    simp only [Rep] at h ⊢
    obtain ⟨a, vs, h1, h2, h3⟩ := h
    exact ⟨a, vs, h1, e.seqP h2, RepL.mono e h3⟩
  | .lst xs, v, h => by
    simp only [Rep] at h ⊢
    obtain ⟨a, vs, h1, h2, h3⟩ := h
    exact ⟨a, vs, h1, e _ _ h2, RepL.mono e h3⟩
theorem RepL.mono (e : Sub G G') : ∀ {ds : List D} {vs : List V}, RepL K Γ G ds vs → RepL K Γ G' ds vs
  | [], _, h => h
  | d :: ds, vs, h => by
    simp only [RepL] at h ⊢
    obtain ⟨v, vs', h1, h2, h3⟩ := h
    exact ⟨v, vs', h1, Rep.mono e h2, RepL.mono e h3⟩
end
theorem RepL.length : ∀ {ds : List D} {vs : List V}, RepL K Γ G ds vs → vs.length = ds.length
  | [], vs, h => by simp only [RepL] at h; subst h; rfl
  | d :: ds, vs, h => by
    simp only [RepL] at h
    obtain ⟨v, vs', rfl, _, h3⟩ := h
    simp only [List.length_cons, RepL.length h3]
theorem RepL.get : ∀ {ds : List D} {vs : List V} {i : Nat} {d : D}, RepL K Γ G ds vs → ds[i]? = some d → ∃ v, vs[i]? = some v ∧ Rep K Γ G d v
  | [], _, _, _, _, e => by simp at e
  | d :: ds, vs, 0, d', h, e => by
    simp only [RepL] at h
    obtain ⟨v, vs', rfl, h2, _⟩ := h
    simp at e
    subst e
    exact ⟨v, rfl, h2⟩
  | d :: ds, vs, i + 1, d', h, e => by
    simp only [RepL] at h
    obtain ⟨v, vs', rfl, _, h3⟩ := h
    simpa using RepL.get (i := i) h3 (by simpa using e)
theorem RepL.append : ∀ {ds es : List D} {vs ws : List V}, RepL K Γ G ds vs → RepL K Γ G es ws → RepL K Γ G (ds ++ es) (vs ++ ws)
  | [], _, _, _, h, k => by simp only [RepL] at h; subst h; exact k
  | d :: ds, es, vs, ws, h, k => by
    simp only [RepL] at h
    obtain ⟨v, vs', rfl, h2, h3⟩ := h
    simp only [List.cons_append, RepL]
    exact ⟨v, _, rfl, h2, RepL.append h3 k⟩
theorem RepL.nil : RepL K Γ G [] [] := by simp only [RepL]
theorem RepL.cons {d : D} {v : V} {ds : List D} {vs : List V} (h : Rep K Γ G d v) (k : RepL K Γ G ds vs) : RepL K Γ G (d :: ds) (v :: vs) := by
  simp only [RepL]
  exact ⟨v, vs, rfl, h, k⟩
theorem RepL.take : ∀ {ds : List D} {vs : List V} (n : Nat), RepL K Γ G ds vs → RepL K Γ G (ds.take n) (vs.take n)
  | _, _, 0, _ => by simp only [List.take_zero]; exact RepL.nil
  | [], vs, n + 1, h => by simp only [RepL] at h; subst h; exact RepL.nil
  | d :: ds, vs, n + 1, h => by
    simp only [RepL] at h
    obtain ⟨v, vs', rfl, h2, h3⟩ := h
    simp only [List.take_succ_cons]
    exact RepL.cons h2 (RepL.take n h3)
theorem RepL.drop : ∀ {ds : List D} {vs : List V} (n : Nat), RepL K Γ G ds vs → RepL K Γ G (ds.drop n) (vs.drop n)
  | _, _, 0, h => h
  | [], vs, n + 1, h => by simp only [RepL] at h; subst h; exact RepL.nil
  | d :: ds, vs, n + 1, h => by
    simp only [RepL] at h
    obtain ⟨v, vs', rfl, h2, h3⟩ := h
    exact RepL.drop n h3
end

/-! ### worlds -/
structure St3 (G H : Hp) (m : Addr → Prop) : Prop where
  sub : Sub G H
  dis : ∀ a, m a → G a = none
  own : ∀ a, m a → H a ≠ none
/-- a table of code objects, or a code object -/
def Tb (a : Addr) (o : HO) : Prop := (∃ ps, o = .tbl ps) ∨ ∃ q, o = LamX.CodeO a q
def isPl : HO → Bool
  | .tup _ => true
  | .lst _ => true
  | .dK _ => true
  | .xd _ => true
  | .frz _ _ => true
  | _ => false
theorem isPl_tb {o : HO} (h : isPl o = true) (a : Addr) : ¬ Tb a o := by
  rintro (⟨ps, rfl⟩ | ⟨q, rfl⟩)
  · cases h
  · unfold LamX.CodeO at h
    cases h
/-- none of them is new, or written -/
def NTabs (H H' : Hp) : Prop := ∀ a o, Tb a o → H' a = some o → H a = some o
theorem nt_refl {H : Hp} : NTabs H H := fun _ _ _ e => e
theorem nt_upd {H : Hp} {q : Addr} {o : HO} (ho : isPl o = true) : NTabs H (upd H q o) := fun a u t e => by
  by_cases h : a = q
  · rw [h, upd_same] at e
    cases e
    exact absurd t (isPl_tb ho a)
  · rw [upd_ne h] at e
    exact e
structure Ext (G H : Hp) (m : Addr → Prop) (G' H' : Hp) (m' : Addr → Prop) : Prop extends St3 G' H' m' where
  mm : ∀ a, m a → m' a
  nt : ∀ a o, ¬ m' a → Tb a o → H' a = some o → H a = some o
  gg : Sub G G'
  keep : ∀ a o, ¬ m a → H a = some o → H' a = some o
  newG : ∀ a, G' a ≠ none → G a = none → H a = none
  newM : ∀ a, m' a → m a ∨ H a = none
  there : ∀ a, H a ≠ none → H' a ≠ none
theorem Ext.refl {G H : Hp} {m : Addr → Prop} (h : St3 G H m) : Ext G H m G H m where
  toSt3 := h
  mm := fun _ h => h
  nt := fun _ _ _ _ e => e
  gg := Sub.refl _
  keep := fun _ _ _ e => e
  newG := fun a h1 h2 => absurd h2 h1
  newM := fun _ h => .inl h
  there := fun _ h => h
theorem ne_some {α : Type} {o : Option α} {x : α} (h : o = some x) : o ≠ none := by rw [h]; exact fun z => nomatch z
theorem Ext.trans {G H G1 H1 G2 H2 : Hp} {m m1 m2 : Addr → Prop} (a : Ext G H m G1 H1 m1) (b : Ext G1 H1 m1 G2 H2 m2) : Ext G H m G2 H2 m2 where
  toSt3 := b.toSt3
  mm := fun x h => b.mm x (a.mm x h)
  nt := fun x o h t e => a.nt x o (fun z => h (b.mm x z)) t (b.nt x o h t e)
  gg := a.gg.trans b.gg
  keep := fun x o h e => b.keep x o (fun z => by
    rcases a.newM x z with q | q
    · exact h q
    · rw [q] at e; cases e) (a.keep x o h e)
  newG := fun x h1 h2 => by
    by_cases q : G1 x = none
    · have q2 := b.newG x h1 q
      by_cases q3 : H x = none
      · exact q3
      · exact absurd q2 (a.there x q3)
    · exact a.newG x q h2
  newM := fun x h => by
    rcases b.newM x h with q | q
    · exact a.newM x q
    · by_cases q3 : H x = none
      · exact .inr q3
      · exact absurd q (a.there x q3)
  there := fun x h => b.there x (a.there x h)
/-- a new object that never changes -/
theorem Ext.new {G H G1 H1 : Hp} {m m1 : Addr → Prop} {p : Addr} {o : HO} (a : Ext G H m G1 H1 m1) (hp : H1 p = none) (ho : isPl o = true := by rfl) : Ext G H m (upd G1 p o) (upd H1 p o) m1 where
  mm := a.mm
  nt := fun x o h t e => a.nt x o h t (nt_upd ho x o t e)
  sub := fun x u e => by
    by_cases hx : x = p
    · subst hx; rw [upd_same] at e ⊢; exact e
    · rw [upd_ne hx] at e ⊢; exact a.sub x u e
  dis := fun x h => by
    have hx : x ≠ p := fun z => a.own x h (by rw [z]; exact hp)
    rw [upd_ne hx]; exact a.dis x h
  own := fun x h => by
    have hx : x ≠ p := fun z => a.own x h (by rw [z]; exact hp)
    rw [upd_ne hx]; exact a.own x h
  gg := fun x u e => by
    have q := a.gg x u e
    have hx : x ≠ p := fun z => by have w := a.sub x u q; rw [z, hp] at w; cases w
    rw [upd_ne hx]; exact q
  keep := fun x u h e => by
    have q := a.keep x u h e
    have hx : x ≠ p := fun z => by rw [z, hp] at q; cases q
    rw [upd_ne hx]; exact q
  newG := fun x h1 h2 => by
    by_cases hx : x = p
    · subst hx
      by_cases q : H x = none
      · exact q
      · exact absurd hp (a.there x q)
    · rw [upd_ne hx] at h1; exact a.newG x h1 h2
  newM := a.newM
  there := fun x h => by
    by_cases hx : x = p
    · subst hx; rw [upd_same]; exact fun z => nomatch z
    · rw [upd_ne hx]; exact a.there x h
/-- a new object that may change -/
theorem Ext.newO {G H G1 H1 : Hp} {m m1 : Addr → Prop} {p : Addr} {o : HO} (a : Ext G H m G1 H1 m1) (hp : H1 p = none) (ho : isPl o = true := by rfl) : Ext G H m G1 (upd H1 p o) m1 where
  mm := a.mm
  nt := fun x o h t e => a.nt x o h t (nt_upd ho x o t e)
  sub := fun x u e => by
    have q := a.sub x u e
    have hx : x ≠ p := fun z => by rw [z, hp] at q; cases q
    rw [upd_ne hx]; exact q
  dis := a.dis
  own := fun x h => by
    have hx : x ≠ p := fun z => a.own x h (by rw [z]; exact hp)
    rw [upd_ne hx]; exact a.own x h
  gg := a.gg
  keep := fun x u h e => by
    have q := a.keep x u h e
    have hx : x ≠ p := fun z => by rw [z, hp] at q; cases q
    rw [upd_ne hx]; exact q
  newG := a.newG
  newM := a.newM
  there := fun x h => by
    by_cases hx : x = p
    · subst hx; rw [upd_same]; exact fun z => nomatch z
    · rw [upd_ne hx]; exact a.there x h
structure Wo (S : Type) where
  P : S → Hp → Hp → (Addr → Prop) → Prop
  stay : ∀ {s G H m G' H'}, P s G H m → Sub G G' → (∀ a o, m a → H a = some o → H' a = some o) → (nt : NTabs H H' := by first | exact nt_refl | exact nt_upd rfl) → P s G' H' m
/-- no world -/
def w0 : Wo Unit := ⟨fun _ _ _ m => ∀ a, ¬ m a, fun h _ _ _ => h⟩

inductive R (S α : Type) where
  | ok (a : α) (s : S) | er (e : Err) (s : S) | no
def R.bind {S α β : Type} (r : R S α) (k : α → S → R S β) : R S β := match r with
  | .ok a s => k a s
  | .er e s => .er e s
  | .no => .no
abbrev En := List (Option D)
def RepE (K : PySem.W.Frag) (Γ : Pm) (G : Hp) (σ : L2.St) (η : En) : Prop := σ.length = η.length ∧ ∀ (i : Nat) (d : D), η[i]? = some (some d) → ∃ v, σ[i]? = some (some v) ∧ Rep K Γ G d v
theorem RepE.mono {K : PySem.W.Frag} {Γ : Pm} {G G' : Hp} {σ : L2.St} {η : En} (h : RepE K Γ G σ η) (e : Sub G G') : RepE K Γ G' σ η := ⟨h.1, fun i d q => by
  obtain ⟨v, h1, h2⟩ := h.2 i d q
  exact ⟨v, h1, h2.mono e⟩⟩
def fieldsV (fs : List (Str × Int)) : List (Str × V) := fs.map fun p => (p.1, .int p.2)
def ErrAt (Γ : Pm) (e : Err) (cls : Value) (dx : Option Addr) (H : Hp) : Prop :=
  cls = .ref (Γ.ca e.k) ∧ match e.fs with
    | [] => dx = none
    | f :: fs => ∃ d, dx = some d ∧ H d = some (.xd (fieldsV (f :: fs)))
section
variable {S α β γ δ' : Type}
def Post (Γ : Pm) (w : Wo S) (W : WX) (Rel : Hp → α → β → Prop) (σ : L2.St) (G H : Hp) (m : Addr → Prop) (r : R S α) (Q : β → Hp → Prop) : Prop := match r with
  | .ok d s' => ∀ G' H' m' v, Ext G H m G' H' m' → w.P s' G' H' m' → Rel G' d v → Q v H'
  | .er e s' => ∀ G' H' m' cls dx, Ext G H m G' H' m' → w.P s' G' H' m' → ErrAt Γ e cls dx H' → W cls dx σ H'
  | .no => False
def Ev (K : PySem.W.Frag) (Γ : Pm) (w : Wo S) (W : WX) (Rel : Hp → α → β → Prop) (t : L2.St → Hp → (β → Hp → Prop) → Prop) (f : En → S → R S α) : Prop :=
  ∀ (η : En) (s : S) (σ : L2.St) (G H : Hp) (m : Addr → Prop) (Q : β → Hp → Prop), St3 G H m → w.P s G H m → RepE K Γ G σ η → Post Γ w W Rel σ G H m (f η s) Q → t σ H Q
variable {Γ : Pm} {w : Wo S} {W : WX} {Rel : Hp → α → β → Prop} {Rel2 : Hp → γ → δ' → Prop} {σ : L2.St} {G H G1 H1 : Hp} {m m1 : Addr → Prop}
theorem Post.shift {r : R S α} {Q : β → Hp → Prop} (e : Ext G H m G1 H1 m1) (h : Post Γ w W Rel σ G H m r Q) : Post Γ w W Rel σ G1 H1 m1 r Q := by
  cases r with
  | ok d s => exact fun G' H' m' v e' p r => h G' H' m' v (e.trans e') p r
  | er x s => exact fun G' H' m' c d e' p r => h G' H' m' c d (e.trans e') p r
  | no => exact h
theorem Post.next {r : R S α} {k : α → S → R S γ} {Q : β → Hp → Prop} {Q2 : δ' → Hp → Prop} (hp : Post Γ w W Rel2 σ G H m (r.bind k) Q2)
    (h : ∀ d s1 G1 H1 m1 v, Ext G H m G1 H1 m1 → w.P s1 G1 H1 m1 → Rel G1 d v → Post Γ w W Rel2 σ G1 H1 m1 (k d s1) Q2 → Q v H1) : Post Γ w W Rel σ G H m r Q := by
  cases r with
  | ok d s => exact fun G' H' m' v e' p r => h d s G' H' m' v e' p r (hp.shift e')
  | er x s => exact hp
  | no => exact hp
end

/-! ### judgements -/
section
variable {S : Type}
structure DE (Γ : Pm) (w : Wo S) (W : WX) (X : Cx) (e : Expr) (f : En → S → R S D) : Prop where
  ex : ∃ t, PE X e t ∧ Ev X.K Γ w W (Rep X.K Γ) t f
structure DB (Γ : Pm) (w : Wo S) (W : WX) (X : Cx) (e : Expr) (f : En → S → R S Bool) : Prop where
  ex : ∃ t, PT X e t ∧ Ev X.K Γ w W (fun _ a b => a = b) t f
structure DA (Γ : Pm) (w : Wo S) (W : WX) (X : Cx) (es : List Expr) (f : En → S → R S (List D)) : Prop where
  ex : ∃ t, PA X es t ∧ Ev X.K Γ w W (RepL X.K Γ) t f

variable {Γ : Pm} {w : Wo S} {W : WX} {X : Cx} {pos : Pos}
/-- by a value that is known -/
theorem Post.val {Rel : Hp → D → V → Prop} {σ : L2.St} {G H : Hp} {m : Addr → Prop} {d : D} {s : S} {v : V} {Q : VK} (hp : Post Γ w W Rel σ G H m (.ok d s) Q) (h3 : St3 G H m) (p : w.P s G H m) (r : Rel G d v) : Q v H :=
  hp G H m v (Ext.refl h3) p r

/-! names and constants -/
def fVar (i : Nat) : En → S → R S D := fun η s => match η[i]? with
  | some (some d) => .ok d s
  | _ => .no
theorem de_var (i : Nat) {x : Str} {pos : Pos} (hN : X.N[i]? = some x := by rfl) (hv : Vis X.env.scope x := by first | exact Or.inl rfl | exact Or.inr (Or.inl rfl) | exact Or.inr (Or.inr rfl)) (hd : (x == ("__debug__" : Str)) = false := by decide)
    (hcd : (x == ("__classdict__" : Str)) = false := by decide) : DE Γ w W X (.Name x pos) (fVar i) := ⟨_, pe_var hN hv hd hcd, fun η s σ G H m Q h3 p e hp => by
  unfold fVar at hp
  split at hp
  · rename_i d hd
    obtain ⟨v, h1, h2⟩ := e.2 i d hd
    exact ⟨v, h1, hp.val h3 p h2⟩
  · exact hp.elim⟩
def fC (d : D) : En → S → R S D := fun _ s => .ok d s
theorem de_int {i j pos} : DE Γ w W X (.Constant (.int i) j pos) (fC (.int i)) := ⟨_, pe_int, fun η s σ G H m Q h3 p e hp => hp.val h3 p (by simp only [Rep])⟩
theorem de_bl {i j pos} : DE Γ w W X (.Constant (.bool i) j pos) (fC (.bl i)) := ⟨_, pe_bl, fun η s σ G H m Q h3 p e hp => hp.val h3 p (by simp only [Rep])⟩
theorem de_non {j pos} : DE Γ w W X (.Constant .none j pos) (fC .non) := ⟨_, pe_non, fun η s σ G H m Q h3 p e hp => hp.val h3 p (by simp only [Rep])⟩
theorem de_str {x j pos} {l : List Nat} (h : x = ⟨l.toArray⟩ := by decide +kernel) : DE Γ w W X (.Constant (.str x) j pos) (fC (.str l)) := ⟨_, pe_str, fun η s σ G H m Q h3 p e hp => hp.val h3 p (by simp only [Rep]; rw [h])⟩
/-- a module's constant -/
theorem de_globI {x : Str} {i : Int} {t : Tok} {pos : Pos} (hg : Gl X x) (hm : X.mg x = some (.int i t)) (hd : (x == ("__debug__" : Str)) = false := by decide) : DE Γ w W X (.Name x pos) (fC (.int i)) :=
  ⟨_, pe_glob (v := .int i) hg hm ⟨_, rfl⟩ hd, fun η s σ G H m Q h3 p e hp => hp.val h3 p (by simp only [Rep])⟩
theorem de_globS {x y : Str} {l : List Nat} {t : Tok} {pos : Pos} (hg : Gl X x) (hm : X.mg x = some (.str y t)) (h : y = ⟨l.toArray⟩ := by decide +kernel) (hd : (x == ("__debug__" : Str)) = false := by decide) : DE Γ w W X (.Name x pos) (fC (.str l)) :=
  ⟨_, pe_glob (v := .str y) hg hm ⟨_, rfl⟩ hd, fun η s σ G H m Q h3 p e hp => hp.val h3 p (by simp only [Rep]; rw [h])⟩

end
end Dm
namespace Dm
open PySem L2
section
variable {S : Type} {Γ : Pm} {w : Wo S} {W : WX} {X : Cx} {pos : Pos}
/-! operators -/
def f2 (g : D → D → S → R S D) (a b : En → S → R S D) : En → S → R S D := fun η s => (a η s).bind fun x s1 => (b η s1).bind fun y s2 => g x y s2
def f1 (g : D → S → R S D) (a : En → S → R S D) : En → S → R S D := fun η s => (a η s).bind fun x s1 => g x s1
/-- a rule of two values -/
def Lf2 (K : PySem.W.Frag) (Γ : Pm) (w : Wo S) (W : WX) (r : R2) (g : D → D → S → R S D) : Prop :=
  ∀ (d e : D) (x y : V) (s : S) (σ : L2.St) (G H : Hp) (m : Addr → Prop) (Q : VK), St3 G H m → w.P s G H m → Rep K Γ G d x → Rep K Γ G e y → Post Γ w W (Rep K Γ) σ G H m (g d e s) Q → r x y H Q
structure Op2 (Γ : Pm) (w : Wo S) (W : WX) (X : Cx) (f : Value → Value → Sem Value) (g : D → D → S → R S D) : Prop where
  ex : ∃ r, OpR X f r ∧ Lf2 X.K Γ w W r g
theorem ev_two {K : PySem.W.Frag} {r : R2} {ta tb : TE} {a b : En → S → R S D} {g : D → D → S → R S D} (ha : Ev K Γ w W (Rep K Γ) ta a) (hb : Ev K Γ w W (Rep K Γ) tb b) (hr : Lf2 K Γ w W r g) :
    Ev K Γ w W (Rep K Γ) (tOp r ta tb) (f2 g a b) := fun η s σ G H m Q h3 p e hp =>
  ha η s σ G H m _ h3 p e (hp.next fun d1 s1 G1 H1 m1 v1 x1 p1 r1 hp1 =>
    hb η s1 σ G1 H1 m1 _ x1.toSt3 p1 (e.mono x1.gg) (hp1.next fun d2 s2 G2 H2 m2 v2 x2 p2 r2 hp2 =>
      hr d1 d2 v1 v2 s2 σ G2 H2 m2 Q x2.toSt3 p2 (r1.mono x2.gg) r2 hp2))
variable {a b c : Expr} {es : List Expr} {fa fb fc : En → S → R S D} {ga gb gc : En → S → R S Bool}
theorem de_bin {op : Operator} {g : D → D → S → R S D} (ho : Op2 Γ w W X (binaryOp op) g) (ha : DE Γ w W X a fa) (hb : DE Γ w W X b fb) : DE Γ w W X (.BinOp a op b pos) (f2 g fa fb) := by
  obtain ⟨ta, ha, ea⟩ := ha
  obtain ⟨tb, hb, eb⟩ := hb
  obtain ⟨r, hr, lr⟩ := ho
  exact ⟨_, pe_op hr ha hb, ev_two ea eb lr⟩
theorem de_cmp {op : CmpOp} {g : D → D → S → R S D} (ho : Op2 Γ w W X (compareOp op) g) (ha : DE Γ w W X a fa) (hb : DE Γ w W X b fb) (hm : behindInMarks op b = false := by first | exact nomark _ | rfl) : DE Γ w W X (.Compare a [op] [b] pos) (f2 g fa fb) := by
  obtain ⟨ta, ha, ea⟩ := ha
  obtain ⟨tb, hb, eb⟩ := hb
  obtain ⟨r, hr, lr⟩ := ho
  exact ⟨_, pe_cmpR hr ha hb hm, ev_two ea eb lr⟩
def asB (f : En → S → R S D) : En → S → R S Bool := fun η s => (f η s).bind fun x s1 => match x with
  | .bl b => .ok b s1
  | _ => .no
theorem ev_test {K : PySem.W.Frag} {t : TE} {f : En → S → R S D} (h : Ev K Γ w W (Rep K Γ) t f) : Ev K Γ w W (fun _ a b => a = b) (tTest t) (asB f) := fun η s σ G H m Q h3 p e hp =>
  h η s σ G H m _ h3 p e (hp.next fun d s1 G1 H1 m1 v x1 p1 r1 hp1 => by
    split at hp1
    · simp only [Rep] at r1
      exact ⟨_, r1, hp1 G1 H1 m1 _ (Ext.refl x1.toSt3) p1 rfl⟩
    · exact hp1.elim)
theorem db_cmp {op : CmpOp} {g : D → D → S → R S D} (ho : Op2 Γ w W X (compareOp op) g) (ha : DE Γ w W X a fa) (hb : DE Γ w W X b fb) (hm : behindInMarks op b = false := by first | exact nomark _ | rfl) : DB Γ w W X (.Compare a [op] [b] pos) (asB (f2 g fa fb)) := by
  obtain ⟨ta, ha, ea⟩ := ha
  obtain ⟨tb, hb, eb⟩ := hb
  obtain ⟨r, hr, lr⟩ := ho
  exact ⟨_, pt_cmpR hr ha hb hm, ev_test (ev_two ea eb lr)⟩
/-- a value that is a bool, as a test -/
theorem db_val {e : Expr} {f : En → S → R S D} (h : DE Γ w W X e f) (he : ∀ whole, isTrue e X.env whole = (do let v ← whole; standAt e.pos; holding [v] (truthy v)) := by intro _; rfl) : DB Γ w W X e (asB f) := by
  obtain ⟨t, h, ev⟩ := h
  exact ⟨_, pt_val h he, ev_test ev⟩
/-! and, or, not: values -/
def fAnd (a b : En → S → R S D) : En → S → R S D := fun η s => (a η s).bind fun x s1 => match x with
  | .bl true => b η s1
  | .bl false => .ok (.bl false) s1
  | _ => .no
def fOr (a b : En → S → R S D) : En → S → R S D := fun η s => (a η s).bind fun x s1 => match x with
  | .bl false => b η s1
  | .bl true => .ok (.bl true) s1
  | _ => .no
def fNot (a : En → S → R S D) : En → S → R S D := fun η s => (a η s).bind fun x s1 => match x with
  | .bl b => .ok (.bl (!b)) s1
  | _ => .no
theorem de_one {op} {f : En → S → R S D} (h : DE Γ w W X a f) : DE Γ w W X (.BoolOp op [a] pos) f := by
  obtain ⟨t, h, ev⟩ := h
  exact ⟨_, pe_one h, ev⟩
theorem de_and (ha : DE Γ w W X a fa) (hb : DE Γ w W X (.BoolOp .And (b :: es) pos) fb) : DE Γ w W X (.BoolOp .And (a :: b :: es) pos) (fAnd fa fb) := by
  obtain ⟨ta, ha, ea⟩ := ha
  obtain ⟨tb, hb, eb⟩ := hb
  refine ⟨_, pe_and ha hb, fun η s σ G H m Q h3 p e hp => ea η s σ G H m _ h3 p e (hp.next fun d1 s1 G1 H1 m1 v1 x1 p1 r1 hp1 => ?_)⟩
  split at hp1
  · simp only [Rep] at r1
    refine ⟨true, r1, ?_⟩
    rw [if_pos rfl]
    exact eb η s1 σ G1 H1 m1 Q x1.toSt3 p1 (e.mono x1.gg) hp1
  · simp only [Rep] at r1
    refine ⟨false, r1, ?_⟩
    rw [if_neg Bool.false_ne_true]
    exact hp1.val x1.toSt3 p1 (by simp only [Rep])
  · exact hp1.elim
theorem de_or (ha : DE Γ w W X a fa) (hb : DE Γ w W X (.BoolOp .Or (b :: es) pos) fb) : DE Γ w W X (.BoolOp .Or (a :: b :: es) pos) (fOr fa fb) := by
  obtain ⟨ta, ha, ea⟩ := ha
  obtain ⟨tb, hb, eb⟩ := hb
  refine ⟨_, pe_or ha hb, fun η s σ G H m Q h3 p e hp => ea η s σ G H m _ h3 p e (hp.next fun d1 s1 G1 H1 m1 v1 x1 p1 r1 hp1 => ?_)⟩
  split at hp1
  · simp only [Rep] at r1
    refine ⟨false, r1, ?_⟩
    rw [if_neg Bool.false_ne_true]
    exact eb η s1 σ G1 H1 m1 Q x1.toSt3 p1 (e.mono x1.gg) hp1
  · simp only [Rep] at r1
    refine ⟨true, r1, ?_⟩
    rw [if_pos rfl]
    exact hp1.val x1.toSt3 p1 (by simp only [Rep])
  · exact hp1.elim
theorem de_not (ha : DE Γ w W X a fa) : DE Γ w W X (.UnaryOp .Not a pos) (fNot fa) := by
  obtain ⟨ta, ha, ea⟩ := ha
  refine ⟨_, pe_not ha, fun η s σ G H m Q h3 p e hp => ea η s σ G H m _ h3 p e (hp.next fun d1 s1 G1 H1 m1 v1 x1 p1 r1 hp1 => ?_)⟩
  split at hp1
  · simp only [Rep] at r1
    exact ⟨_, r1, hp1.val x1.toSt3 p1 (by simp only [Rep])⟩
  · exact hp1.elim
/-! .. tests -/
def bAnd (a b : En → S → R S Bool) : En → S → R S Bool := fun η s => (a η s).bind fun x s1 => match x with
  | true => b η s1
  | false => .ok false s1
def bOr (a b : En → S → R S Bool) : En → S → R S Bool := fun η s => (a η s).bind fun x s1 => match x with
  | false => b η s1
  | true => .ok true s1
def bNot (a : En → S → R S Bool) : En → S → R S Bool := fun η s => (a η s).bind fun x s1 => .ok (!x) s1
structure DW (Γ : Pm) (w : Wo S) (W : WX) (X : Cx) (e : Expr) (f : En → S → R S Bool) : Prop where
  ex : ∃ t, PW X e t ∧ Ev X.K Γ w W (fun _ a b => a = b) t f
theorem DW.db (h : DW Γ w W X a ga) : DB Γ w W X a ga := by
  obtain ⟨t, h, ev⟩ := h
  exact ⟨_, h.pt, ev⟩
theorem dw_and1 (ha : DB Γ w W X a ga) : DW Γ w W X (.BoolOp .And [a] pos) ga := by
  obtain ⟨t, h, ev⟩ := ha
  exact ⟨_, pw_and1 h, ev⟩
theorem dw_or1 (ha : DB Γ w W X a ga) : DW Γ w W X (.BoolOp .Or [a] pos) ga := by
  obtain ⟨t, h, ev⟩ := ha
  exact ⟨_, pw_or1 h, ev⟩
theorem Post.valB {σ : L2.St} {G H : Hp} {m : Addr → Prop} {d : Bool} {s : S} {Q : Bool → Hp → Prop} (hp : Post Γ w W (fun _ a b => a = b) σ G H m (.ok d s) Q) (h3 : St3 G H m) (p : w.P s G H m) : Q d H :=
  hp G H m d (Ext.refl h3) p rfl
theorem dw_and (ha : DB Γ w W X a ga) (hb : DW Γ w W X (.BoolOp .And (b :: es) pos) gb) : DW Γ w W X (.BoolOp .And (a :: b :: es) pos) (bAnd ga gb) := by
  obtain ⟨ta, ha, ea⟩ := ha
  obtain ⟨tb, hb, eb⟩ := hb
  refine ⟨_, pw_and ha hb, fun η s σ G H m Q h3 p e hp => ea η s σ G H m _ h3 p e (hp.next fun d1 s1 G1 H1 m1 v1 x1 p1 r1 hp1 => ?_)⟩
  subst r1
  cases d1 with
  | true => rw [if_pos rfl]; exact eb η s1 σ G1 H1 m1 Q x1.toSt3 p1 (e.mono x1.gg) hp1
  | false => rw [if_neg Bool.false_ne_true]; exact hp1.valB x1.toSt3 p1
theorem dw_or (ha : DB Γ w W X a ga) (hb : DW Γ w W X (.BoolOp .Or (b :: es) pos) gb) : DW Γ w W X (.BoolOp .Or (a :: b :: es) pos) (bOr ga gb) := by
  obtain ⟨ta, ha, ea⟩ := ha
  obtain ⟨tb, hb, eb⟩ := hb
  refine ⟨_, pw_or ha hb, fun η s σ G H m Q h3 p e hp => ea η s σ G H m _ h3 p e (hp.next fun d1 s1 G1 H1 m1 v1 x1 p1 r1 hp1 => ?_)⟩
  subst r1
  cases d1 with
  | false => rw [if_neg Bool.false_ne_true]; exact eb η s1 σ G1 H1 m1 Q x1.toSt3 p1 (e.mono x1.gg) hp1
  | true => rw [if_pos rfl]; exact hp1.valB x1.toSt3 p1
theorem db_not (ha : DB Γ w W X a ga) : DB Γ w W X (.UnaryOp .Not a pos) (bNot ga) := by
  obtain ⟨ta, ha, ea⟩ := ha
  refine ⟨_, pt_not ha, fun η s σ G H m Q h3 p e hp => ea η s σ G H m _ h3 p e (hp.next fun d1 s1 G1 H1 m1 v1 x1 p1 r1 hp1 => ?_)⟩
  subst r1
  exact hp1.valB x1.toSt3 p1
def fIf (c : En → S → R S Bool) (a b : En → S → R S D) : En → S → R S D := fun η s => (c η s).bind fun x s1 => match x with
  | true => a η s1
  | false => b η s1
theorem de_if (hc : DB Γ w W X c gc) (ha : DE Γ w W X a fa) (hb : DE Γ w W X b fb) : DE Γ w W X (.IfExp c a b pos) (fIf gc fa fb) := by
  obtain ⟨tc, hc, ec⟩ := hc
  obtain ⟨ta, ha, ea⟩ := ha
  obtain ⟨tb, hb, eb⟩ := hb
  refine ⟨_, pe_ifExp hc ha hb, fun η s σ G H m Q h3 p e hp => ec η s σ G H m _ h3 p e (hp.next fun d1 s1 G1 H1 m1 v1 x1 p1 r1 hp1 => ?_)⟩
  subst r1
  cases d1 with
  | true => rw [if_pos rfl]; exact ea η s1 σ G1 H1 m1 Q x1.toSt3 p1 (e.mono x1.gg) hp1
  | false => rw [if_neg Bool.false_ne_true]; exact eb η s1 σ G1 H1 m1 Q x1.toSt3 p1 (e.mono x1.gg) hp1
/-- a < b < c -/
def fChain (g h : D → D → S → R S D) (a b c : En → S → R S D) : En → S → R S D := fun η s => (a η s).bind fun x s1 => (b η s1).bind fun y s2 => (g x y s2).bind fun z s3 => match z with
  | .bl true => (c η s3).bind fun u s4 => h y u s4
  | .bl false => .ok (.bl false) s3
  | _ => .no
theorem ev_chain {K : PySem.W.Frag} {r r' : R2} {ta tb tc : TE} {g h : D → D → S → R S D} (ha : Ev K Γ w W (Rep K Γ) ta fa) (hb : Ev K Γ w W (Rep K Γ) tb fb) (hc : Ev K Γ w W (Rep K Γ) tc fc) (hr : Lf2 K Γ w W r g) (hr' : Lf2 K Γ w W r' h) :
    Ev K Γ w W (Rep K Γ) (tChain r r' ta tb tc) (fChain g h fa fb fc) := fun η s σ G H m Q h3 p e hp =>
  ha η s σ G H m _ h3 p e (hp.next fun d1 s1 G1 H1 m1 v1 x1 p1 r1 hp1 =>
    hb η s1 σ G1 H1 m1 _ x1.toSt3 p1 (e.mono x1.gg) (hp1.next fun d2 s2 G2 H2 m2 v2 x2 p2 r2 hp2 =>
      hr d1 d2 v1 v2 s2 σ G2 H2 m2 _ x2.toSt3 p2 (r1.mono x2.gg) r2 (hp2.next fun d3 s3 G3 H3 m3 v3 x3 p3 r3 hp3 => by
        split at hp3
        · simp only [Rep] at r3
          refine ⟨true, r3, ?_⟩
          rw [if_pos rfl]
          exact hc η s3 σ G3 H3 m3 _ x3.toSt3 p3 ((e.mono x1.gg).mono (x2.gg.trans x3.gg)) (hp3.next fun d4 s4 G4 H4 m4 v4 x4 p4 r4 hp4 =>
            hr' d2 d4 v2 v4 s4 σ G4 H4 m4 Q x4.toSt3 p4 ((r2.mono x3.gg).mono x4.gg) r4 hp4)
        · simp only [Rep] at r3
          refine ⟨false, r3, ?_⟩
          rw [if_neg Bool.false_ne_true]
          exact hp3.val x3.toSt3 p3 (by simp only [Rep])
        · exact hp3.elim)))
theorem de_chain {op op' : CmpOp} {g h : D → D → S → R S D} (ho : Op2 Γ w W X (compareOp op) g) (ho' : Op2 Γ w W X (compareOp op') h) (ha : DE Γ w W X a fa) (hb : DE Γ w W X b fb) (hc : DE Γ w W X c fc)
    (hm : lastMarks [op, op'] [b, c] = false := by with_unfolding_all rfl) : DE Γ w W X (.Compare a [op, op'] [b, c] pos) (fChain g h fa fb fc) := by
  obtain ⟨ta, ha, ea⟩ := ha
  obtain ⟨tb, hb, eb⟩ := hb
  obtain ⟨tc, hc, ec⟩ := hc
  obtain ⟨r, hr, lr⟩ := ho
  obtain ⟨r', hr', lr'⟩ := ho'
  exact ⟨_, pe_chain hr hr' ha hb hc hm, ev_chain ea eb ec lr lr'⟩
theorem db_chain {op op' : CmpOp} {g h : D → D → S → R S D} (ho : Op2 Γ w W X (compareOp op) g) (ho' : Op2 Γ w W X (compareOp op') h) (ha : DE Γ w W X a fa) (hb : DE Γ w W X b fb) (hc : DE Γ w W X c fc)
    (hm : lastMarks [op, op'] [b, c] = false := by with_unfolding_all rfl) : DB Γ w W X (.Compare a [op, op'] [b, c] pos) (asB (fChain g h fa fb fc)) := by
  obtain ⟨ta, ha, ea⟩ := ha
  obtain ⟨tb, hb, eb⟩ := hb
  obtain ⟨tc, hc, ec⟩ := hc
  obtain ⟨r, hr, lr⟩ := ho
  obtain ⟨r', hr', lr'⟩ := ho'
  exact ⟨_, pt_chain hr hr' ha hb hc hm, ev_test (ev_chain ea eb ec lr lr')⟩

/-! argument lists, displays -/
def aNil : En → S → R S (List D) := fun _ s => .ok [] s
def aCons (a : En → S → R S D) (r : En → S → R S (List D)) : En → S → R S (List D) := fun η s => (a η s).bind fun x s1 => (r η s1).bind fun xs s2 => .ok (x :: xs) s2
theorem da_nil : DA Γ w W X [] aNil := ⟨_, pa_nil, fun η s σ G H m Q h3 p e hp => hp G H m [] (Ext.refl h3) p RepL.nil⟩
theorem da_cons {fs : En → S → R S (List D)} (ha : DE Γ w W X a fa) (hr : DA Γ w W X es fs) (hs : starEach (a :: es) X.env = (false, eval a X.env) :: starEach es X.env := by rfl) : DA Γ w W X (a :: es) (aCons fa fs) := by
  obtain ⟨ta, ha, ea⟩ := ha
  obtain ⟨tr, hr, er⟩ := hr
  refine ⟨_, pa_cons ha hr hs, fun η s σ G H m Q h3 p e hp => ea η s σ G H m _ h3 p e (hp.next fun d1 s1 G1 H1 m1 v1 x1 p1 r1 hp1 =>
    er η s1 σ G1 H1 m1 _ x1.toSt3 p1 (e.mono x1.gg) (hp1.next fun d2 s2 G2 H2 m2 v2 x2 p2 r2 hp2 => ?_))⟩
  exact hp2 G2 H2 m2 _ (Ext.refl x2.toSt3) p2 (RepL.cons (r1.mono x2.gg) r2)
def fTup (f : En → S → R S (List D)) : En → S → R S D := fun η s => (f η s).bind fun xs s1 => if xs.length ≤ sizeLine then .ok (.tup xs) s1 else .no
def fLst (f : En → S → R S (List D)) : En → S → R S D := fun η s => (f η s).bind fun xs s1 => if xs.length ≤ sizeLine then .ok (.lst xs) s1 else .no
/-- a new tuple, a new list, as data -/
theorem Post.newT {K : PySem.W.Frag} {σ : L2.St} {G H : Hp} {m : Addr → Prop} {xs : List D} {vs : List V} {s : S} {Q : VK} (hp : Post Γ w W (Rep K Γ) σ G H m (.ok (.tup xs) s) Q) (h3 : St3 G H m) (p : w.P s G H m) (r : RepL K Γ G xs vs) (a : Addr) (o : Obj) (ha : H a = none) (hd : o.dict = none) :
    Q (.ref a) (upd H a (.frz o (.tup vs))) := by
  have x := (Ext.refl h3).new (o := .frz o (.tup vs)) ha
  refine hp _ _ _ _ x (w.stay p x.gg fun b o hb e => ?_) ?_
  · rw [upd_ne (ne_of_none e ha)]; exact e
  · simp only [Rep]
    exact ⟨a, vs, rfl, SqP.of upd_same hd, r.mono x.gg⟩
theorem Post.newL {K : PySem.W.Frag} {σ : L2.St} {G H : Hp} {m : Addr → Prop} {xs : List D} {vs : List V} {s : S} {Q : VK} (hp : Post Γ w W (Rep K Γ) σ G H m (.ok (.lst xs) s) Q) (h3 : St3 G H m) (p : w.P s G H m) (r : RepL K Γ G xs vs) (a : Addr) (ha : H a = none) :
    Q (.ref a) (upd H a (.lst vs)) := by
  have x := (Ext.refl h3).new (o := .lst vs) ha
  refine hp _ _ _ _ x (w.stay p x.gg fun b o hb e => ?_) ?_
  · rw [upd_ne (ne_of_none e ha)]; exact e
  · simp only [Rep]
    exact ⟨a, vs, rfl, upd_same, r.mono x.gg⟩
/-- a new tuple, its object told to have no dict -/
def tTupP (t : TA) : TE := fun σ H Q => t σ H fun xs H1 => xs.length ≤ sizeLine ∧ ∀ (p : Addr) (o : Obj), H1 p = none → o.dict = none → Q (.ref p) (upd H1 p (.frz o (.tup xs)))
theorem pe_tupP {t : TA} {x1} (h : PA X es t) : PE X (.Tuple es x1 pos) (tTupP t) :=
  ⟨fun pins s σ H Q I hq => wpAny_Tuple_spliced (thn (h.run pos pins s σ H _ I hq) fun us s1 ⟨xs, H1, I1, r, z, q⟩ => ⟨by rw [← r.length]; exact z,
    .ref s1.heap.objs.size, upd H1 s1.heap.objs.size (.frz { cls := .type "tuple", data := .seq us.toArray } (.tup xs)), I1.laid (t' := s1.toks) (fun b u e => Heap.get?_push_of_some _ e) (Nat.le_refl _) ⟨Heap.get?_push_size _ rfl, z, us, r, ⟨_, Heap.get?_push_size _ rfl, rfl, _, rfl⟩⟩, rfl, q _ _ (I1.hok.fresh (Nat.le_refl _)) rfl⟩)⟩
theorem de_tup {fs : En → S → R S (List D)} {x1} (h : DA Γ w W X es fs) : DE Γ w W X (.Tuple es x1 pos) (fTup fs) := by
  obtain ⟨t, h, ev⟩ := h
  refine ⟨_, pe_tupP h, fun η s σ G H m Q h3 p e hp => ev η s σ G H m _ h3 p e (hp.next fun d1 s1 G1 H1 m1 v1 x1 p1 r1 hp1 => ?_)⟩
  split at hp1
  · rename_i hz
    exact ⟨by rw [r1.length]; exact hz, fun q o hq ho => hp1.newT x1.toSt3 p1 r1 q o hq ho⟩
  · exact hp1.elim
theorem de_lst {fs : En → S → R S (List D)} (h : DA Γ w W X es fs) : DE Γ w W X (.List es pos) (fLst fs) := by
  obtain ⟨t, h, ev⟩ := h
  refine ⟨_, pe_lst h, fun η s σ G H m Q h3 p e hp => ev η s σ G H m _ h3 p e (hp.next fun d1 s1 G1 H1 m1 v1 x1 p1 r1 hp1 => ?_)⟩
  split at hp1
  · rename_i hz
    exact ⟨by rw [r1.length]; exact hz, fun q hq => hp1.newL x1.toSt3 p1 r1 q hq⟩
  · exact hp1.elim
end
end Dm
namespace Dm
open PySem L2
section
variable {S : Type} {Γ : Pm} {w : Wo S} {W : WX} {X : Cx} {pos : Pos}
/-! ### texts as lists -/
abbrev tx (l : List Nat) : Str := ⟨l.toArray⟩
theorem tx_list (l : List Nat) : (tx l).cps.toList = l := rfl
theorem tx_len (l : List Nat) : (tx l).length = l.length := List.size_toArray
theorem tx_app (a b : List Nat) : tx a ++ tx b = tx (a ++ b) := by
  show (⟨a.toArray ++ b.toArray⟩ : Str) = ⟨(a ++ b).toArray⟩
  rw [List.append_toArray]
theorem tx_inj {a b : List Nat} (h : tx a = tx b) : a = b := by
  have q := congrArg (fun s : Str => s.cps.toList) h
  exact q
theorem tx_eq (a b : List Nat) : decide (tx a = tx b) = decide (a = b) := by
  by_cases h : a = b
  · subst h; simp
  · have q : ¬ tx a = tx b := fun z => h (tx_inj z)
    rw [decide_eq_false h, decide_eq_false q]
theorem tx_beq (a b : List Nat) : (tx a == tx b) = decide (a = b) := by
  by_cases h : a = b
  · subst h; simp
  · have q : ¬ tx a = tx b := fun z => h (tx_inj z)
    rw [decide_eq_false h]
    exact beq_eq_false_iff_ne.mpr q
def cutL {α : Type} (xs : List α) (lo hi : Option Int) : List α := (xs.drop (HT.sIx xs.length 0 lo)).take (HT.sIx xs.length xs.length hi - HT.sIx xs.length 0 lo)
theorem tx_cut (l : List Nat) (lo hi : Option Int) : cutS (tx l) lo hi = tx (cutL l lo hi) := by
  unfold cutS cutL
  rw [tx_len, tx_list]
theorem RepL.cut {K : PySem.W.Frag} {G : Hp} {ds : List D} {vs : List V} (h : RepL K Γ G ds vs) (lo hi : Option Int) : RepL K Γ G (cutL ds lo hi) (cutV vs lo hi) := by
  unfold cutL cutV
  rw [h.length]
  exact (h.drop _).take _
theorem RepL.atI {K : PySem.W.Frag} {G : Hp} {ds : List D} {vs : List V} {i : Int} {d : D} (h : RepL K Γ G ds vs) (e : L2.atI ds i = some d) : ∃ v, L2.atI vs i = some v ∧ Rep K Γ G d v := by
  unfold L2.atI at e ⊢
  rw [h.length]
  cases q : ixN ds.length i with
  | none => rw [q] at e; cases e
  | some j =>
    rw [q] at e
    exact h.get e

/-! ### sums, products -/
/-- t + u of tuples -/
def rCatP (K : PySem.W.Frag) : R2 := fun x y H Q => ∃ a b xs ys, x = .ref a ∧ y = .ref b ∧ SqT K H a xs ∧ SqT K H b ys ∧ xs.length + ys.length ≤ sizeLine ∧ (xs = [] → Q (.ref b) H) ∧ (xs ≠ [] → ys = [] → Q (.ref a) H) ∧
  (xs ≠ [] → ys ≠ [] → ∀ (p : Addr) (o : Obj), H p = none → o.dict = none → Q (.ref p) (upd H p (.frz o (.tup (xs ++ ys)))))
theorem op_catP : OpR X (binaryOp .Add) (rCatP X.K) := by
  intro pins s σ H x y v u Q I rx ry h
  obtain ⟨a, b, xs, ys, rfl, rfl, ha, hb, hz, q0, q1, q2⟩ := h
  by_cases hc : xs = [] ∨ ys = []
  · exact op_catA pins s σ H _ _ v u Q I rx ry ⟨a, b, xs, ys, rfl, rfl, ha, hb, hz, q0, q1, fun n0 n1 => (hc.elim n0 n1).elim⟩
  · have hx : xs ≠ [] := fun z => hc (.inl z)
    have hy : ys ≠ [] := fun z => hc (.inr z)
    cases rx
    cases ry
    obtain ⟨its, r1, p1, _⟩ := I.tuple ha
    obtain ⟨its2, r2, p2, _⟩ := I.tuple hb
    refine HT.cat_tup p1 p2 (fun z => hx (r1.nil_iff.mp z)) (fun z => (hy (r2.nil_iff.mp z)).elim) (fun z => ?_) (by rw [← r1.length, ← r2.length]; exact hz)
    exact ⟨.ref s.heap.objs.size, _, I.laid (t' := s.toks) (o := .frz _ (.tup (xs ++ ys))) (fun b ob q => Heap.get?_push_of_some _ q) (Nat.le_refl _) ⟨Heap.get?_push_size _ rfl, by rw [List.length_append]; exact hz, _, r1.append r2, ⟨_, Heap.get?_push_size _ rfl, rfl, _, rfl⟩⟩, rfl, q2 hx hy _ _ (I.hok.fresh (Nat.le_refl _)) rfl⟩
def gAdd : D → D → S → R S D
  | .int i, .int j, s => .ok (.int (i + j)) s
  | .str a, .str b, s => if a.length + b.length ≤ sizeLine then .ok (.str (a ++ b)) s else .no
  | .tup a, .tup b, s => if a.length + b.length ≤ sizeLine then .ok (.tup (a ++ b)) s else .no
  | .lst a, .lst b, s => if a.length + b.length ≤ sizeLine then .ok (.lst (a ++ b)) s else .no
  | _, _, _ => .no
theorem lf_add : Op2 Γ w W X (binaryOp .Add) gAdd := by
  refine ⟨_, OpR.or op_add (OpR.or op_add_str (OpR.or op_catP op_cat)), fun d e x y s σ G H m Q h3 p r1 r2 hp => ?_⟩
  unfold gAdd at hp
  split at hp
  · simp only [Rep] at r1 r2
    exact .inl ⟨_, _, r1, r2, hp.val h3 p (by simp only [Rep])⟩
  · split at hp
    · rename_i a b hz
      simp only [Rep] at r1 r2
      refine .inr (.inl ⟨_, _, r1, r2, by rw [tx_len, tx_len]; exact hz, ?_⟩)
      exact hp.val h3 p (by simp only [Rep]; rw [tx_app])
    · exact hp.elim
  · split at hp
    · rename_i a b hz
      simp only [Rep] at r1 r2
      obtain ⟨p1, vs, rfl, t1, l1⟩ := r1
      obtain ⟨p2, ws, rfl, t2, l2⟩ := r2
      refine .inr (.inr (.inl ⟨p1, p2, vs, ws, rfl, rfl, h3.sub.seqT t1.t, h3.sub.seqT t2.t, by rw [l1.length, l2.length]; exact hz, fun e0 => ?_, fun n0 e0 => ?_, fun n0 n1 q o hq ho => ?_⟩))
      · have ea : a = [] := List.length_eq_zero_iff.mp (by rw [← l1.length, e0]; rfl)
        subst ea
        exact hp.val h3 p (by simp only [Rep, List.nil_append]; exact ⟨p2, ws, rfl, t2, l2⟩)
      · have ea : b = [] := List.length_eq_zero_iff.mp (by rw [← l2.length, e0]; rfl)
        subst ea
        exact hp.val h3 p (by simp only [Rep, List.append_nil]; exact ⟨p1, vs, rfl, t1, l1⟩)
      · exact hp.newT h3 p (l1.append l2) q o hq ho
    · exact hp.elim
  · split at hp
    · rename_i a b hz
      simp only [Rep] at r1 r2
      obtain ⟨p1, vs, rfl, t1, l1⟩ := r1
      obtain ⟨p2, ws, rfl, t2, l2⟩ := r2
      exact .inr (.inr (.inr ⟨p1, p2, vs, ws, rfl, rfl, h3.sub _ _ t1, h3.sub _ _ t2, by rw [l1.length, l2.length]; exact hz, fun q hq => hp.newL h3 p (l1.append l2) q hq⟩))
    · exact hp.elim
  · exact hp.elim
def gInt (f : Int → Int → D) (c : Int → Int → Bool) : D → D → S → R S D
  | .int i, .int j, s => if c i j = true then .ok (f i j) s else .no
  | _, _, _ => .no
theorem lf_sub : Op2 Γ w W X (binaryOp .Sub) (gInt (fun i j => .int (i - j)) fun _ _ => true) := by
  refine ⟨_, op_sub, fun d e x y s σ G H m Q h3 p r1 r2 hp => ?_⟩
  unfold gInt at hp
  split at hp
  · simp only [Rep] at r1 r2
    exact ⟨_, _, r1, r2, hp.val h3 p (by simp only [Rep])⟩
  · exact hp.elim
theorem lf_mul : Op2 Γ w W X (binaryOp .Mult) (gInt (fun i j => .int (i * j)) fun i j => decide (i.natAbs.log2 + j.natAbs.log2 < 1000000)) := by
  refine ⟨_, op_mulW, fun d e x y s σ G H m Q h3 p r1 r2 hp => ?_⟩
  unfold gInt at hp
  split at hp
  · split at hp
    · rename_i hc
      simp only [Rep] at r1 r2
      have hc' := of_decide_eq_true hc
      exact ⟨_, _, r1, r2, hc', hp.val h3 p (by simp only [Rep])⟩
    · exact hp.elim
  · exact hp.elim
theorem lf_mod : Op2 Γ w W X (binaryOp .Mod) (gInt (fun i j => .int (i % j)) fun _ j => decide (0 < j)) := by
  refine ⟨_, op_mod, fun d e x y s σ G H m Q h3 p r1 r2 hp => ?_⟩
  unfold gInt at hp
  split at hp
  · split at hp
    · rename_i hc
      simp only [Rep] at r1 r2
      have hc' := of_decide_eq_true hc
      exact ⟨_, _, r1, r2, hc', hp.val h3 p (by simp only [Rep])⟩
    · exact hp.elim
  · exact hp.elim
theorem lf_fdiv : Op2 Γ w W X (binaryOp .FloorDiv) (gInt (fun i j => .int (i / j)) fun _ j => decide (0 < j ∧ j < 1073741824)) := by
  refine ⟨_, op_fdiv, fun d e x y s σ G H m Q h3 p r1 r2 hp => ?_⟩
  unfold gInt at hp
  split at hp
  · split at hp
    · rename_i hc
      simp only [Rep] at r1 r2
      have hc' := of_decide_eq_true hc
      exact ⟨_, _, r1, r2, hc', hp.val h3 p (by simp only [Rep])⟩
    · exact hp.elim
  · exact hp.elim
theorem lf_pow : Op2 Γ w W X (binaryOp .Pow) (gInt (fun i j => .int (i ^ j.toNat)) fun i j => decide (0 ≤ j ∧ j ≤ 1000000 ∧ i.natAbs < 2 ^ 64)) := by
  refine ⟨_, op_pow, fun d e x y s σ G H m Q h3 p r1 r2 hp => ?_⟩
  unfold gInt at hp
  split at hp
  · split at hp
    · rename_i hc
      simp only [Rep] at r1 r2
      have hc' := of_decide_eq_true hc
      exact ⟨_, _, r1, r2, hc', hp.val h3 p (by simp only [Rep])⟩
    · exact hp.elim
  · exact hp.elim

/-! ### order -/
def gOrd (ci : Int → Int → Bool) (cs : List Nat → List Nat → Bool) : D → D → S → R S D
  | .int i, .int j, s => .ok (.bl (ci i j)) s
  | .str i, .str j, s => .ok (.bl (cs i j)) s
  | _, _, _ => .no
theorem lf_lt : Op2 Γ w W X (compareOp .Lt) (gOrd (fun i j => decide (i < j)) fun i j => decide (i < j)) := by
  refine ⟨_, OpR.or op_lt op_lt_str, fun d e x y s σ G H m Q h3 p r1 r2 hp => ?_⟩
  unfold gOrd at hp
  split at hp
  · simp only [Rep] at r1 r2
    exact .inl ⟨_, _, r1, r2, hp.val h3 p (by simp only [Rep])⟩
  · simp only [Rep] at r1 r2
    exact .inr ⟨_, _, r1, r2, hp.val h3 p (by simp only [Rep])⟩
  · exact hp.elim
theorem lf_le : Op2 Γ w W X (compareOp .LtE) (gOrd (fun i j => decide (i ≤ j)) fun i j => !decide (j < i)) := by
  refine ⟨_, OpR.or op_le op_le_str, fun d e x y s σ G H m Q h3 p r1 r2 hp => ?_⟩
  unfold gOrd at hp
  split at hp
  · simp only [Rep] at r1 r2
    exact .inl ⟨_, _, r1, r2, hp.val h3 p (by simp only [Rep])⟩
  · simp only [Rep] at r1 r2
    exact .inr ⟨_, _, r1, r2, hp.val h3 p (by simp only [Rep])⟩
  · exact hp.elim
theorem lf_gt : Op2 Γ w W X (compareOp .Gt) (gOrd (fun i j => decide (j < i)) fun i j => decide (j < i)) := by
  refine ⟨_, OpR.or op_gt op_gt_str, fun d e x y s σ G H m Q h3 p r1 r2 hp => ?_⟩
  unfold gOrd at hp
  split at hp
  · simp only [Rep] at r1 r2
    exact .inl ⟨_, _, r1, r2, hp.val h3 p (by simp only [Rep])⟩
  · simp only [Rep] at r1 r2
    exact .inr ⟨_, _, r1, r2, hp.val h3 p (by simp only [Rep])⟩
  · exact hp.elim
theorem lf_ge : Op2 Γ w W X (compareOp .GtE) (gOrd (fun i j => decide (j ≤ i)) fun i j => !decide (i < j)) := by
  refine ⟨_, OpR.or op_ge op_ge_str, fun d e x y s σ G H m Q h3 p r1 r2 hp => ?_⟩
  unfold gOrd at hp
  split at hp
  · simp only [Rep] at r1 r2
    exact .inl ⟨_, _, r1, r2, hp.val h3 p (by simp only [Rep])⟩
  · simp only [Rep] at r1 r2
    exact .inr ⟨_, _, r1, r2, hp.val h3 p (by simp only [Rep])⟩
  · exact hp.elim

/-! ### equality -/
mutual
def eqD : D → D → Bool
  | .non, .non => true
  | .bl a, .bl b => a == b
  | .bl a, .int j => (if a then 1 else 0) == j
  | .int i, .bl b => i == (if b then 1 else 0)
  | .int i, .int j => i == j
  | .str x, .str y => decide (x = y)
  | .lst xs, .lst ys => eqDs xs ys
  | .tup xs, .tup ys => eqDs xs ys
  | _, _ => false
def eqDs : List D → List D → Bool
  | [], [] => true
  | x :: xs, y :: ys => eqD x y && eqDs xs ys
  | _, _ => false
end
mutual
def toP : D → PyData
  | .non => .none
  | .bl b => .bool b
  | .int i => .int i
  | .str x => .str (tx x)
  | .lst xs => .list (toPs xs)
  | .tup xs => .tuple (toPs xs)
  | .nm _ => .dict []
  | .dct _ _ => .dict []
def toPs : List D → List PyData
  | [] => []
  | x :: xs => toP x :: toPs xs
end
mutual
def okD : D → Bool
  | .str x => x.all (· < 0x110000)
  | .lst xs => okDs xs
  | .tup xs => okDs xs
  | .nm _ => false
  | .dct _ _ => false
  | _ => true
def okDs : List D → Bool
  | [] => true
  | x :: xs => okD x && okDs xs
end
mutual
def depD : D → Nat
  | .lst xs => depDs xs + 1
  | .tup xs => depDs xs + 1
  | .nm _ => 1
  | .dct _ _ => 1
  | _ => 0
def depDs : List D → Nat
  | [] => 0
  | x :: xs => max (depD x) (depDs xs)
end
mutual
theorem depP : ∀ d : D, (toP d).depth = depD d
  | .non | .bl _ | .int _ | .str _ => by simp only [toP, PyData.depth, depD]
  | .nm _ => by simp only [toP, PyData.depth, depD, PyData.depthKv]
  | .dct _ _ => by simp only [toP, PyData.depth, depD, PyData.depthKv]
  | .lst xs => by simp only [toP, PyData.depth, depD, depPs xs]
  | .tup xs => by simp only [toP, PyData.depth, depD, depPs xs]
theorem depPs : ∀ ds : List D, PyData.depthAll (toPs ds) = depDs ds
  | [] => by simp only [toPs, PyData.depthAll, depDs]
  | d :: ds => by simp only [toPs, PyData.depthAll, depDs, depP d, depPs ds]
end
theorem strOk_tx (l : List Nat) : PyData.strOk (tx l) = l.all (· < 0x110000) := by
  show (l.toArray.all (· < 0x110000)) = _
  rw [List.all_toArray]
mutual
theorem layP : ∀ d : D, okD d = true → (toP d).canLay0 = true
  | .non, _ | .bl _, _ | .int _, _ => by simp only [toP, PyData.canLay0]
  | .str x, h => by
    simp only [toP, PyData.canLay0, strOk_tx]
    simpa only [okD] using h
  | .nm _, h => by simp only [okD] at h; cases h
  | .dct _ _, h => by simp only [okD] at h; cases h
  | .lst xs, h => by
    simp only [toP, PyData.canLay0]
    exact layPs xs (by simpa only [okD] using h)
  | .tup xs, h => by
    simp only [toP, PyData.canLay0]
    exact layPs xs (by simpa only [okD] using h)
theorem layPs : ∀ ds : List D, okDs ds = true → PyData.canLayAll0 (toPs ds) = true
  | [], _ => by simp only [toPs, PyData.canLayAll0]
  | d :: ds, h => by
    simp only [okDs, Bool.and_eq_true] at h
    simp only [toPs, PyData.canLayAll0, layP d h.1, layPs ds h.2, Bool.and_self]
end
mutual
theorem eqvP : ∀ d e : D, okD d = true → okD e = true → PyData.eqv (toP d) (toP e) = eqD d e := fun d e hd he => by
  cases d with
  | lst xs =>
    cases e with
    | lst ys =>
      simp only [toP, PyData.eqv, eqD]
      exact eqvPs xs ys (by simpa only [okD] using hd) (by simpa only [okD] using he)
    | nm _ => simp only [okD] at he; cases he
    | dct _ _ => simp only [okD] at he; cases he
    | _ => simp only [toP, PyData.eqv, eqD]
  | tup xs =>
    cases e with
    | tup ys =>
      simp only [toP, PyData.eqv, eqD]
      exact eqvPs xs ys (by simpa only [okD] using hd) (by simpa only [okD] using he)
    | nm _ => simp only [okD] at he; cases he
    | dct _ _ => simp only [okD] at he; cases he
    | _ => simp only [toP, PyData.eqv, eqD]
  | nm _ => simp only [okD] at hd; cases hd
  | dct _ _ => simp only [okD] at hd; cases hd
  | str x =>
    cases e with
    | str y =>
      simp only [toP, PyData.eqv, eqD]
      exact tx_beq _ _
    | nm _ => simp only [okD] at he; cases he
    | dct _ _ => simp only [okD] at he; cases he
    | _ => simp only [toP, PyData.eqv, eqD]
  | _ =>
    cases e with
    | nm _ => simp only [okD] at he; cases he
    | dct _ _ => simp only [okD] at he; cases he
    | _ => simp only [toP, PyData.eqv, eqD]
theorem eqvPs : ∀ ds es : List D, okDs ds = true → okDs es = true → PyData.eqvAll (toPs ds) (toPs es) = eqDs ds es
  | [], [], _, _ => by simp only [toPs, PyData.eqvAll, eqDs]
  | [], _ :: _, _, _ => by simp only [toPs, PyData.eqvAll, eqDs]
  | _ :: _, [], _, _ => by simp only [toPs, PyData.eqvAll, eqDs]
  | d :: ds, e :: es, hd, he => by
    simp only [okDs, Bool.and_eq_true] at hd he
    simp only [toPs, PyData.eqvAll, eqDs, eqvP d e hd.1 he.1, eqvPs ds es hd.2 he.2]
end
mutual
theorem Rep.dp {K : PySem.W.Frag} {G H : Hp} (e : Sub G H) : ∀ {d : D} {v : V}, okD d = true → Rep K Γ G d v → Dp K H v (toP d)
  | .non, v, _, h => by simp only [Rep] at h; subst h; simp only [toP]; exact .non
  | .bl b, v, _, h => by simp only [Rep] at h; subst h; simp only [toP]; exact .bl b
  | .int i, v, _, h => by simp only [Rep] at h; subst h; simp only [toP]; exact .int i
  | .str x, v, _, h => by simp only [Rep] at h; subst h; simp only [toP]; exact .str _
  | .nm _, v, h0, _ => by simp only [okD] at h0; cases h0
  | .dct _ _, v, h0, _ => by simp only [okD] at h0; cases h0
  | .lst xs, v, h0, h => by
    simp only [Rep] at h
    obtain ⟨a, vs, rfl, h1, h2⟩ := h
    simp only [toP]
    exact .lst (SqL.of (e _ _ h1)) (RepL.dp e (by simpa only [okD] using h0) h2)
  | .tup xs, v, h0, h => by
    simp only [Rep] at h
    obtain ⟨a, vs, rfl, h1, h2⟩ := h
    simp only [toP]
    exact .tup (e.seqT h1.t) (RepL.dp e (by simpa only [okD] using h0) h2)
theorem RepL.dp {K : PySem.W.Frag} {G H : Hp} (e : Sub G H) : ∀ {ds : List D} {vs : List V}, okDs ds = true → RepL K Γ G ds vs → DpAll K H vs (toPs ds)
  | [], vs, _, h => by simp only [RepL] at h; subst h; simp only [toPs]; exact .nil
  | d :: ds, vs, h0, h => by
    simp only [RepL] at h
    obtain ⟨v, vs', rfl, h1, h2⟩ := h
    simp only [okDs, Bool.and_eq_true] at h0
    simp only [toPs]
    exact .cons (Rep.dp e h0.1 h1) (RepL.dp e h0.2 h2)
end
def okE (d : D) : Bool := okD d && decide (depD d ≤ 64)
theorem okE_shaped {d : D} (h : okE d = true) : okD d = true ∧ SeqAt.shaped (toP d) = true := by
  unfold okE at h
  rw [Bool.and_eq_true] at h
  refine ⟨h.1, ?_⟩
  unfold SeqAt.shaped
  rw [layP d h.1, depP, h.2]
  rfl
def gEq (f : Bool → Bool) : D → D → S → R S D := fun d e s => if okE d = true ∧ okE e = true then .ok (.bl (f (eqD d e))) s else .no
theorem lf_eq (hu : X.A.units + 64 < cLine) : Op2 Γ w W X (compareOp .Eq) (gEq id) := by
  refine ⟨_, op_eqD hu, fun d e x y s σ G H m Q h3 p r1 r2 hp => ?_⟩
  unfold gEq at hp
  split at hp
  · rename_i hc
    obtain ⟨o1, s1⟩ := okE_shaped hc.1
    obtain ⟨o2, s2⟩ := okE_shaped hc.2
    refine ⟨_, _, r1.dp h3.sub o1, r2.dp h3.sub o2, s1, s2, ?_⟩
    rw [eqvP d e o1 o2]
    exact hp.val h3 p (by simp only [Rep]; rfl)
  · exact hp.elim
theorem lf_ne (hu : X.A.units + 64 < cLine) : Op2 Γ w W X (compareOp .NotEq) (gEq not) := by
  refine ⟨_, op_neD hu, fun d e x y s σ G H m Q h3 p r1 r2 hp => ?_⟩
  unfold gEq at hp
  split at hp
  · rename_i hc
    obtain ⟨o1, s1⟩ := okE_shaped hc.1
    obtain ⟨o2, s2⟩ := okE_shaped hc.2
    refine ⟨_, _, r1.dp h3.sub o1, r2.dp h3.sub o2, s1, s2, ?_⟩
    rw [eqvP d e o1 o2]
    exact hp.val h3 p (by simp only [Rep])
  · exact hp.elim
def isNon : D → Bool
  | .non => true
  | _ => false
def gIs (f : Bool → Bool) : D → D → S → R S D := fun d e s => match e with
  | .non => .ok (.bl (f (isNon d))) s
  | _ => .no
theorem non_iff {K : PySem.W.Frag} {G : Hp} {d : D} {v : V} (h : Rep K Γ G d v) : decide (v = .non) = isNon d := by
  cases d <;> simp only [Rep] at h
  · subst h; rfl
  · subst h; rfl
  · subst h; rfl
  · subst h; rfl
  · obtain ⟨a, vs, rfl, _⟩ := h; rfl
  · obtain ⟨a, vs, rfl, _⟩ := h; rfl
  · subst h; rfl
  · obtain ⟨a, o, vs, kk, rfl, _⟩ := h; rfl
theorem lf_is : Op2 Γ w W X (compareOp .Is) (gIs id) := by
  refine ⟨_, op_isN, fun d e x y s σ G H m Q h3 p r1 r2 hp => ?_⟩
  unfold gIs at hp
  split at hp
  · simp only [Rep] at r2
    refine ⟨r2, ?_⟩
    rw [non_iff r1]
    exact hp.val h3 p (by simp only [Rep]; rfl)
  · exact hp.elim
theorem lf_isnot : Op2 Γ w W X (compareOp .IsNot) (gIs not) := by
  refine ⟨_, op_notN, fun d e x y s σ G H m Q h3 p r1 r2 hp => ?_⟩
  unfold gIs at hp
  split at hp
  · simp only [Rep] at r2
    refine ⟨r2, ?_⟩
    rw [non_iff r1]
    exact hp.val h3 p (by simp only [Rep])
  · exact hp.elim

/-! ### in -/
def flD : D → Bool
  | .non | .bl _ | .int _ | .str _ => true
  | _ => false
/-- .. as == of flat ones -/
def inD (x : D) (ys : List D) : Bool := ys.any fun y => eqD y x
theorem flat_of {K : PySem.W.Frag} {G : Hp} {d : D} {v : V} (h : Rep K Γ G d v) (f : flD d = true) : flatV v = true := by
  cases d <;> simp only [Rep] at h <;> simp only [flD] at f <;> first | (subst h; rfl) | cases f
theorem eqV_of {K : PySem.W.Frag} {G : Hp} {d e : D} {v u : V} (h : Rep K Γ G d v) (k : Rep K Γ G e u) (f : flD d = true) (g : flD e = true) : eqV v u = eqD d e := by
  cases d <;> simp only [Rep] at h <;> simp only [flD] at f <;> first | cases f | skip
  all_goals (cases e <;> simp only [Rep] at k <;> simp only [flD] at g <;> first | cases g | skip)
  all_goals (subst h; subst k)
  all_goals simp only [eqV, eqD]
  exact tx_beq _ _
theorem all_flat {K : PySem.W.Frag} {G : Hp} : ∀ {ds : List D} {vs : List V}, RepL K Γ G ds vs → ds.all flD = true → vs.all flatV = true
  | [], vs, h, _ => by simp only [RepL] at h; subst h; rfl
  | d :: ds, vs, h, f => by
    simp only [RepL] at h
    obtain ⟨v, vs', rfl, h1, h2⟩ := h
    simp only [List.all_cons, Bool.and_eq_true] at f ⊢
    exact ⟨flat_of h1 f.1, all_flat h2 f.2⟩
theorem inV_of {K : PySem.W.Frag} {G : Hp} {x : D} {u : V} (k : Rep K Γ G x u) (g : flD x = true) : ∀ {ds : List D} {vs : List V}, RepL K Γ G ds vs → ds.all flD = true → inV u vs = inD x ds
  | [], vs, h, _ => by simp only [RepL] at h; subst h; rfl
  | d :: ds, vs, h, f => by
    simp only [RepL] at h
    obtain ⟨v, vs', rfl, h1, h2⟩ := h
    simp only [List.all_cons, Bool.and_eq_true] at f
    unfold inV inD at *
    rw [List.any_cons, List.any_cons, eqV_of h1 k f.1 g]
    have := inV_of k g h2 f.2
    unfold inV inD at this
    rw [this]
def gIn (f : Bool → Bool) : D → D → S → R S D
  | .str [c], .str z, s => .ok (.bl (f (decide (c ∈ z)))) s
  | x, .lst ys, s => if flD x = true ∧ ys.all flD = true then .ok (.bl (f (inD x ys))) s else .no
  | x, .tup ys, s => if flD x = true ∧ ys.all flD = true then .ok (.bl (f (inD x ys))) s else .no
  | _, _, _ => .no
theorem lf_in : Op2 Γ w W X (compareOp .In) (gIn id) := by
  refine ⟨_, OpR.or op_in_sign op_in_seq, fun d e x y s σ G H m Q h3 p r1 r2 hp => ?_⟩
  unfold gIn at hp
  split at hp
  · simp only [Rep] at r1 r2
    exact .inl ⟨_, _, r1, r2, hp.val h3 p (by simp only [Rep]; rfl)⟩
  · split at hp
    · rename_i hc
      simp only [Rep] at r2
      obtain ⟨p1, vs, rfl, t1, l1⟩ := r2
      refine .inr ⟨p1, vs, rfl, .inl (SqL.of (h3.sub _ _ t1)), flat_of r1 hc.1, all_flat l1 hc.2, ?_⟩
      rw [inV_of r1 hc.1 l1 hc.2]
      exact hp.val h3 p (by simp only [Rep]; rfl)
    · exact hp.elim
  · split at hp
    · rename_i hc
      simp only [Rep] at r2
      obtain ⟨p1, vs, rfl, t1, l1⟩ := r2
      refine .inr ⟨p1, vs, rfl, .inr (h3.sub.seqT t1.t), flat_of r1 hc.1, all_flat l1 hc.2, ?_⟩
      rw [inV_of r1 hc.1 l1 hc.2]
      exact hp.val h3 p (by simp only [Rep]; rfl)
    · exact hp.elim
  · exact hp.elim
theorem lf_notin : Op2 Γ w W X (compareOp .NotIn) (gIn not) := by
  refine ⟨_, OpR.or op_notIn_sign op_notIn_seq, fun d e x y s σ G H m Q h3 p r1 r2 hp => ?_⟩
  unfold gIn at hp
  split at hp
  · simp only [Rep] at r1 r2
    exact .inl ⟨_, _, r1, r2, hp.val h3 p (by simp only [Rep])⟩
  · split at hp
    · rename_i hc
      simp only [Rep] at r2
      obtain ⟨p1, vs, rfl, t1, l1⟩ := r2
      refine .inr ⟨p1, vs, rfl, .inl (SqL.of (h3.sub _ _ t1)), flat_of r1 hc.1, all_flat l1 hc.2, ?_⟩
      rw [inV_of r1 hc.1 l1 hc.2]
      exact hp.val h3 p (by simp only [Rep]; rfl)
    · exact hp.elim
  · split at hp
    · rename_i hc
      simp only [Rep] at r2
      obtain ⟨p1, vs, rfl, t1, l1⟩ := r2
      refine .inr ⟨p1, vs, rfl, .inr (h3.sub.seqT t1.t), flat_of r1 hc.1, all_flat l1 hc.2, ?_⟩
      rw [inV_of r1 hc.1 l1 hc.2]
      exact hp.val h3 p (by simp only [Rep]; rfl)
    · exact hp.elim
  · exact hp.elim
end
end Dm
namespace Dm
open PySem L2
section
variable {S S1 : Type} {Γ : Pm} {w : Wo S} {W : WX} {X : Cx} {pos p2 : Pos} {a b c : Expr} {es : List Expr} {fa fb fc : En → S → R S D}
/-! ### places, slices -/
def gIx : D → D → S → R S D
  | .lst xs, .int i, s => match L2.atI xs i with
    | some d => .ok d s
    | none => .no
  | .tup xs, .int i, s => match L2.atI xs i with
    | some d => .ok d s
    | none => .no
  | .str l, .int i, s => if l.length ≤ sizeLine then match L2.atI l i with
      | some c => .ok (.str [c]) s
      | none => .no
    else .no
  | _, _, _ => .no
theorem lf_ix : Lf2 X.K Γ w W (rIx X.K) gIx := fun d e x y s σ G H m Q h3 p r1 r2 hp => by
  unfold gIx at hp
  split at hp
  · split at hp
    · rename_i e1
      simp only [Rep] at r1 r2
      obtain ⟨p1, vs, rfl, t1, l1⟩ := r1
      obtain ⟨v, h1, h2⟩ := l1.atI e1
      exact .inl ⟨p1, vs, _, v, rfl, r2, SqL.of (h3.sub _ _ t1), h1, hp.val h3 p h2⟩
    · exact hp.elim
  · split at hp
    · rename_i e1
      simp only [Rep] at r1 r2
      obtain ⟨p1, vs, rfl, t1, l1⟩ := r1
      obtain ⟨v, h1, h2⟩ := l1.atI e1
      exact .inr (.inl ⟨p1, vs, _, v, rfl, r2, h3.sub.seqT t1.t, h1, hp.val h3 p h2⟩)
    · exact hp.elim
  · split at hp
    · rename_i hz
      split at hp
      · rename_i e1
        simp only [Rep] at r1 r2
        exact .inr (.inr ⟨_, _, _, r1, r2, by rw [tx_len]; exact hz, e1, hp.val h3 p (by simp only [Rep])⟩)
      · exact hp.elim
    · exact hp.elim
  · exact hp.elim
theorem de_ix (ha : DE Γ w W X a fa) (hb : DE Γ w W X b fb) (hs : PlainIx b := by exact fun _ _ => rfl) : DE Γ w W X (.Subscript a b pos) (f2 gIx fa fb) := by
  obtain ⟨ta, ha, ea⟩ := ha
  obtain ⟨tb, hb, eb⟩ := hb
  exact ⟨_, pe_ix ix_seq ha hb hs, ev_two ea eb lf_ix⟩
structure DO (Γ : Pm) (w : Wo S) (W : WX) (X : Cx) (e : Option Expr) (f : En → S → R S (Option Int)) : Prop where
  ex : ∃ t, PO X e t ∧ Ev X.K Γ w W (fun _ a b => a = b) t f
def oNone : En → S → R S (Option Int) := fun _ s => .ok none s
def oSome (f : En → S → R S D) : En → S → R S (Option Int) := fun η s => (f η s).bind fun x s1 => match x with
  | .int i => .ok (some i) s1
  | _ => .no
theorem do_none : DO Γ w W X none oNone := ⟨_, po_none, fun η s σ G H m Q h3 p e hp => hp G H m none (Ext.refl h3) p rfl⟩
theorem do_some (h : DE Γ w W X a fa) : DO Γ w W X (some a) (oSome fa) := by
  obtain ⟨t, h, ev⟩ := h
  refine ⟨_, po_some h, fun η s σ G H m Q h3 p e hp => ev η s σ G H m _ h3 p e (hp.next fun d1 s1 G1 H1 m1 v1 x1 p1 r1 hp1 => ?_)⟩
  split at hp1
  · simp only [Rep] at r1
    exact ⟨_, r1, hp1 G1 H1 m1 _ (Ext.refl x1.toSt3) p1 rfl⟩
  · exact hp1.elim
theorem cutL_whole {α : Type} {xs : List α} {lo hi : Option Int} (h : HT.sIx xs.length 0 lo = 0 ∧ HT.sIx xs.length xs.length hi = xs.length) : cutL xs lo hi = xs := by
  unfold cutL
  rw [h.1, h.2]
  simp
/-- t[lo:hi]: the whole of it is t itself; else a new one -/
def rSlP (K : PySem.W.Frag) : V → Option Int → Option Int → Hp → VK → Prop := fun x lo hi H Q => ∃ a xs, x = .ref a ∧ SqT K H a xs ∧ (HT.sIx xs.length 0 lo = 0 ∧ HT.sIx xs.length xs.length hi = xs.length → Q (.ref a) H) ∧
  (¬ (HT.sIx xs.length 0 lo = 0 ∧ HT.sIx xs.length xs.length hi = xs.length) → ∀ (p : Addr) (o : Obj), H p = none → o.dict = none → Q (.ref p) (upd H p (.frz o (.tup (cutV xs lo hi)))))
theorem sl_tupP : SlR X (rSlP X.K) := by
  intro pins s σ H x v vl vu lo hi sl Q I rx hs pl pu h
  obtain ⟨a, xs, rfl, hx, q1, q2⟩ := h
  by_cases hw : HT.sIx xs.length 0 lo = 0 ∧ HT.sIx xs.length xs.length hi = xs.length
  · exact sl_tupA pins s σ H _ v vl vu lo hi sl Q I rx hs pl pu ⟨a, xs, rfl, hx, q1, fun n => (n hw).elim⟩
  · cases rx
    obtain ⟨its, r, ht, hz⟩ := I.tuple hx
    have hlen : its.toArray.size = xs.length := by rw [List.size_toArray]; exact r.length.symm
    refine ⟨"tuple", _, PyProof.Rows.slot_tuple_getitem.lookup, ht.typeIs, HT.getItem_tuple_cut ht hs pl pu (by rw [hlen]; exact hw) ?_ (by rw [hlen]; exact hz)⟩
    rw [hlen]
    exact ⟨.ref s.heap.objs.size, _, I.laid (t' := s.toks) (o := .frz _ (.tup (cutV xs lo hi))) (fun b ob q => Heap.get?_push_of_some _ q) (Nat.le_refl _) ⟨Heap.get?_push_size _ rfl, Nat.le_trans (cutV_length xs lo hi) hz, _, (r.drop (HT.sIx xs.length 0 lo)).take (HT.sIx xs.length xs.length hi - HT.sIx xs.length 0 lo), ⟨_, Heap.get?_push_size _ rfl, rfl, _, rfl⟩⟩, rfl,
      q2 hw _ _ (I.hok.fresh (Nat.le_refl _)) rfl⟩
/-- tuple(x) of a list, of a tuple -/
theorem call_tupleP : CallR X (.type "tuple") (fun xs H Q => ∃ p ys, xs = [.ref p] ∧ ((SqL X.K H p ys ∧ ∀ (l : Addr) (o : Obj), H l = none → o.dict = none → Q (.ref l) (upd H l (.frz o (.tup ys)))) ∨ (SqT X.K H p ys ∧ Q (.ref p) H))) := by
  intro pins s σ H xs us Q I r h
  obtain ⟨p, ys, rfl, h⟩ := h
  rcases h with ⟨hq, q⟩ | ⟨hq, q⟩
  · obtain ⟨u, rfl, rx⟩ := vals1 r
    cases rx
    obtain ⟨its, r', pl, hz⟩ := I.list hq
    have hlen := r'.length
    refine PySem.call_tuple_list pl.isList (fun h' kp => ?_) (by simp only [List.size_toArray] <;> omega)
    have I1 : Inv X pins σ H { s with heap := h' } := I.kept (t' := s.toks) kp
    exact ⟨.ref h'.objs.size, _, I1.laid (t' := s.toks) (o := .frz _ (.tup ys)) (fun b o e => Heap.get?_push_of_some _ e) (Nat.le_refl _) ⟨Heap.get?_push_size _ rfl, hz, its, r', ⟨_, Heap.get?_push_size _ rfl, rfl, _, rfl⟩⟩, rfl, q _ _ (I1.hok.fresh (Nat.le_refl _)) rfl⟩
  · exact call_tupleT pins s σ H _ us Q I r ⟨p, ys, rfl, hq, q⟩
def gSl : D → Option Int → Option Int → S → R S D
  | .str l, lo, hi, s => if l.length ≤ sizeLine then .ok (.str (cutL l lo hi)) s else .no
  | .tup xs, lo, hi, s => .ok (.tup (cutL xs lo hi)) s
  | .lst xs, lo, hi, s => .ok (.lst (cutL xs lo hi)) s
  | _, _, _, _ => .no
def fSl (a : En → S → R S D) (l h : En → S → R S (Option Int)) : En → S → R S D := fun η s => (a η s).bind fun x s1 => (l η s1).bind fun lo s2 => (h η s2).bind fun hi s3 => gSl x lo hi s3
theorem de_slice {lo hi : Option Expr} {fl fh : En → S → R S (Option Int)} (ha : DE Γ w W X a fa) (hl : DO Γ w W X lo fl) (hh : DO Γ w W X hi fh) : DE Γ w W X (.Subscript a (.Slice lo hi none p2) pos) (fSl fa fl fh) := by
  obtain ⟨ta, ha, ea⟩ := ha
  obtain ⟨tl, hl, el⟩ := hl
  obtain ⟨th, hh, eh⟩ := hh
  refine ⟨_, pe_slice (SlR.or sl_str (SlR.or sl_tupP sl_list)) ha hl hh, fun η s σ G H m Q h3 p e hp => ea η s σ G H m _ h3 p e (hp.next fun d1 s1 G1 H1 m1 v1 x1 p1 r1 hp1 =>
    el η s1 σ G1 H1 m1 _ x1.toSt3 p1 (e.mono x1.gg) (hp1.next fun lo s2 G2 H2 m2 v2 x2 p2 r2 hp2 =>
      eh η s2 σ G2 H2 m2 _ x2.toSt3 p2 ((e.mono x1.gg).mono x2.gg) (hp2.next fun hi s3 G3 H3 m3 v3 x3 p3 r3 hp3 => ?_)))⟩
  subst r2
  subst r3
  have r1 := (r1.mono x2.gg).mono x3.gg
  unfold gSl at hp3
  split at hp3
  · split at hp3
    · rename_i hz
      simp only [Rep] at r1
      refine .inl ⟨_, r1, by rw [tx_len]; exact hz, ?_⟩
      exact hp3.val x3.toSt3 p3 (by simp only [Rep]; rw [tx_cut])
    · exact hp3.elim
  · simp only [Rep] at r1
    obtain ⟨q1, vs, rfl, t1, l1⟩ := r1
    refine .inr (.inl ⟨q1, vs, rfl, x3.sub.seqT t1.t, fun hw => ?_, fun hw q o hq ho => hp3.newT x3.toSt3 p3 (l1.cut _ _) q o hq ho⟩)
    rw [l1.length] at hw
    rw [cutL_whole hw] at hp3
    exact hp3.val x3.toSt3 p3 (by simp only [Rep]; exact ⟨q1, vs, rfl, t1, l1⟩)
  · simp only [Rep] at r1
    obtain ⟨q1, vs, rfl, t1, l1⟩ := r1
    exact .inr (.inr ⟨q1, vs, rfl, SqL.of (x3.sub _ _ t1), fun q hq => hp3.newL x3.toSt3 p3 (l1.cut _ _) q hq⟩)
  · exact hp3.elim

/-! ### built-ins called -/
def fArgs (g : List D → S → R S D) (fs : En → S → R S (List D)) : En → S → R S D := fun η s => (fs η s).bind fun ds s1 => g ds s1
structure CallL (Γ : Pm) (w : Wo S) (W : WX) (X : Cx) (f : Value) (g : List D → S → R S D) : Prop where
  ex : ∃ r, CallR X f r ∧ ∀ (ds : List D) (vs : List V) (s : S) (σ : L2.St) (G H : Hp) (m : Addr → Prop) (Q : VK), St3 G H m → w.P s G H m → RepL X.K Γ G ds vs → Post Γ w W (Rep X.K Γ) σ G H m (g ds s) Q → r vs H Q
theorem de_callB {x : Str} {p : Pos} {id : String} {g : List D → S → R S D} {fs : En → S → R S (List D)} (hc : CallL Γ w W X (.builtin id) g) (hg : Gl X x) (hm : X.mg x = none) (hv : bootBuiltins x = some (.builtin id)) (ha : DA Γ w W X (a :: es) fs) (hn : x ≠ "__name__" := by decide) (hdb : (x == ("__debug__" : Str)) = false := by decide)
    (he : starEach (a :: es) X.env = (false, eval a X.env) :: starEach es X.env := by rfl) (hpl : (backTo pos (starEach es X.env)).any (·.1) = false := by rfl) : DE Γ w W X (.Call (.Name x p) (a :: es) [] pos) (fArgs g fs) := by
  obtain ⟨t, ha, ea⟩ := ha
  obtain ⟨r, hc, hl⟩ := hc
  exact ⟨_, pe_callB hc hg hm hv ha hn hdb he hpl, fun η s σ G H m Q h3 p e hp => ea η s σ G H m _ h3 p e (hp.next fun d1 s1 G1 H1 m1 v1 x1 p1 r1 hp1 => hl d1 v1 s1 σ G1 H1 m1 Q x1.toSt3 p1 r1 hp1)⟩
theorem de_callT {x : Str} {p : Pos} {T : String} {g : List D → S → R S D} {fs : En → S → R S (List D)} (hc : CallL Γ w W X (.type T) g) (hg : Gl X x) (hm : X.mg x = none) (hv : bootBuiltins x = some (.type T)) (ha : DA Γ w W X (a :: es) fs) (hn : x ≠ "__name__" := by decide) (hdb : (x == ("__debug__" : Str)) = false := by decide)
    (he : starEach (a :: es) X.env = (false, eval a X.env) :: starEach es X.env := by rfl) (hpl : (backTo pos (starEach es X.env)).any (·.1) = false := by rfl) : DE Γ w W X (.Call (.Name x p) (a :: es) [] pos) (fArgs g fs) := by
  obtain ⟨t, ha, ea⟩ := ha
  obtain ⟨r, hc, hl⟩ := hc
  exact ⟨_, pe_callTy hc hg hm hv ha hn hdb he hpl, fun η s σ G H m Q h3 p e hp => ea η s σ G H m _ h3 p e (hp.next fun d1 s1 G1 H1 m1 v1 x1 p1 r1 hp1 => hl d1 v1 s1 σ G1 H1 m1 Q x1.toSt3 p1 r1 hp1)⟩
theorem RepL.one {K : PySem.W.Frag} {G : Hp} {d : D} {vs : List V} (h : RepL K Γ G [d] vs) : ∃ v, vs = [v] ∧ Rep K Γ G d v := by
  simp only [RepL] at h
  obtain ⟨v, vs', rfl, h1, rfl⟩ := h
  exact ⟨v, rfl, h1⟩
theorem RepL.two {K : PySem.W.Frag} {G : Hp} {d e : D} {vs : List V} (h : RepL K Γ G [d, e] vs) : ∃ v u, vs = [v, u] ∧ Rep K Γ G d v ∧ Rep K Γ G e u := by
  simp only [RepL] at h
  obtain ⟨v, vs', rfl, h1, u, us', rfl, h2, rfl⟩ := h
  exact ⟨v, u, rfl, h1, h2⟩
def gLen : List D → S → R S D
  | [.str l], s => if l.length ≤ sizeLine then .ok (.int l.length) s else .no
  | [.lst xs], s => .ok (.int xs.length) s
  | [.tup xs], s => .ok (.int xs.length) s
  | _, _ => .no
theorem cl_len : CallL Γ w W X (.builtin "len") gLen := by
  refine ⟨_, CallR.or call_len_str call_len_seq, fun ds vs s σ G H m Q h3 p r hp => ?_⟩
  unfold gLen at hp
  split at hp
  · split at hp
    · rename_i hz
      obtain ⟨v, rfl, r1⟩ := r.one
      simp only [Rep] at r1
      subst r1
      exact .inl ⟨_, rfl, by rw [tx_len]; exact hz, hp.val h3 p (by simp only [Rep]; rw [tx_len])⟩
    · exact hp.elim
  · obtain ⟨v, rfl, r1⟩ := r.one
    simp only [Rep] at r1
    obtain ⟨p1, vs, rfl, t1, l1⟩ := r1
    exact .inr ⟨p1, vs, rfl, .inl (SqL.of (h3.sub _ _ t1)), hp.val h3 p (by simp only [Rep]; rw [l1.length])⟩
  · obtain ⟨v, rfl, r1⟩ := r.one
    simp only [Rep] at r1
    obtain ⟨p1, vs, rfl, t1, l1⟩ := r1
    exact .inr ⟨p1, vs, rfl, .inr (h3.sub.seqT t1.t), hp.val h3 p (by simp only [Rep]; rw [l1.length])⟩
  · exact hp.elim
/-- tuple(x), list(x) -/
def gTupOf : List D → S → R S D
  | [.lst xs], s => .ok (.tup xs) s
  | [.tup xs], s => .ok (.tup xs) s
  | _, _ => .no
theorem cl_tuple : CallL Γ w W X (.type "tuple") gTupOf := by
  refine ⟨_, call_tupleP, fun ds vs s σ G H m Q h3 p r hp => ?_⟩
  unfold gTupOf at hp
  split at hp
  · obtain ⟨v, rfl, r1⟩ := r.one
    simp only [Rep] at r1
    obtain ⟨p1, vs, rfl, t1, l1⟩ := r1
    exact ⟨p1, vs, rfl, .inl ⟨SqL.of (h3.sub _ _ t1), fun q o hq ho => hp.newT h3 p l1 q o hq ho⟩⟩
  · obtain ⟨v, rfl, r1⟩ := r.one
    simp only [Rep] at r1
    obtain ⟨p1, vs, rfl, t1, l1⟩ := r1
    exact ⟨p1, vs, rfl, .inr ⟨h3.sub.seqT t1.t, hp.val h3 p (by simp only [Rep]; exact ⟨p1, vs, rfl, t1, l1⟩)⟩⟩
  · exact hp.elim
def gLstOf : List D → S → R S D
  | [.lst xs], s => .ok (.lst xs) s
  | [.tup xs], s => .ok (.lst xs) s
  | _, _ => .no
theorem cl_list : CallL Γ w W X (.type "list") gLstOf := by
  refine ⟨_, call_list_of, fun ds vs s σ G H m Q h3 p r hp => ?_⟩
  unfold gLstOf at hp
  split at hp
  · obtain ⟨v, rfl, r1⟩ := r.one
    simp only [Rep] at r1
    obtain ⟨p1, vs, rfl, t1, l1⟩ := r1
    exact ⟨p1, vs, rfl, .inl (SqL.of (h3.sub _ _ t1)), fun q hq => hp.newL h3 p l1 q hq⟩
  · obtain ⟨v, rfl, r1⟩ := r.one
    simp only [Rep] at r1
    obtain ⟨p1, vs, rfl, t1, l1⟩ := r1
    exact ⟨p1, vs, rfl, .inr (h3.sub.seqT t1.t), fun q hq => hp.newL h3 p l1 q hq⟩
  · exact hp.elim
/-- all(xs), any(xs), xs a list of truth values -/
def blsOf : List D → Option (List Bool)
  | [] => some []
  | .bl b :: ds => (blsOf ds).map (b :: ·)
  | _ :: _ => none
theorem blsOf_rep {K : PySem.W.Frag} {G : Hp} : ∀ {ds : List D} {vs : List V} {bs : List Bool}, RepL K Γ G ds vs → blsOf ds = some bs → vs = bs.map V.bl
  | [], vs, bs, h, e => by simp only [RepL] at h; simp only [blsOf] at e; cases e; subst h; rfl
  | d :: ds, vs, bs, h, e => by
    simp only [RepL] at h
    obtain ⟨v, vs', rfl, h1, h2⟩ := h
    cases d with
    | bl b =>
      simp only [blsOf] at e
      cases q : blsOf ds with
      | none => rw [q] at e; cases e
      | some bs' =>
        rw [q] at e
        cases e
        simp only [Rep] at h1
        subst h1
        rw [blsOf_rep h2 q]
        rfl
    | _ => simp only [blsOf] at e; cases e
def gAll (f : List Bool → Bool) : List D → S → R S D
  | [.lst xs], s => match blsOf xs with
    | some bs => .ok (.bl (f bs)) s
    | none => .no
  | _, _ => .no
theorem cl_all (hc : X.calm = true) : CallL Γ w W X (.builtin "all") (gAll fun bs => bs.all id) := by
  refine ⟨_, cr_all hc, fun ds vs s σ G H m Q h3 p r hp => ?_⟩
  unfold gAll at hp
  split at hp
  · split at hp
    · rename_i e1
      obtain ⟨v, rfl, r1⟩ := r.one
      simp only [Rep] at r1
      obtain ⟨p1, vs, rfl, t1, l1⟩ := r1
      have := blsOf_rep l1 e1
      subst this
      exact ⟨p1, _, rfl, SqL.of (h3.sub _ _ t1), hp.val h3 p (by simp only [Rep])⟩
    · exact hp.elim
  · exact hp.elim
theorem cl_any (hc : X.calm = true) : CallL Γ w W X (.builtin "any") (gAll fun bs => bs.any id) := by
  refine ⟨_, cr_any hc, fun ds vs s σ G H m Q h3 p r hp => ?_⟩
  unfold gAll at hp
  split at hp
  · split at hp
    · rename_i e1
      obtain ⟨v, rfl, r1⟩ := r.one
      simp only [Rep] at r1
      obtain ⟨p1, vs, rfl, t1, l1⟩ := r1
      have := blsOf_rep l1 e1
      subst this
      exact ⟨p1, _, rfl, SqL.of (h3.sub _ _ t1), hp.val h3 p (by simp only [Rep])⟩
    · exact hp.elim
  · exact hp.elim
/-! isinstance of a written built-in type -/
inductive Ty where
  | str | tuple | list | int | bool
def Ty.nm : Ty → String
  | .str => "str" | .tuple => "tuple" | .list => "list" | .int => "int" | .bool => "bool"
def isD : Ty → D → Option Bool
  | _, .nm _ => none
  | _, .dct _ _ => none
  | .str, .str _ => some true
  | .tuple, .tup _ => some true
  | .list, .lst _ => some true
  | .int, .int _ => some true
  | .int, .bl _ => some true
  | .bool, .bl _ => some true
  | _, _ => some false
def tyN : D → String
  | .non => "NoneType" | .bl _ => "bool" | .int _ => "int" | .str _ => "str" | .tup _ => "tuple" | .lst _ => "list" | .nm _ => "object" | .dct _ _ => "dict"
theorem isD_kit : ∀ (T : Ty) (d : D) (b : Bool), isD T d = some b → kitB (tyN d) T.nm = some b := fun T d b h => by
  cases T <;> cases d <;> simp only [isD] at h <;> first | (cases h; simp only [tyN, Ty.nm]; decide +kernel) | cases h
theorem tyX_of {K : PySem.W.Frag} {G H : Hp} (e : Sub G H) {T : Ty} {d : D} {v : V} {b : Bool} (h : Rep K Γ G d v) (hi : isD T d = some b) : TyX K H v (.type (tyN d)) := by
  cases d with
  | non => simp only [Rep] at h; subst h; exact .base .non
  | bl _ => simp only [Rep] at h; subst h; exact .base (.bl _)
  | int _ => simp only [Rep] at h; subst h; exact .base (.int _)
  | str _ => simp only [Rep] at h; subst h; exact .base (.str _)
  | nm _ => cases T <;> simp only [isD] at hi <;> cases hi
  | dct _ _ => cases T <;> simp only [isD] at hi <;> cases hi
  | tup xs =>
    simp only [Rep] at h
    obtain ⟨a, vs, rfl, t, _⟩ := h
    rcases t.t with (t | ⟨o, t⟩) | ⟨o, its, n, hk, hc, _⟩
    · exact .base (.tup (e _ _ t))
    · exact .fTuple (e _ _ t)
    · exact .kTuple hk hc
  | lst xs =>
    simp only [Rep] at h
    obtain ⟨a, vs, rfl, t, _⟩ := h
    exact .base (.lst (e _ _ t))
def gIsi (T : Ty) : D → S → R S D := fun d s => match isD T d with
  | some b => .ok (.bl b) s
  | none => .no
theorem de_isi {p q : Pos} {y : Str} (T : Ty) (hg : Gl X "isinstance") (hm : X.mg "isinstance" = none) (hg2 : Gl X y) (hm2 : X.mg y = none) (hv : bootBuiltins y = some (.type T.nm)) (ha : DE Γ w W X a fa) (hn : y ≠ "__name__" := by decide) (hdb : (y == ("__debug__" : Str)) = false := by decide)
    (he : starEach [a, .Name y q] X.env = (false, eval a X.env) :: starEach [.Name y q] X.env := by rfl) (hpl : (backTo pos (starEach [.Name y q] X.env)).any (·.1) = false := by rfl) :
    DE Γ w W X (.Call (.Name "isinstance" p) [a, .Name y q] [] pos) (f1 (gIsi T) fa) := by
  obtain ⟨t, ha, ea⟩ := ha
  refine ⟨_, pe_callB call_isi hg hm PyProof.Rows.boot_isinstance (pa_cons ha (pa_cons (pe_bltn (v := .ty T.nm) hg2 hm2 hv rfl hn hdb) pa_nil) he) (by decide) (by decide) he hpl, fun η s σ G H m Q h3 p e hp => ea η s σ G H m _ h3 p e (hp.next fun d1 s1 G1 H1 m1 v1 x1 p1 r1 hp1 => ?_)⟩
  unfold gIsi at hp1
  split at hp1
  · rename_i hb
    exact ⟨v1, .ty T.nm, _, _, _, rfl, .ty _, tyX_of x1.sub r1 hb, kit_ty (isD_kit T d1 _ hb), hp1.val x1.toSt3 p1 (by simp only [Rep])⟩
  · exact hp1.elim
def gIsi2 (T U : Ty) : D → S → R S D := fun d s => match isD T d, isD U d with
  | some b, some c => .ok (.bl (b || c)) s
  | _, _ => .no
theorem de_isi2 {p q q2 q3 : Pos} {y z : Str} {kk} (T U : Ty) (hg : Gl X "isinstance") (hm : X.mg "isinstance" = none) (hg2 : Gl X y) (hm2 : X.mg y = none) (hv : bootBuiltins y = some (.type T.nm)) (hg3 : Gl X z) (hm3 : X.mg z = none) (hv3 : bootBuiltins z = some (.type U.nm)) (ha : DE Γ w W X a fa)
    (hn : y ≠ "__name__" := by decide) (hdb : (y == ("__debug__" : Str)) = false := by decide) (hn2 : z ≠ "__name__" := by decide) (hdb2 : (z == ("__debug__" : Str)) = false := by decide)
    (he : starEach [a, .Tuple [.Name y q, .Name z q2] kk q3] X.env = (false, eval a X.env) :: starEach [.Tuple [.Name y q, .Name z q2] kk q3] X.env := by rfl) (hpl : (backTo pos (starEach [.Tuple [.Name y q, .Name z q2] kk q3] X.env)).any (·.1) = false := by rfl) :
    DE Γ w W X (.Call (.Name "isinstance" p) [a, .Tuple [.Name y q, .Name z q2] kk q3] [] pos) (f1 (gIsi2 T U) fa) := by
  obtain ⟨t, ha, ea⟩ := ha
  refine ⟨_, pe_callB call_isiT hg hm PyProof.Rows.boot_isinstance (pa_cons ha (pa_cons (pe_tup (pa_cons (pe_bltn (v := .ty T.nm) hg2 hm2 hv rfl hn hdb) (pa_cons (pe_bltn (v := .ty U.nm) hg3 hm3 hv3 rfl hn2 hdb2) pa_nil))) pa_nil) he) (by decide) (by decide) he hpl, fun η s σ G H m Q h3 p e hp => ea η s σ G H m _ h3 p e (hp.next fun d1 s1 G1 H1 m1 v1 x1 p1 r1 hp1 => ?_)⟩
  unfold gIsi2 at hp1
  split at hp1
  · rename_i b c hb hc
    refine ⟨by show 2 ≤ sizeLine; decide, fun tp ht => ⟨v1, tp, _, _, _, b || c, rfl, upd_same, .cons (.ty _) (.cons (.ty _) .nil), tyX_of (fun x o hx => ?_) r1 hb, kitAny_cons (b := b) (kit_ty (isD_kit T d1 _ hb)) (fun hf => kitAny_cons (b := c) (kit_ty (isD_kit U d1 _ hc)) (fun hf2 => ?_) (fun hc2 => ?_)) (fun hb2 => by rw [hb2]; rfl), ?_⟩⟩
    · have q := x1.sub x o hx
      rw [upd_ne (ne_of_none q ht)]
      exact q
    · rw [hf, hf2]
      exact kitAny_nil
    · rw [hf, hc2]; rfl
    · have xn := (Ext.refl x1.toSt3).newO (o := .tup [.ty T.nm, .ty U.nm]) ht
      refine hp1 _ _ _ _ xn (w.stay p1 (Sub.refl _) fun x o hx e => ?_) (by simp only [Rep])
      rw [upd_ne (ne_of_none e ht)]
      exact e
  · exact hp1.elim

/-! ### a def of the text called -/
/-- the promise of a def: its data function -/
def spW (K : PySem.W.Frag) (ca : EK → Addr) (wf : Pm → Wo S) (F : List D → S → R S D) : Sp := fun vs H Q E => ∃ (rho : Nat → Addr) (G : Hp) (m : Addr → Prop) (ds : List D) (s : S), St3 G H m ∧ (wf ⟨rho, ca⟩).P s G H m ∧ RepL K ⟨rho, ca⟩ G ds vs ∧
  Post ⟨rho, ca⟩ (wf ⟨rho, ca⟩) (fun c d _ H' => E c d H') (Rep K ⟨rho, ca⟩) [] G H m (F ds s) Q
structure Fit (w1 : Wo S1) (w : Wo S) (get : S → S1) (put : S → S1 → S) : Prop where
  go : ∀ {s G H m}, St3 G H m → w.P s G H m → ∃ m1 : Addr → Prop, (∀ a, m1 a → m a) ∧ w1.P (get s) G H m1 ∧ ∀ {s1 G' H' m1'}, Ext G H m1 G' H' m1' → w1.P s1 G' H' m1' → ∃ m', Ext G H m G' H' m' ∧ w.P (put s s1) G' H' m'
theorem Fit.same : Fit w w id (fun _ s => s) := ⟨fun h p => ⟨_, fun _ h => h, p, fun x p' => ⟨_, x, p'⟩⟩⟩
theorem Fit.pure : Fit w0 w (fun _ => ()) (fun s _ => s) := ⟨fun {s G H m} h p => ⟨fun _ => False, fun _ z => z.elim, fun _ z => z, fun {s1 G' H' m1'} x p' => ⟨m, ⟨⟨x.sub, fun a ha => by
    cases q : G' a with
    | none => rfl
    | some o => exact absurd (x.newG a (ne_some q) (h.dis a ha)) (h.own a ha), fun a ha => x.there a (h.own a ha)⟩, fun _ h => h, fun a o _ t e => x.nt a o (p' a) t e, x.gg, fun a o _ e => x.keep a o (fun z => z) e, x.newG, fun a ha => .inl ha, x.there⟩, w.stay p x.gg (fun a o _ e => x.keep a o (fun z => z) e) (fun a o t e => x.nt a o (p' a) t e)⟩⟩⟩
def lift (get : S → S1) (put : S → S1 → S) (F : List D → S1 → R S1 D) : List D → S → R S D := fun ds s => match F ds (get s) with
  | .ok d t => .ok d (put s t)
  | .er e t => .er e (put s t)
  | .no => .no
theorem spW_at {K : PySem.W.Frag} {wf : Pm → Wo S1} {F : List D → S1 → R S1 D} {get : S → S1} {put : S → S1 → S} {ds : List D} {vs : List V} {s : S} {σ : L2.St} {G H : Hp} {m : Addr → Prop} {Q : VK} (fit : Fit (wf Γ) w get put) (h3 : St3 G H m) (p : w.P s G H m) (r : RepL K Γ G ds vs)
    (hp : Post Γ w W (Rep K Γ) σ G H m (lift get put F ds s) Q) : spW K Γ.ca wf F vs H Q (fun c d H' => W c d σ H') := by
  obtain ⟨m1, hm, p1, back⟩ := fit.go h3 p
  refine ⟨Γ.rho, G, m1, ds, get s, ⟨h3.sub, fun a h => h3.dis a (hm a h), fun a h => h3.own a (hm a h)⟩, p1, r, ?_⟩
  unfold lift at hp
  cases e : F ds (get s) with
  | ok d t =>
    rw [e] at hp
    intro G' H' m' v x p' rv
    obtain ⟨m2, x2, p2⟩ := back x p'
    exact hp G' H' m2 v x2 p2 rv
  | er e1 t =>
    rw [e] at hp
    intro G' H' m' c d x p' rv
    obtain ⟨m2, x2, p2⟩ := back x p'
    exact hp G' H' m2 c d x2 p2 rv
  | no =>
    rw [e] at hp
    exact hp
theorem de_call {wf : Pm → Wo S1} {F : List D → S1 → R S1 D} {get : S → S1} {put : S → S1 → S} {x : Str} {p : Pos} {k : Nat} {f : Addr} {fd : FuncData} {ps : List Str} {fs : En → S → R S (List D)} (fit : Fit (wf Γ) w get put)
    (G : FnOk X.prog X.w X.K X.mg X.base (L2.CX X.prog X.w) k f fd ps (spW X.K Γ.ca wf F)) (hr : Room k X.A) (hg : Gl X x) (hm : X.mg x = some (.ref f)) (hk : PySem.W.keepIn X.K (.ref f) = true) (hb : Binds X.K fd ps []) (tk : Takes X W)
    (ha : DA Γ w W X (a :: es) fs) (hdb : (x == ("__debug__" : Str)) = false := by decide) (he : starEach (a :: es) X.env = (false, eval a X.env) :: starEach es X.env := by rfl) (hpl : (backTo pos (starEach es X.env)).any (·.1) = false := by rfl) :
    DE Γ w W X (.Call (.Name x p) (a :: es) [] pos) (fArgs (lift get put F) fs) := by
  obtain ⟨t, ha, ea⟩ := ha
  exact ⟨_, pe_callS (E := WE W) G hr hg hm hk hb (fun σ => passAt tk σ) ha hdb he hpl, fun η s σ G H m Q h3 p e hp => ea η s σ G H m _ h3 p e (hp.next fun d1 s1 G1 H1 m1 v1 x1 p1 r1 hp1 => spW_at fit x1.toSt3 p1 r1 hp1)⟩
end
end Dm
/-! enumerate over a tuple, for the layer -/
namespace PySem
open Sem (wp)
theorem meets_enumerate_tupB {v : Value} {o : Obj} {H : Heap → Prop} (B : Begins v o H) :
    Meets (Builtin.«enumerate.__new__» ⟨[.type "enumerate", v], []⟩) (fun _ R s => H s.heap ∧
      R (.ok (.ret (.ref (s.heap.push o).objs.size))) { s with heap := (s.heap.push o).push { cls := .type "enumerate", data := .fields #[.none, .bool false, .ref s.heap.objs.size, rawInt 0, .none, .none] } }) :=
  .of_wp fun prog w A R s h => by
    obtain ⟨hp, g, d, tk, os⟩ := s; obtain ⟨h1, h⟩ := h
    have hsub := sub_enumerate
    have q1 : ∀ {A' : Around} {E : Value → Shared → Prop} {Q : Value → Shared → Prop}, Q (.ref hp.objs.size) ⟨hp.push o, g, d, tk, os⟩ → wpAny (model prog w) A' (pyIter v) Q E ⟨hp, g, d, tk, os⟩ :=
      fun q => B.iter prog w _ _ ⟨hp, g, d, tk, os⟩ _ h1 q
    wp_walk using q1
    refine wpAny_stack_any fun st => wpAny_pure ?_
    split
    · rename_i c _ _ _ _ _
      cases (c == Value.type "enumerate")
      · wp_walk using q1
        exact ⟨_, rfl, h⟩
      · wp_walk using q1
        exact ⟨_, rfl, h⟩
    · wp_walk using q1
      exact ⟨_, rfl, h⟩
theorem call_enumerate_tupB {prog : Program} {w : World} {A : Around} {E : Value → Shared → Prop} {s : Shared} {v : Value} {o : Obj} {H : Heap → Prop} {Q : Value → Shared → Prop} (B : Begins v o H) (h1 : H s.heap)
    (h : ∀ h', IsEnum h' (s.heap.objs.size + 1) s.heap.objs.size 0 .none → h'.get? s.heap.objs.size = some o → h'.objs.size = s.heap.objs.size + 2 →
      (∀ b o, s.heap.get? b = some o → h'.get? b = some o) → Q (.ref (s.heap.objs.size + 1)) { s with heap := h' }) :
    wpAny (model prog w) A (call (.type "enumerate") [v]) Q E s := by
  refine callType_new F.called_enumerate (by decide) (F.typeCall_enumerate_1 _) (F.newCall_enumerate_1 _) (fun obj => F.args_object_init_2 obj _) F.entry_enumerate_new
    (meets_enumerate_tupB B) ⟨h1, ?_⟩
  have hz : (s.heap.push o).objs.size = s.heap.objs.size + 1 := Heap.size_push ..
  show _ ∧ _
  rw [hz]
  have he : IsEnum ((s.heap.push o).push { cls := .type "enumerate", data := .fields #[.none, .bool false, .ref s.heap.objs.size, rawInt 0, .none, .none] }) (s.heap.objs.size + 1) s.heap.objs.size 0 .none := by
    have := Heap.get?_push_size (s.heap.push o) (o := { cls := .type "enumerate", data := .fields #[.none, .bool false, .ref s.heap.objs.size, rawInt 0, .none, .none] }) rfl
    rw [hz] at this; exact this
  refine ⟨⟨_, he, rfl⟩, h _ he (Heap.get?_push_of_some _ (Heap.get?_push_size _ B.free)) (by rw [Heap.size_push, hz]) fun b o x => Heap.get?_push_of_some _ (Heap.get?_push_of_some _ x)⟩
theorem wpAny_pyNext_enum_endT {prog : Program} {w : World} {A : Around} {E : Value → Shared → Prop} {s : Shared} {e it t : Addr} {i : Nat} {k : Int} {items : Array Value} {old : Value} {Q : Option Value → Shared → Prop} (hh : A.handled = none)
    (he : IsEnum s.heap e it k old) (hit : s.heap.IsTupleIter it t i) (ht : s.heap.IsTuple t items) (hx : items[i]? = none)
    (hQ : ∀ h', Heap.ExtBut it s.heap h' → Q none { s with heap := h' }) : wpAny (model prog w) A (pyNext (.ref e)) Q E s := by
  have hT : s.TypeIs (.ref e) "enumerate" := ⟨_, he, rfl⟩
  unfold pyNext
  refine wpAny_bind (wpAny_attempt (wpAny_callSpecial?_slot (name := Str.ofString "__next__") hT F.slot_enumerate_next
    (wpAny_call_entry F.slot_enumerate_next hT F.entry_enumerate_next ?_ (F.args_enumerate_next_1 _))))
  show wpAny _ _ (field (.ref e) 2 >>= _) _ _ _
  refine wpAny_bind (wpAny_field he rfl (x := .ref it) rfl ?_)
  refine wpAny_bind (wpAny_nextOf_tuple_end hh hit ht hx fun h' x he' hx' => ?_)
  obtain ⟨o, ho, hc⟩ := hx'
  refine wpAny_bind (wpAny_isInstance (T := "StopIteration") (b := true) ⟨o, ho, hc⟩ isSubtype_stop ?_)
  exact wpAny_pure (hQ _ he')
end PySem
namespace L2
open PySem PySem.Spec PyProof.Rows
def Itet (K : PySem.W.Frag) (a : Addr) : It :=
  ⟨fun i H => ∃ (xs : List V) (x : V), SqT K H a xs ∧ xs[i]? = some x, fun i H v H' => ∃ (T : Addr) (x : V) (o : Obj), v = .ref T ∧ H T = none ∧ o.dict = none ∧ H' = upd H T (.frz o (.tup [.int (i : Nat), x])) ∧ ∀ xs, SqT K H a xs → xs[i]? = some x, fun i H => ∃ xs : List V, SqT K H a xs ∧ xs.length ≤ i⟩
theorem turn_enumT {P : Program} {w : World} {K : PySem.W.Frag} {elts : List Expr} {kk : Nat} {tpos : Pos} (a e it : Addr) :
    Turn P w K (.Tuple elts kk tpos) (Itet K a) [e, it] e (fun i h => (∃ old, IsEnum h e it ((i : Nat) : Int) old) ∧ h.IsTupleIter it a i ∧ e ≠ it) where
  mem := by simp
  obj := fun i h st b hb => by
    obtain ⟨⟨old, he⟩, ⟨o, ho, hc, hd⟩, _⟩ := st
    have e' : b = e ∨ b = it := by simpa using hb
    rcases e' with z | z
    · rw [z]; exact ⟨_, he, fun v q => nomatch q⟩
    · rw [z]; exact ⟨o, ho, fun v q => by rw [hd] at q; cases q⟩
  keep := fun i h h' st k => let ⟨⟨old, he⟩, hi, hne⟩ := st; ⟨⟨old, k e (by simp) _ he⟩, hi.at fun o q => k it (by simp) o q, hne⟩
  item := by
    intro X hP hw hK hc i pins s σ H E I hf st hg
    subst hP hw hK
    obtain ⟨⟨old, he⟩, hit, hne⟩ := st
    obtain ⟨xs, x, hq, hx⟩ := hg
    obtain ⟨its, rv, p, hz⟩ := I.tuple hq
    obtain ⟨u, hu, ru⟩ := rv.get hx
    have hel : e < s.heap.objs.size := Heap.lt_size he
    have hil : it < s.heap.objs.size := by obtain ⟨_, q, _⟩ := hit; exact Heap.lt_size q
    have hta : a ≠ it := fun z => by
      obtain ⟨o1, q1, c1, _⟩ := hit
      obtain ⟨o2, q2, c2, _⟩ := p
      rw [z, q1] at q2
      cases q2
      rw [c1] at c2
      exact absurd (Value.type.inj c2) (by decide)
    have hae : e ≠ a := fun z => by
      obtain ⟨o2, q2, c2, _⟩ := p
      have he2 : s.heap.get? e = some _ := he
      rw [z, q2] at he2
      have := Option.some.inj he2
      rw [this] at c2
      exact absurd (Value.type.inj c2) (by decide)
    have Dr := Draws.tuple (prog := X.prog) (w := X.w) (A := X.A.in1) (I.ok.hd hc) it a hta its.toArray
    have hlt : i < its.toArray.size := by
      have := (List.getElem?_eq_some_iff.mp hu).1
      simpa using this
    refine wpAny_pyNext_enum_itemC Dr he ⟨hit, p⟩ hlt hne (by simp [hne, hae]) fun x' h' tk hPx ho hst' hT hsz hk => ?_
    have ex : x' = u := by
      have e1 : its.toArray[i]? = some x' := hPx
      rw [List.getElem?_toArray, hu] at e1
      exact (Option.some.inj e1).symm
    subst ex
    have hit' := hst'.1
    refine ⟨_, rfl, wpAny_letOwnedTupleGo_enum (s := { s with heap := h', toks := tk + 1 }) ho fun h'' he' sb => ?_⟩
    have hT2 : h''.get? s.heap.objs.size = some { cls := .type "tuple", data := .seq #[.int i tk, x'] } := (sb.2 _ (Nat.ne_of_gt hel)).trans hT
    have new : ObjOk X.prog X.w (upd H s.heap.objs.size (.frz { cls := .type "tuple", data := .seq #[.int i tk, x'] } (.tup [.int (i : Nat), x]))) h'' s.heap.objs.size (.frz { cls := .type "tuple", data := .seq #[.int i tk, x'] } (.tup [.int (i : Nat), x])) :=
      ⟨hT2, by show 2 ≤ sizeLine; decide, [.int i tk, x'], .cons ⟨_, rfl⟩ (.cons ru .nil), ⟨_, hT2, rfl, _, rfl⟩⟩
    have I1 : Inv X pins σ (upd H s.heap.objs.size (.frz { cls := .type "tuple", data := .seq #[.int i tk, x'] } (.tup [.int (i : Nat), x]))) { s with heap := h'', toks := tk + 1 } :=
      I.turnedNew (ch := [e, it]) (fun b ob hb q => (sb.2 b (fun z => hb (by simp [z]))).trans (hk b ob (fun z => hb (by simp [z])) (fun z => hb (by simp [z])) q)) hf (Nat.le_refl _) new
    refine ⟨.ref s.heap.objs.size, _, I1, rfl, ⟨_, x, _, rfl, I.hok.fresh (Nat.le_refl _), rfl, rfl, fun ys hy => by rw [I.tuple_inj hy hq]; exact hx⟩, ⟨⟨x', ?_⟩, hit'.at fun o q => (sb.2 it (Ne.symm hne)).trans q, hne⟩, fun b hb => ?_⟩
    · have e1 : ((i + 1 : Nat) : Int) = (i : Int) + 1 := by omega
      rw [e1]; exact he'
    · have hb' : b < s.heap.objs.size := by
        have e' : b = e ∨ b = it := by simpa using hb
        rcases e' with z | z
        · rw [z]; exact hel
        · rw [z]; exact hil
      rw [upd_ne (Nat.ne_of_lt hb')]
      exact (hf b hb).1
  done := by
    intro X hP hw hK hc i pins s σ H E I hf st hg
    subst hP hw hK
    obtain ⟨⟨old, he⟩, hit, hne⟩ := st
    obtain ⟨xs, hq, hx⟩ := hg
    obtain ⟨its, rv, p, hz⟩ := I.tuple hq
    obtain ⟨f0, f1, f2, f3, f4, f5⟩ := hf it (by simp)
    have hl := rv.length
    have hta : a ≠ it := fun z => by
      obtain ⟨o1, q1, c1, _⟩ := hit
      obtain ⟨o2, q2, c2, _⟩ := p
      rw [z, q1] at q2
      cases q2
      rw [c1] at c2
      exact absurd (Value.type.inj c2) (by decide)
    refine wpAny_pyNext_enum_endT (I.ok.hd hc) he hit p (by simp; omega) fun h' eb => ⟨rfl, I.turned (t' := s.toks) (fun b o hb q => eb b o hb q) f0 f1 f3 f4 f5⟩
  self := fun A i s Q E st h => let ⟨⟨_, he⟩, _⟩ := st; wpAny_pyIter_enum he h
def iEnumT (K : PySem.W.Frag) (ta : TA) : TI := fun σ H R => ta σ H fun vs H1 => ∃ a xs, vs = [.ref a] ∧ SqT K H1 a xs ∧ R (Itet K a) H1
theorem pi_enumT {X : Cx} {e : Expr} {ta : TA} {p pos tpos : Pos} {elts : List Expr} {kk : Nat} (hg : Gl X "enumerate") (hm : X.mg "enumerate" = none) (ha : PA X [e] ta) (hs : starEach [e] X.env = [(false, eval e X.env)] := by rfl) :
    PI X (.Tuple elts kk tpos) (.Call (.Name "enumerate" p) [e] [] pos) (iEnumT X.K ta) := by
  refine ⟨fun pins s σ H R I h => ?_⟩
  refine Call_ (ld_blt I hg hm boot_enumerate (PyProof.Rows.callWith_type1 (thn (ha.run pos pins s σ H _ I h) fun us s1 ⟨vs, H1, I1, r1, q1⟩ => ?_) hs rfl))
  obtain ⟨a, xs, ex, hq, q⟩ := q1
  subst ex
  cases r1 with
  | cons r rr =>
    cases rr
    cases r
    obtain ⟨its, rv, p', hz⟩ := I1.tuple hq
    refine call_enumerate_tupB (begins_tuple a its.toArray) p' fun h' he hit hsz hk => wpAny_pyIter_enum he ?_
    have I2 : Inv X pins σ H1 { s1 with heap := h' } := I1.kept (t' := s1.toks) hk
    refine ⟨s1.heap.objs.size + 1, [s1.heap.objs.size + 1, s1.heap.objs.size], _, _, H1, rfl, I2, turn_enumT a (s1.heap.objs.size + 1) s1.heap.objs.size, ⟨⟨.none, he⟩, ⟨_, hit, rfl, rfl⟩, Nat.succ_ne_self _⟩, fun b hb => ?_, q⟩
    have e' : b = s1.heap.objs.size + 1 ∨ b = s1.heap.objs.size := by simpa using hb
    have hle : s1.heap.objs.size ≤ b := by
      rcases e' with z | z
      · rw [z]; exact Nat.le_add_right _ _
      · rw [z]; exact Nat.le_refl _
    exact I1.fpOk hle (I1.hok.fresh hle)
def Itel (K : PySem.W.Frag) (a : Addr) : It :=
  ⟨fun i H => ∃ (xs : List V) (x : V), SqL K H a xs ∧ xs[i]? = some x, fun i H v H' => ∃ (T : Addr) (x : V) (o : Obj), v = .ref T ∧ H T = none ∧ o.dict = none ∧ H' = upd H T (.frz o (.tup [.int (i : Nat), x])) ∧ ∀ xs, SqL K H a xs → xs[i]? = some x, fun i H => ∃ xs : List V, SqL K H a xs ∧ xs.length ≤ i⟩
theorem turn_enumL {P : Program} {w : World} {K : PySem.W.Frag} {elts : List Expr} {kk : Nat} {tpos : Pos} (a e it : Addr) :
    Turn P w K (.Tuple elts kk tpos) (Itel K a) [e, it] e (fun i h => (∃ old, IsEnum h e it ((i : Nat) : Int) old) ∧ h.IsListIter it a i ∧ e ≠ it) where
  mem := by simp
  obj := fun i h st b hb => by
    obtain ⟨⟨old, he⟩, ⟨o, ho, hc, hd⟩, _⟩ := st
    have e' : b = e ∨ b = it := by simpa using hb
    rcases e' with z | z
    · rw [z]; exact ⟨_, he, fun v q => nomatch q⟩
    · rw [z]; exact ⟨o, ho, fun v q => by rw [hd] at q; cases q⟩
  keep := fun i h h' st k => let ⟨⟨old, he⟩, hi, hne⟩ := st; ⟨⟨old, k e (by simp) _ he⟩, hi.at fun o q => k it (by simp) o q, hne⟩
  item := by
    intro X hP hw hK hc i pins s σ H E I hf st hg
    subst hP hw hK
    obtain ⟨⟨old, he⟩, hit, hne⟩ := st
    obtain ⟨xs, x, hq, hx⟩ := hg
    obtain ⟨its, rv, p, hz⟩ := I.list hq
    obtain ⟨u, hu, ru⟩ := rv.get hx
    have hel : e < s.heap.objs.size := Heap.lt_size he
    have hil : it < s.heap.objs.size := by obtain ⟨_, q, _⟩ := hit; exact Heap.lt_size q
    have hta : a ≠ it := fun z => by
      obtain ⟨o1, q1, c1, _⟩ := hit
      obtain ⟨o2, q2, c2, _⟩ := p.isList
      rw [z, q1] at q2
      cases q2
      rw [c1] at c2
      exact absurd (Value.type.inj c2) (by decide)
    have hae : e ≠ a := fun z => by
      obtain ⟨o2, q2, c2, _⟩ := p.isList
      have he2 : s.heap.get? e = some _ := he
      rw [z, q2] at he2
      have := Option.some.inj he2
      rw [this] at c2
      exact absurd (Value.type.inj c2) (by decide)
    have Dr := Draws.list (prog := X.prog) (w := X.w) (A := X.A.in1) (I.ok.hd hc) it a hta its.toArray
    have hlt : i < its.toArray.size := by
      have := (List.getElem?_eq_some_iff.mp hu).1
      simpa using this
    refine wpAny_pyNext_enum_itemC Dr he ⟨hit, p.isList⟩ hlt hne (by simp [hne, hae]) fun x' h' tk hPx ho hst' hT hsz hk => ?_
    have ex : x' = u := by
      have e1 : its.toArray[i]? = some x' := hPx
      rw [List.getElem?_toArray, hu] at e1
      exact (Option.some.inj e1).symm
    subst ex
    have hit' := hst'.1
    refine ⟨_, rfl, wpAny_letOwnedTupleGo_enum (s := { s with heap := h', toks := tk + 1 }) ho fun h'' he' sb => ?_⟩
    have hT2 : h''.get? s.heap.objs.size = some { cls := .type "tuple", data := .seq #[.int i tk, x'] } := (sb.2 _ (Nat.ne_of_gt hel)).trans hT
    have new : ObjOk X.prog X.w (upd H s.heap.objs.size (.frz { cls := .type "tuple", data := .seq #[.int i tk, x'] } (.tup [.int (i : Nat), x]))) h'' s.heap.objs.size (.frz { cls := .type "tuple", data := .seq #[.int i tk, x'] } (.tup [.int (i : Nat), x])) :=
      ⟨hT2, by show 2 ≤ sizeLine; decide, [.int i tk, x'], .cons ⟨_, rfl⟩ (.cons ru .nil), ⟨_, hT2, rfl, _, rfl⟩⟩
    have I1 : Inv X pins σ (upd H s.heap.objs.size (.frz { cls := .type "tuple", data := .seq #[.int i tk, x'] } (.tup [.int (i : Nat), x]))) { s with heap := h'', toks := tk + 1 } :=
      I.turnedNew (ch := [e, it]) (fun b ob hb q => (sb.2 b (fun z => hb (by simp [z]))).trans (hk b ob (fun z => hb (by simp [z])) (fun z => hb (by simp [z])) q)) hf (Nat.le_refl _) new
    refine ⟨.ref s.heap.objs.size, _, I1, rfl, ⟨_, x, _, rfl, I.hok.fresh (Nat.le_refl _), rfl, rfl, fun ys hy => by rw [I.list_inj hy hq]; exact hx⟩, ⟨⟨x', ?_⟩, hit'.at fun o q => (sb.2 it (Ne.symm hne)).trans q, hne⟩, fun b hb => ?_⟩
    · have e1 : ((i + 1 : Nat) : Int) = (i : Int) + 1 := by omega
      rw [e1]; exact he'
    · have hb' : b < s.heap.objs.size := by
        have e' : b = e ∨ b = it := by simpa using hb
        rcases e' with z | z
        · rw [z]; exact hel
        · rw [z]; exact hil
      rw [upd_ne (Nat.ne_of_lt hb')]
      exact (hf b hb).1
  done := by
    intro X hP hw hK hc i pins s σ H E I hf st hg
    subst hP hw hK
    obtain ⟨⟨old, he⟩, hit, hne⟩ := st
    obtain ⟨xs, hq, hx⟩ := hg
    obtain ⟨its, rv, p, hz⟩ := I.list hq
    obtain ⟨f0, f1, f2, f3, f4, f5⟩ := hf it (by simp)
    have hl := rv.length
    have hta : a ≠ it := fun z => by
      obtain ⟨o1, q1, c1, _⟩ := hit
      obtain ⟨o2, q2, c2, _⟩ := p.isList
      rw [z, q1] at q2
      cases q2
      rw [c1] at c2
      exact absurd (Value.type.inj c2) (by decide)
    refine wpAny_pyNext_enum_end (I.ok.hd hc) he hit p.isList (by simp; omega) fun h' eb => ⟨rfl, I.turned (t' := s.toks) (fun b o hb q => eb b o hb q) f0 f1 f3 f4 f5⟩
  self := fun A i s Q E st h => let ⟨⟨_, he⟩, _⟩ := st; wpAny_pyIter_enum he h
def iEnumL (K : PySem.W.Frag) (ta : TA) : TI := fun σ H R => ta σ H fun vs H1 => ∃ a xs, vs = [.ref a] ∧ SqL K H1 a xs ∧ R (Itel K a) H1
theorem pi_enumL {X : Cx} {e : Expr} {ta : TA} {p pos tpos : Pos} {elts : List Expr} {kk : Nat} (hg : Gl X "enumerate") (hm : X.mg "enumerate" = none) (ha : PA X [e] ta) (hs : starEach [e] X.env = [(false, eval e X.env)] := by rfl) :
    PI X (.Tuple elts kk tpos) (.Call (.Name "enumerate" p) [e] [] pos) (iEnumL X.K ta) := by
  refine ⟨fun pins s σ H R I h => ?_⟩
  refine Call_ (ld_blt I hg hm boot_enumerate (PyProof.Rows.callWith_type1 (thn (ha.run pos pins s σ H _ I h) fun us s1 ⟨vs, H1, I1, r1, q1⟩ => ?_) hs rfl))
  obtain ⟨a, xs, ex, hq, q⟩ := q1
  subst ex
  cases r1 with
  | cons r rr =>
    cases rr
    cases r
    obtain ⟨its, rv, p', hz⟩ := I1.list hq
    refine call_enumerate_tupB (begins_list a its.toArray) p'.isList fun h' he hit hsz hk => wpAny_pyIter_enum he ?_
    have I2 : Inv X pins σ H1 { s1 with heap := h' } := I1.kept (t' := s1.toks) hk
    refine ⟨s1.heap.objs.size + 1, [s1.heap.objs.size + 1, s1.heap.objs.size], _, _, H1, rfl, I2, turn_enumL a (s1.heap.objs.size + 1) s1.heap.objs.size, ⟨⟨.none, he⟩, ⟨_, hit, rfl, rfl⟩, Nat.succ_ne_self _⟩, fun b hb => ?_, q⟩
    have e' : b = s1.heap.objs.size + 1 ∨ b = s1.heap.objs.size := by simpa using hb
    have hle : s1.heap.objs.size ≤ b := by
      rcases e' with z | z
      · rw [z]; exact Nat.le_add_right _ _
      · rw [z]; exact Nat.le_refl _
    exact I1.fpOk hle (I1.hok.fresh hle)
end L2
namespace Dm
open PySem L2
section
variable {S : Type} {Γ : Pm} {w : Wo S} {W : WX} {X : Cx} {pos p2 : Pos} {a b c : Expr} {es : List Expr} {fa fb fc : En → S → R S D}
/-! ### what is walked -/
structure Wk (K : PySem.W.Frag) (Γ : Pm) (J : It) (G : Hp) (items : List D) : Prop where
  go : ∀ (i : Nat) (H : Hp), Sub G H → i < items.length → J.go i H
  stop : ∀ (H : Hp), Sub G H → J.stop items.length H
  yld : ∀ (i : Nat) (H : Hp) (x : V) (H' : Hp) (d : D), Sub G H → items[i]? = some d → J.yld i H x H' →
    (H' = H ∧ Rep K Γ G d x) ∨ ∃ (q : Addr) (o : Obj) (vs : List V) (ds : List D), H q = none ∧ o.dict = none ∧ H' = upd H q (.frz o (.tup vs)) ∧ d = .tup ds ∧ x = .ref q ∧ RepL K Γ G ds vs
theorem RepL.get' {K : PySem.W.Frag} {G : Hp} {ds : List D} {vs : List V} (h : RepL K Γ G ds vs) {i : Nat} (hi : i < ds.length) : ∃ v, vs[i]? = some v := by
  obtain ⟨v, e, _⟩ := h.get (List.getElem?_eq_getElem hi)
  exact ⟨v, e⟩
theorem wk_list {K : PySem.W.Frag} {G : Hp} {q : Addr} {vs : List V} {ds : List D} (h : G q = some (.lst vs)) (r : RepL K Γ G ds vs) : Wk K Γ (Itl K q) G ds where
  go := fun i H e hi => by
    obtain ⟨v, hv⟩ := r.get' hi
    exact ⟨vs, v, SqL.of (e _ _ h), hv⟩
  stop := fun H e => ⟨vs, SqL.of (e _ _ h), by rw [r.length]; exact Nat.le_refl _⟩
  yld := fun i H x H' d e hd hy => by
    obtain ⟨e1, y⟩ := hy
    obtain ⟨v, hv, rv⟩ := r.get hd
    have := y vs (SqL.of (e _ _ h))
    rw [hv] at this
    cases this
    exact .inl ⟨e1, rv⟩
theorem wk_tup {K : PySem.W.Frag} {G : Hp} {q : Addr} {vs : List V} {ds : List D} (h : SqT K G q vs) (r : RepL K Γ G ds vs) : Wk K Γ (Itt K q) G ds where
  go := fun i H e hi => by
    obtain ⟨v, hv⟩ := r.get' hi
    exact ⟨vs, v, e.seqT h, hv⟩
  stop := fun H e => ⟨vs, e.seqT h, by rw [r.length]; exact Nat.le_refl _⟩
  yld := fun i H x H' d e hd hy => by
    obtain ⟨e1, y⟩ := hy
    obtain ⟨v, hv, rv⟩ := r.get hd
    have := y vs (e.seqT h)
    rw [hv] at this
    cases this
    exact .inl ⟨e1, rv⟩
def signs (l : List Nat) : List D := l.map fun c => .str [c]
theorem wk_str {K : PySem.W.Frag} {G : Hp} {l : List Nat} : Wk K Γ (Its (tx l)) G (signs l) where
  go := fun i H e hi => by
    show i < (tx l).length
    rw [tx_len]
    simpa [signs] using hi
  stop := fun H e => by
    show (tx l).length ≤ _
    rw [tx_len]
    simp [signs]
  yld := fun i H x H' d e hd hy => by
    obtain ⟨e1, c, hc, rfl⟩ := hy
    refine .inl ⟨e1, ?_⟩
    have h1 : l[i]? = some c := by
      have : (l.toArray)[i]? = some c := hc
      simpa using this
    unfold signs at hd
    rw [List.getElem?_map, h1] at hd
    cases hd
    simp only [Rep]
def rngD (lo : Int) : Nat → List D
  | 0 => []
  | n + 1 => .int lo :: rngD (lo + 1) n
theorem rngD_len : ∀ (n : Nat) (lo : Int), (rngD lo n).length = n
  | 0, _ => rfl
  | n + 1, lo => by simp only [rngD, List.length_cons, rngD_len n]
theorem rngD_at : ∀ (n : Nat) (lo : Int) (i : Nat), i < n → (rngD lo n)[i]? = some (.int (lo + i))
  | 0, _, _, h => by omega
  | n + 1, lo, 0, _ => by simp [rngD]
  | n + 1, lo, i + 1, h => by
    simp only [rngD, List.getElem?_cons_succ]
    rw [rngD_at n (lo + 1) i (by omega)]
    congr 2
    omega
theorem wk_range {K : PySem.W.Frag} {G : Hp} {lo : Int} {n : Nat} : Wk K Γ (Itr lo n) G (rngD lo n) where
  go := fun i H e hi => by rw [rngD_len] at hi; exact hi
  stop := fun H e => by show n ≤ _; rw [rngD_len]; exact Nat.le_refl _
  yld := fun i H x H' d e hd hy => by
    obtain ⟨e1, rfl⟩ := hy
    refine .inl ⟨e1, ?_⟩
    have hi : i < n := by
      have := (List.getElem?_eq_some_iff.mp hd).1
      rw [rngD_len] at this
      exact this
    rw [rngD_at n lo i hi] at hd
    cases hd
    simp only [Rep]
def pairs : Nat → List D → List D
  | _, [] => []
  | k, x :: xs => .tup [.int k, x] :: pairs (k + 1) xs
theorem pairs_len : ∀ (xs : List D) (k : Nat), (pairs k xs).length = xs.length
  | [], _ => rfl
  | x :: xs, k => by simp only [pairs, List.length_cons, pairs_len xs]
theorem pairs_at : ∀ (xs : List D) (k i : Nat) (d : D), (pairs k xs)[i]? = some d → ∃ x, xs[i]? = some x ∧ d = .tup [.int ((k + i : Nat) : Int), x]
  | [], _, _, _, h => by simp [pairs] at h
  | x :: xs, k, 0, d, h => by
    simp only [pairs, List.getElem?_cons_zero] at h
    cases h
    exact ⟨x, rfl, rfl⟩
  | x :: xs, k, i + 1, d, h => by
    simp only [pairs, List.getElem?_cons_succ] at h
    obtain ⟨y, h1, h2⟩ := pairs_at xs (k + 1) i d h
    refine ⟨y, by simpa using h1, ?_⟩
    rw [h2]
    congr 3
    omega
theorem wk_enumT {K : PySem.W.Frag} {G : Hp} {q : Addr} {vs : List V} {ds : List D} (h : SqT K G q vs) (r : RepL K Γ G ds vs) : Wk K Γ (Itet K q) G (pairs 0 ds) where
  go := fun i H e hi => by
    rw [pairs_len] at hi
    obtain ⟨v, hv⟩ := r.get' hi
    exact ⟨vs, v, e.seqT h, hv⟩
  stop := fun H e => ⟨vs, e.seqT h, by rw [r.length, pairs_len]; exact Nat.le_refl _⟩
  yld := fun i H x H' d e hd hy => by
    obtain ⟨T, y, o, rfl, hT, ho, e1, hy⟩ := hy
    obtain ⟨z, hz, rfl⟩ := pairs_at _ _ _ _ hd
    obtain ⟨v, hv, rv⟩ := r.get hz
    have := hy vs (e.seqT h)
    rw [hv] at this
    cases this
    refine .inr ⟨T, o, _, _, hT, ho, e1, rfl, rfl, RepL.cons ?_ (RepL.cons rv RepL.nil)⟩
    simp only [Rep]
    congr 1
    simp
theorem wk_enumL {K : PySem.W.Frag} {G : Hp} {q : Addr} {vs : List V} {ds : List D} (h : G q = some (.lst vs)) (r : RepL K Γ G ds vs) : Wk K Γ (Itel K q) G (pairs 0 ds) where
  go := fun i H e hi => by
    rw [pairs_len] at hi
    obtain ⟨v, hv⟩ := r.get' hi
    exact ⟨vs, v, SqL.of (e _ _ h), hv⟩
  stop := fun H e => ⟨vs, SqL.of (e _ _ h), by rw [r.length, pairs_len]; exact Nat.le_refl _⟩
  yld := fun i H x H' d e hd hy => by
    obtain ⟨T, y, o, rfl, hT, ho, e1, hy⟩ := hy
    obtain ⟨z, hz, rfl⟩ := pairs_at _ _ _ _ hd
    obtain ⟨v, hv, rv⟩ := r.get hz
    have := hy vs (SqL.of (e _ _ h))
    rw [hv] at this
    cases this
    refine .inr ⟨T, o, _, _, hT, ho, e1, rfl, rfl, RepL.cons ?_ (RepL.cons rv RepL.nil)⟩
    simp only [Rep]
    congr 1
    simp

structure DI (Γ : Pm) (w : Wo S) (W : WX) (X : Cx) (tg iter : Expr) (f : En → S → R S (List D)) : Prop where
  ex : ∃ wi, PI X tg iter wi ∧ Ev X.K Γ w W (fun G items J => Wk X.K Γ J G items) wi f
theorem PI.or {tg iter : Expr} {w1 w2 : TI} (h1 : PI X tg iter w1) (h2 : PI X tg iter w2) : PI X tg iter (fun σ H R => w1 σ H R ∨ w2 σ H R) :=
  ⟨fun pins s σ H R I h => h.elim (fun q => h1.run pins s σ H R I q) fun q => h2.run pins s σ H R I q⟩
/-- over a value: a list, a tuple, a text -/
def itemsOf : D → Option (List D)
  | .lst xs => some xs
  | .tup xs => some xs
  | .str l => some (signs l)
  | _ => none
def fItems (f : En → S → R S D) : En → S → R S (List D) := fun η s => (f η s).bind fun x s1 => match itemsOf x with
  | some xs => .ok xs s1
  | none => .no
theorem PE.or {e : Expr} {t1 t2 : TE} (h1 : PE X e t1) (h2 : PE X e t2) : PE X e (fun σ H Q => t1 σ H Q ∨ t2 σ H Q) :=
  ⟨fun pins s σ H Q I h => h.elim (fun q => h1.run pins s σ H Q I q) fun q => h2.run pins s σ H Q I q⟩
/-- one reading of the walked value, whatever it is -/
theorem pi_any {tg l : Expr} {tl : TE} (hl : PE X l tl) : PI X tg l (fun σ H R => tl σ H fun x H1 => (∃ q, x = .ref q ∧ (∃ xs, SqL X.K H1 q xs) ∧ R (Itl X.K q) H1) ∨ (∃ q, x = .ref q ∧ (∃ xs, SqT X.K H1 q xs) ∧ R (Itt X.K q) H1) ∨ ∃ z, x = .str z ∧ R (Its z) H1) := by
  refine ⟨fun pins s σ H R I h => ?_⟩
  refine thn (hl.run pins s σ H _ I h) fun v s1 ⟨x, H1, I1, r1, q1⟩ => ?_
  rcases q1 with q1 | q1 | q1
  · obtain ⟨a, e, ⟨xs, hq⟩, q⟩ := q1
    subst e
    cases r1
    obtain ⟨its, rv, p, hz⟩ := I1.list hq
    refine wpAny_pyIter_list p.isList ?_
    refine ⟨s1.heap.objs.size, [s1.heap.objs.size], _, _, H1, rfl, I1.kept (t' := s1.toks) fun b o e => Heap.get?_push_of_some _ e, turn_list a _, ⟨_, Heap.get?_push_size _ rfl, rfl, rfl⟩, fun b hb => ?_, q⟩
    have e : b = s1.heap.objs.size := by simpa using hb
    subst e
    exact I1.fpOk (Nat.le_refl _) (I1.hok.fresh (Nat.le_refl _))
  · obtain ⟨a, e, ⟨xs, hq⟩, q⟩ := q1
    subst e
    cases r1
    obtain ⟨its, rv, p, hz⟩ := I1.tuple hq
    refine wpAny_pyIter_tuple (show s1.heap.IsTuple a its.toArray from p) ?_
    refine ⟨s1.heap.objs.size, [s1.heap.objs.size], _, _, H1, rfl, I1.kept (t' := s1.toks) fun b o e => Heap.get?_push_of_some _ e, turn_tuple a _, ⟨_, Heap.get?_push_size _ rfl, rfl, rfl⟩, fun b hb => ?_, q⟩
    have e : b = s1.heap.objs.size := by simpa using hb
    subst e
    exact I1.fpOk (Nat.le_refl _) (I1.hok.fresh (Nat.le_refl _))
  · obtain ⟨x, ex, q⟩ := q1
    subst ex
    obtain ⟨t, rfl⟩ := r1
    cases ha : x.cps.all (· < 128)
    · exact wpAny_pyIter_wide ha (pi_one (tk := s1.toks) I1 _ (turn_str _ x t "str_iterator" (.inr rfl)) ⟨_, Heap.get?_push_size _ rfl, rfl, rfl⟩ q)
    · exact wpAny_pyIter_ascii ha (pi_one (tk := s1.toks) I1 _ (turn_str _ x t "str_ascii_iterator" (.inl rfl)) ⟨_, Heap.get?_push_size _ rfl, rfl, rfl⟩ q)
theorem di_val {tg : Expr} (h : DE Γ w W X a fa) : DI Γ w W X tg a (fItems fa) := by
  obtain ⟨t, h, ev⟩ := h
  refine ⟨_, pi_any h, fun η s σ G H m Q h3 p e hp => ev η s σ G H m _ h3 p e (hp.next fun d1 s1 G1 H1 m1 v1 x1 p1 r1 hp1 => ?_)⟩
  split at hp1
  · rename_i xs hx
    cases d1 <;> simp only [itemsOf] at hx <;> cases hx
    · simp only [Rep] at r1
      exact .inr (.inr ⟨_, r1, hp1 G1 H1 m1 _ (Ext.refl x1.toSt3) p1 wk_str⟩)
    · simp only [Rep] at r1
      obtain ⟨q1, vs, rfl, t1, l1⟩ := r1
      exact .inr (.inl ⟨q1, rfl, ⟨vs, x1.sub.seqT t1.t⟩, hp1 G1 H1 m1 _ (Ext.refl x1.toSt3) p1 (wk_tup t1.t l1)⟩)
    · simp only [Rep] at r1
      obtain ⟨q1, vs, rfl, t1, l1⟩ := r1
      exact .inl ⟨q1, rfl, ⟨vs, SqL.of (x1.sub _ _ t1)⟩, hp1 G1 H1 m1 _ (Ext.refl x1.toSt3) p1 (wk_list t1 l1)⟩
  · exact hp1.elim
def okR (i : Int) : Bool := decide (-(2 ^ 62) ≤ i ∧ i < 2 ^ 62)
def fRng1 (fs : En → S → R S (List D)) : En → S → R S (List D) := fun η s => (fs η s).bind fun xs s1 => match xs with
  | [.int j] => if okR j = true then .ok (rngD 0 j.toNat) s1 else .no
  | _ => .no
def fRng2 (fs : En → S → R S (List D)) : En → S → R S (List D) := fun η s => (fs η s).bind fun xs s1 => match xs with
  | [.int i, .int j] => if okR i = true ∧ okR j = true then .ok (rngD i (j - i).toNat) s1 else .no
  | _ => .no
theorem di_range1 {tg : Expr} {p : Pos} {fs : En → S → R S (List D)} (hg : Gl X "range") (hm : X.mg "range" = none) (ha : DA Γ w W X [a] fs) (hs : starEach [a] X.env = [(false, eval a X.env)] := by rfl) : DI Γ w W X tg (.Call (.Name "range" p) [a] [] pos) (fRng1 fs) := by
  obtain ⟨t, h, ev⟩ := ha
  refine ⟨_, pi_range1 hg hm h hs, fun η s σ G H m Q h3 p e hp => ev η s σ G H m _ h3 p e (hp.next fun d1 s1 G1 H1 m1 v1 x1 p1 r1 hp1 => ?_)⟩
  split at hp1
  · split at hp1
    · rename_i hb
      obtain ⟨v, rfl, rv⟩ := r1.one
      simp only [Rep] at rv
      subst rv
      obtain ⟨b1, b2⟩ := of_decide_eq_true hb
      exact ⟨_, rfl, b1, b2, hp1 G1 H1 m1 _ (Ext.refl x1.toSt3) p1 wk_range⟩
    · exact hp1.elim
  · exact hp1.elim
theorem di_range2 {tg : Expr} {p : Pos} {fs : En → S → R S (List D)} (hg : Gl X "range") (hm : X.mg "range" = none) (ha : DA Γ w W X [a, b] fs) (hs : starEach [a, b] X.env = [(false, eval a X.env), (false, eval b X.env)] := by rfl) (hs2 : starEach [b] X.env = [(false, eval b X.env)] := by rfl) :
    DI Γ w W X tg (.Call (.Name "range" p) [a, b] [] pos) (fRng2 fs) := by
  obtain ⟨t, h, ev⟩ := ha
  refine ⟨_, pi_range2 hg hm h hs hs2, fun η s σ G H m Q h3 p e hp => ev η s σ G H m _ h3 p e (hp.next fun d1 s1 G1 H1 m1 v1 x1 p1 r1 hp1 => ?_)⟩
  split at hp1
  · split at hp1
    · rename_i hb
      obtain ⟨v, u, rfl, rv, ru⟩ := r1.two
      simp only [Rep] at rv ru
      subst rv
      subst ru
      obtain ⟨b1, b2⟩ := of_decide_eq_true hb.1
      obtain ⟨b3, b4⟩ := of_decide_eq_true hb.2
      exact ⟨_, _, rfl, ⟨b1, b2, b3, b4⟩, hp1 G1 H1 m1 _ (Ext.refl x1.toSt3) p1 wk_range⟩
    · exact hp1.elim
  · exact hp1.elim
def fEnum (fs : En → S → R S (List D)) : En → S → R S (List D) := fun η s => (fs η s).bind fun xs s1 => match xs with
  | [.tup ds] => .ok (pairs 0 ds) s1
  | [.lst ds] => .ok (pairs 0 ds) s1
  | _ => .no
theorem di_enum {p tpos : Pos} {elts : List Expr} {kk : Nat} {fs : En → S → R S (List D)} (hg : Gl X "enumerate") (hm : X.mg "enumerate" = none) (ha : DA Γ w W X [a] fs) (hs : starEach [a] X.env = [(false, eval a X.env)] := by rfl) :
    DI Γ w W X (.Tuple elts kk tpos) (.Call (.Name "enumerate" p) [a] [] pos) (fEnum fs) := by
  obtain ⟨t, h, ev⟩ := ha
  refine ⟨_, PI.or (pi_enumT hg hm h hs) (pi_enumL hg hm h hs), fun η s σ G H m Q h3 p e hp => ?_⟩
  unfold fEnum at hp
  cases hf : fs η s with
  | no =>
    rw [hf] at hp
    exact hp.elim
  | er e1 s1 =>
    rw [hf] at hp
    left
    refine ev η s σ G H m _ h3 p e ?_
    rw [hf]
    exact hp
  | ok xs s1 =>
    rw [hf] at hp
    simp only [R.bind] at hp
    split at hp
    · rename_i ds
      left
      refine ev η s σ G H m _ h3 p e ?_
      rw [hf]
      intro G' H' m' v x' p' r'
      obtain ⟨v1, rfl, r1⟩ := r'.one
      simp only [Rep] at r1
      obtain ⟨q1, vs, rfl, t1, l1⟩ := r1
      exact ⟨q1, vs, rfl, x'.sub.seqT t1.t, hp G' H' m' _ x' p' (wk_enumT t1.t l1)⟩
    · rename_i ds
      right
      refine ev η s σ G H m _ h3 p e ?_
      rw [hf]
      intro G' H' m' v x' p' r'
      obtain ⟨v1, rfl, r1⟩ := r'.one
      simp only [Rep] at r1
      obtain ⟨q1, vs, rfl, t1, l1⟩ := r1
      exact ⟨q1, vs, rfl, SqL.of (x'.sub _ _ t1), hp G' H' m' _ x' p' (wk_enumL t1 l1)⟩
    · exact hp.elim
end
end Dm
namespace Dm
open PySem L2
/-! ### targets -/
inductive Tg where
  | nm (i : Nat) | tp (is : List Nat)
def setAll : List Nat → List D → En → Option En
  | [], [], η => some η
  | i :: is, d :: ds, η => if i < η.length then setAll is ds (η.set i (some d)) else none
  | _, _, _ => none
def setT : Tg → D → En → Option En
  | .nm i, d, η => setAll [i] [d] η
  | .tp is, .tup ds, η => setAll is ds η
  | _, _, _ => none
def setV : List Nat → List V → L2.St → L2.St
  | i :: is, x :: xs, σ => setV is xs (σ.set i (some x))
  | _, _, σ => σ
def Tg.slots : Tg → List Nat
  | .nm i => [i]
  | .tp is => is
def TgTo (K : PySem.W.Frag) (T : Tg) (v : V) (σ : L2.St) (H : Hp) (Q : L2.St → Hp → Prop) : Prop := match T with
  | .nm i => Q (setV [i] [v] σ) H
  | .tp is => ∃ a xs, v = .ref a ∧ SqT K H a xs ∧ xs.length = is.length ∧ Q (setV is xs σ) H
structure DG (X : Cx) (tg : Expr) (T : Tg) : Prop where
  ex : ∃ t, PG X tg t ∧ ∀ v σ H Q, TgTo X.K T v σ H Q → t v σ H Q
structure DGs (X : Cx) (es : List Expr) (is : List Nat) : Prop where
  ex : ∃ t, PGs X es t ∧ ∀ vs σ H Q, vs.length = is.length → Q (setV is vs σ) H → t vs σ H Q
section
variable {S : Type} {Γ : Pm} {w : Wo S} {W : WX} {X : Cx} {pos p2 : Pos} {a b c : Expr} {es : List Expr} {fa fb fc : En → S → R S D}
theorem dg_name (i : Nat) {x : Str} (hN : X.N.Nodup) (hi : X.N[i]? = some x) (hx : Loc X.env.scope x) (hf : X.fn x = true ∨ X.env.scope.names.lookup x = some .local := by first | exact .inl rfl | exact .inr rfl | assumption) : DG X (.Name x pos) (.nm i) :=
  ⟨_, pg_name hN hi hx hf, fun v σ H Q h => h⟩
theorem dgs_nil : DGs X [] [] := ⟨_, pgs_nil, fun vs σ H Q hl h => by
  cases vs with
  | nil => exact ⟨rfl, h⟩
  | cons => cases hl⟩
theorem dgs_cons {e : Expr} {i : Nat} {is : List Nat} (h1 : DG X e (.nm i)) (h2 : DGs X es is) (hs : (assignEach (e :: es) X.env).map (·.2) = assign e X.env :: (assignEach es X.env).map (·.2) := by rfl) : DGs X (e :: es) (i :: is) := by
  obtain ⟨t, h1, k1⟩ := h1
  obtain ⟨u, h2, k2⟩ := h2
  refine ⟨_, pgs_cons h1 h2 hs, fun vs σ H Q hl h => ?_⟩
  cases vs with
  | nil => cases hl
  | cons v vs => exact ⟨v, vs, rfl, k1 _ _ _ _ (k2 _ _ _ _ (by simpa using hl) h)⟩
theorem dg_tup {is : List Nat} {k : Nat} (hc : X.calm = true) (h : DGs X es is) (hn : (assignEach es X.env).length = is.length := by rfl) (hst : (assignEach es X.env).findIdx? (·.1) = none := by rfl) : DG X (.Tuple es k pos) (.tp is) := by
  obtain ⟨t, h, kk⟩ := h
  exact ⟨_, pg_tup hc h hn hst, fun v σ H Q ⟨q, xs, e, hs, hl, hq⟩ => ⟨q, xs, e, hs, hl, kk _ _ _ _ hl hq⟩⟩

theorem RepE.set1 {K : PySem.W.Frag} {G : Hp} {σ : L2.St} {η : En} {i : Nat} {d : D} {v : V} (e : RepE K Γ G σ η) (hi : i < η.length) (r : Rep K Γ G d v) : RepE K Γ G (σ.set i (some v)) (η.set i (some d)) := by
  refine ⟨by rw [List.length_set, List.length_set]; exact e.1, fun j y hj => ?_⟩
  by_cases hji : i = j
  · subst hji
    rw [List.getElem?_set_self hi] at hj
    cases hj
    exact ⟨v, List.getElem?_set_self (by rw [e.1]; exact hi), r⟩
  · rw [List.getElem?_set_ne hji] at hj ⊢
    exact e.2 j y hj
theorem RepE.setAll {K : PySem.W.Frag} {G : Hp} : ∀ {is : List Nat} {ds : List D} {vs : List V} {σ : L2.St} {η η' : En}, RepE K Γ G σ η → Dm.setAll is ds η = some η' → RepL K Γ G ds vs → RepE K Γ G (setV is vs σ) η'
  | [], [], vs, σ, η, η', e, h, r => by
    simp only [Dm.setAll] at h
    cases h
    simp only [RepL] at r
    subst r
    exact e
  | i :: is, d :: ds, vs, σ, η, η', e, h, r => by
    simp only [Dm.setAll] at h
    split at h
    · rename_i hi
      simp only [RepL] at r
      obtain ⟨v, vs', rfl, r1, r2⟩ := r
      show RepE K Γ G (setV is vs' (σ.set i (some v))) η'
      exact RepE.setAll (e.set1 hi r1) h r2
    · cases h
  | [], d :: ds, _, _, _, _, _, h, _ => by simp only [Dm.setAll] at h; cases h
  | i :: is, [], _, _, _, _, _, h, _ => by simp only [Dm.setAll] at h; cases h
/-- the target's store told -/
theorem setT_to {K : PySem.W.Frag} {G H : Hp} {T : Tg} {d : D} {v : V} {σ : L2.St} {η η' : En} {Q : L2.St → Hp → Prop} (hs : Sub G H) (r : Rep K Γ G d v) (e : RepE K Γ G σ η) (h : setT T d η = some η')
    (q : ∀ vs, RepE K Γ G (setV T.slots vs σ) η' → Q (setV T.slots vs σ) H) : TgTo K T v σ H Q := by
  cases T with
  | nm i =>
    exact q [v] (RepE.setAll e h (RepL.cons r RepL.nil))
  | tp is =>
    cases d <;> simp only [setT] at h <;> first | cases h | skip
    rename_i ds
    simp only [Rep] at r
    obtain ⟨a, vs, rfl, t1, l1⟩ := r
    have hl : ∀ {is : List Nat} {ds : List D} {η η' : En}, Dm.setAll is ds η = some η' → ds.length = is.length := by
      intro is
      induction is with
      | nil =>
        intro ds η η' h
        cases ds with
        | nil => rfl
        | cons => simp only [Dm.setAll] at h; cases h
      | cons i is ih =>
        intro ds η η' h
        cases ds with
        | nil => simp only [Dm.setAll] at h; cases h
        | cons d ds =>
          simp only [Dm.setAll] at h
          split at h
          · simp only [List.length_cons, ih h]
          · cases h
    exact ⟨a, vs, rfl, hs.seqT t1.t, by rw [l1.length]; exact hl h, q vs (RepE.setAll e h l1)⟩
theorem wipe_set {σ : L2.St} {i : Nat} {o : Option V} : ∀ {own : List Nat}, i ∈ own → wipe (σ.set i o) own = wipe σ own
  | j :: own, h => by
    unfold wipe
    by_cases hij : i = j
    · subst hij
      have : ∀ (own : List Nat) (σ : L2.St), (wipe (σ.set i o) own).set i none = (wipe σ own).set i none := by
        intro own
        induction own with
        | nil => intro σ; simp only [wipe, List.set_set]
        | cons k own ih =>
          intro σ
          unfold wipe
          by_cases hk : k = i
          · subst hk
            rw [List.set_set, List.set_set]
            exact ih σ
          · rw [List.set_comm _ _ hk, ih σ, List.set_comm _ _ (Ne.symm hk)]
      exact this own σ
    · rcases List.mem_cons.mp h with z | z
      · exact absurd z hij
      · rw [wipe_set z]
theorem wipe_setV {own : List Nat} : ∀ {is : List Nat} {vs : List V} {σ : L2.St}, (∀ i ∈ is, i ∈ own) → wipe (setV is vs σ) own = wipe σ own
  | [], vs, σ, _ => by cases vs <;> rfl
  | i :: is, [], σ, _ => rfl
  | i :: is, v :: vs, σ, h => by
    simp only [setV]
    rw [wipe_setV fun j hj => h j (List.mem_cons_of_mem _ hj)]
    exact wipe_set (h i List.mem_cons_self)
def wipeE (η : En) : List Nat → En
  | [] => η
  | v :: vs => (wipeE η vs).set v none
theorem wipeE_len (η : En) : ∀ vs : List Nat, (wipeE η vs).length = η.length
  | [] => rfl
  | v :: vs => by unfold wipeE; rw [List.length_set, wipeE_len η vs]
theorem RepE.wipe {K : PySem.W.Frag} {G : Hp} {σ : L2.St} {η : En} (e : RepE K Γ G σ η) : ∀ vs : List Nat, RepE K Γ G (L2.wipe σ vs) (wipeE η vs)
  | [] => e
  | v :: vs => by
    have ih := RepE.wipe e vs
    unfold L2.wipe wipeE
    refine ⟨by rw [List.length_set, List.length_set]; exact ih.1, fun j y hj => ?_⟩
    by_cases hji : v = j
    · subst hji
      by_cases hl : v < (wipeE η vs).length
      · rw [List.getElem?_set_self hl] at hj; cases hj
      · rw [List.getElem?_eq_none (by simpa using hl)] at hj; cases hj
    · rw [List.getElem?_set_ne hji] at hj ⊢
      exact ih.2 j y hj

/-! ### comprehensions -/
def R.calm {S α : Type} : R S α → R S α
  | .ok a s => .ok a s
  | _ => .no
def compL (T : Tg) (c : En → S → R S Bool) (e : En → S → R S D) (η : En) : List D → S → R S (List D)
  | [], s => .ok [] s
  | x :: xs, s => match setT T x η with
    | none => .no
    | some η1 => ((c η1 s).calm).bind fun b s1 => match b with
      | true => ((e η1 s1).calm).bind fun y s2 => (compL T c e η xs s2).bind fun ys s3 => .ok (y :: ys) s3
      | false => compL T c e η xs s1
def fComp (fi : En → S → R S (List D)) (T : Tg) (own : List Nat) (c : En → S → R S Bool) (e : En → S → R S D) : En → S → R S D := fun η s => (fi η s).bind fun items s1 =>
  if items.length ≤ sizeLine then (compL T c e (wipeE η own) items s1).bind fun ys s2 => .ok (.lst ys) s2 else .no
abbrev WF : WX := fun _ _ _ _ => False
section
variable {α β γ δ' : Type} {Rel : Hp → α → β → Prop} {Rel2 : Hp → γ → δ' → Prop} {σ σ' : L2.St} {G0 H0 G H : Hp} {m0 m : Addr → Prop} {r : R S α} {k : α → S → R S γ} {Q : β → Hp → Prop} {Q2 : δ' → Hp → Prop}
theorem Post.nextA (hp : Post Γ w W Rel2 σ G0 H0 m0 (r.bind k) Q2) (x : Ext G0 H0 m0 G H m)
    (h : ∀ d s1 G1 H1 m1 v, Ext G H m G1 H1 m1 → w.P s1 G1 H1 m1 → Rel G1 d v → Post Γ w W Rel2 σ G0 H0 m0 (k d s1) Q2 → Q v H1) : Post Γ w W Rel σ G H m r Q := by
  cases r with
  | ok d s => exact fun G' H' m' v e' p r => h d s G' H' m' v e' p r hp
  | er e1 s => exact fun G' H' m' c d e' p r => hp G' H' m' c d (x.trans e') p r
  | no => exact hp
theorem Post.nextC (hp : Post Γ w W Rel2 σ G0 H0 m0 (r.calm.bind k) Q2)
    (h : ∀ d s1 G1 H1 m1 v, Ext G H m G1 H1 m1 → w.P s1 G1 H1 m1 → Rel G1 d v → Post Γ w W Rel2 σ G0 H0 m0 (k d s1) Q2 → Q v H1) : Post Γ w WF Rel σ' G H m r Q := by
  cases r with
  | ok d s => exact fun G' H' m' v e' p r => h d s G' H' m' v e' p r hp
  | er x s => exact (show False from hp).elim
  | no => exact hp
end
theorem R.assoc {α β γ : Type} (r : R S α) (f : α → S → R S β) (g : β → S → R S γ) : (r.bind f).bind g = r.bind fun a s => (f a s).bind g := by cases r <;> rfl
theorem wipe_wipe (l : List Nat) (σ : L2.St) : L2.wipe (L2.wipe σ l) l = L2.wipe σ l := by
  have aux : ∀ (l2 : List Nat), (∀ j ∈ l2, j ∈ l) → L2.wipe (L2.wipe σ l2) l = L2.wipe σ l := by
    intro l2
    induction l2 with
    | nil => intro _; rfl
    | cons j l2 ih =>
      intro hj
      show L2.wipe ((L2.wipe σ l2).set j none) l = _
      rw [wipe_set (hj j List.mem_cons_self)]
      exact ih fun k hk => hj k (List.mem_cons_of_mem _ hk)
  exact aux l fun _ h => h
structure DTs (Γ : Pm) (w : Wo S) (W : WX) (X : Cx) (es : List Expr) (f : En → S → R S Bool) : Prop where
  ex : ∃ t, PTs X es t ∧ Ev X.K Γ w W (fun _ a b => a = b) t f
def bYes : En → S → R S Bool := fun _ s => .ok true s
theorem dts_nil : DTs Γ w W X [] bYes := ⟨_, pts_nil, fun η s σ G H m Q h3 p e hp => hp.valB h3 p⟩
theorem dts_one {gc : En → S → R S Bool} (h : DB Γ w W X c gc) : DTs Γ w W X [c] gc := by
  obtain ⟨t, h, ev⟩ := h
  exact ⟨_, pts_one h, ev⟩
/-- one reading for a family of contexts -/
theorem de_fam {ι : Type} {Xc : ι → Cx} {K : PySem.W.Frag} {e : Expr} {f : En → S → R S D} (hK : ∀ i, (Xc i).K = K) (h : ∀ i, DE Γ w W (Xc i) e f) : ∃ t, (∀ i, PE (Xc i) e t) ∧ Ev K Γ w W (Rep K Γ) t f := by
  refine ⟨fun σ H Q => ∀ i, Classical.choose (h i).ex σ H Q, fun i => ⟨fun pins s σ H Q I hq => (Classical.choose_spec (h i).ex).1.run pins s σ H Q I (hq i)⟩, fun η s σ G H m Q h3 p e hp i => ?_⟩
  have q := (Classical.choose_spec (h i).ex).2
  show Classical.choose (h i).ex σ H Q
  generalize Classical.choose (h i).ex = t0 at q
  rw [hK i] at q
  exact q η s σ G H m Q h3 p e hp
theorem dts_fam {ι : Type} {Xc : ι → Cx} {K : PySem.W.Frag} {f : En → S → R S Bool} (hK : ∀ i, (Xc i).K = K) (h : ∀ i, DTs Γ w W (Xc i) es f) : ∃ t, (∀ i, PTs (Xc i) es t) ∧ Ev K Γ w W (fun _ a b => a = b) t f := by
  refine ⟨fun σ H Q => ∀ i, Classical.choose (h i).ex σ H Q, fun i => ⟨fun pins s σ H Q I hq => (Classical.choose_spec (h i).ex).1.run pins s σ H Q I (hq i)⟩, fun η s σ G H m Q h3 p e hp i => ?_⟩
  have q := (Classical.choose_spec (h i).ex).2
  show Classical.choose (h i).ex σ H Q
  generalize Classical.choose (h i).ex = t0 at q
  rw [hK i] at q
  exact q η s σ G H m Q h3 p e hp
theorem dg_fam {ι : Type} {Xc : ι → Cx} {K : PySem.W.Frag} {tg : Expr} {T : Tg} (hK : ∀ i, (Xc i).K = K) (h : ∀ i, DG (Xc i) tg T) : ∃ t, (∀ i, PG (Xc i) tg t) ∧ ∀ v σ H Q, TgTo K T v σ H Q → t v σ H Q := by
  refine ⟨fun v σ H Q => ∀ i, Classical.choose (h i).ex v σ H Q, fun i => ⟨fun pins s σ H v u Q I r hq => (Classical.choose_spec (h i).ex).1.run pins s σ H v u Q I r (hq i)⟩, fun v σ H Q hq i => ?_⟩
  have q := (Classical.choose_spec (h i).ex).2
  show Classical.choose (h i).ex v σ H Q
  generalize Classical.choose (h i).ex = t0 at q
  rw [hK i] at q
  exact q v σ H Q hq
theorem Ext.mut {G H G1 H1 : Hp} {m m1 : Addr → Prop} {p : Addr} {o : HO} (a : Ext G H m G1 H1 m1) (hp : H p = none) (hg : G1 p = none) (hm : ¬ m1 p) (ho : isPl o = true := by rfl) : Ext G H m G1 (upd H1 p o) m1 where
  mm := a.mm
  nt := fun x o h t e => a.nt x o h t (nt_upd ho x o t e)
  sub := fun x u e => by
    have hx : x ≠ p := fun z => by rw [z, hg] at e; cases e
    rw [upd_ne hx]; exact a.sub x u e
  dis := a.dis
  own := fun x h => by
    have hx : x ≠ p := fun z => hm (z ▸ h)
    rw [upd_ne hx]; exact a.own x h
  gg := a.gg
  keep := fun x u h e => by
    have hx : x ≠ p := fun z => by rw [z, hp] at e; cases e
    rw [upd_ne hx]; exact a.keep x u h e
  newG := a.newG
  newM := a.newM
  there := fun x h => by
    by_cases hx : x = p
    · subst hx; rw [upd_same]; exact fun z => nomatch z
    · rw [upd_ne hx]; exact a.there x h
theorem Ext.freeze {G H G1 H1 : Hp} {m m1 : Addr → Prop} {p : Addr} {o : HO} (a : Ext G H m G1 H1 m1) (hp : H p = none) (h1 : H1 p = some o) (hg : G1 p = none) (hm : ¬ m1 p) : Ext G H m (upd G1 p o) H1 m1 where
  mm := a.mm
  nt := a.nt
  sub := fun x u e => by
    by_cases hx : x = p
    · subst hx; rw [upd_same] at e; rw [h1]; exact e
    · rw [upd_ne hx] at e; exact a.sub x u e
  dis := fun x h => by
    have hx : x ≠ p := fun z => hm (z ▸ h)
    rw [upd_ne hx]; exact a.dis x h
  own := a.own
  gg := fun x u e => by
    have q := a.gg x u e
    have hx : x ≠ p := fun z => by rw [z, hg] at q; cases q
    rw [upd_ne hx]; exact q
  keep := a.keep
  newG := fun x h2 h3 => by
    by_cases hx : x = p
    · subst hx; exact hp
    · rw [upd_ne hx] at h2; exact a.newG x h2 h3
  newM := a.newM
  there := a.there
theorem Ext.addr_m {G H G1 H1 : Hp} {m m1 : Addr → Prop} {p : Addr} (a : Ext G H m G1 H1 m1) (h1 : H p ≠ none) (hm : ¬ m p) : ¬ m1 p := fun z => by
  rcases a.newM p z with q | q
  · exact hm q
  · exact h1 q
theorem Ext.addr_g {G H G1 H1 : Hp} {m m1 : Addr → Prop} {p : Addr} (a : Ext G H m G1 H1 m1) (h1 : H p ≠ none) (hg : G p = none) : G1 p = none := by
  cases q : G1 p with
  | none => rfl
  | some o => exact absurd (a.newG p (ne_some q) hg) h1
structure LcOk (X : Cx) (tg iter : Expr) (ifs : List Expr) (elt : Expr) (scope : Scope) (wi : TI) (g : TG) (tt : TT) (te : TE) : Prop where
  pi : PI X tg iter wi
  pg : ∀ (s : Shared) (H : Hp) (C : Addr) (cl : List (Str × Addr)) (fp : List Addr), PG (X.blk s H scope (compEnvC scope cl C X.env) fp) tg g
  pt : ∀ (s : Shared) (H : Hp) (C : Addr) (cl : List (Str × Addr)) (fp : List Addr), PTs (X.blk s H scope (compEnvC scope cl C X.env) fp) ifs tt
  pe : ∀ (s : Shared) (H : Hp) (C : Addr) (cl : List (Str × Addr)) (fp : List Addr), PE (X.blk s H scope (compEnvC scope cl C X.env) fp) elt te
/-- the reading of a comprehension -/
theorem lc_ev {tg iter : Expr} {ifs : List Expr} {scope : Scope} {own : List Nat} {T : Tg} {fi : En → S → R S (List D)} {gc : En → S → R S Bool} (hi : DI Γ w W X tg iter fi) (hown : ∀ i ∈ T.slots, i ∈ own)
    (hg : ∀ (s : Shared) (H : Hp) (C : Addr) (cl : List (Str × Addr)) (fp : List Addr), DG (X.blk s H scope (compEnvC scope cl C X.env) fp) tg T) (ht : ∀ (s : Shared) (H : Hp) (C : Addr) (cl : List (Str × Addr)) (fp : List Addr), DTs Γ w WF (X.blk s H scope (compEnvC scope cl C X.env) fp) ifs gc)
    (he : ∀ (s : Shared) (H : Hp) (C : Addr) (cl : List (Str × Addr)) (fp : List Addr), DE Γ w WF (X.blk s H scope (compEnvC scope cl C X.env) fp) a fa) :
    ∃ wi g tt te, LcOk X tg iter ifs a scope wi g tt te ∧ Ev X.K Γ w W (Rep X.K Γ) (tLc wi g tt te own) (fComp fi T own gc fa) := by
  obtain ⟨wi, hi, evi⟩ := hi
  obtain ⟨g, hg', kg⟩ := dg_fam (ι := Shared × Hp × Addr × List (Str × Addr) × List Addr) (Xc := fun i => X.blk i.1 i.2.1 scope (compEnvC scope i.2.2.2.1 i.2.2.1 X.env) i.2.2.2.2) (K := X.K) (fun _ => rfl) fun i => hg i.1 i.2.1 i.2.2.1 i.2.2.2.1 i.2.2.2.2
  obtain ⟨tt, ht', evt⟩ := dts_fam (ι := Shared × Hp × Addr × List (Str × Addr) × List Addr) (Xc := fun i => X.blk i.1 i.2.1 scope (compEnvC scope i.2.2.2.1 i.2.2.1 X.env) i.2.2.2.2) (K := X.K) (fun _ => rfl) fun i => ht i.1 i.2.1 i.2.2.1 i.2.2.2.1 i.2.2.2.2
  obtain ⟨te, he', eve⟩ := de_fam (ι := Shared × Hp × Addr × List (Str × Addr) × List Addr) (Xc := fun i => X.blk i.1 i.2.1 scope (compEnvC scope i.2.2.2.1 i.2.2.1 X.env) i.2.2.2.2) (K := X.K) (fun _ => rfl) fun i => he i.1 i.2.1 i.2.2.1 i.2.2.2.1 i.2.2.2.2
  refine ⟨wi, g, tt, te, ⟨hi, fun s H C cl fp => hg' (s, H, C, cl, fp), fun s H C cl fp => ht' (s, H, C, cl, fp), fun s H C cl fp => he' (s, H, C, cl, fp)⟩, fun η s σ G H m Q h3 p e hp => evi η s σ G H m _ h3 p e (hp.next fun items s1 G1 H1 m1 J x1 p1 wk hp1 => ?_)⟩
  split at hp1
  · rename_i hz
    intro L hL
    have re := (e.mono x1.gg).wipe own
    refine ⟨fun i k H' => k = items.length - i ∧ i ≤ items.length ∧ ∃ (G' : Hp) (m' : Addr → Prop) (s' : S) (acc : List D) (accV : List V), Ext G1 H1 m1 G' H' m' ∧ w.P s' G' H' m' ∧ G' L = none ∧ ¬ m' L ∧ H' L = some (.lst accV) ∧ RepL X.K Γ G' acc accV ∧ acc.length ≤ i ∧
      Post Γ w W (Rep X.K Γ) σ G1 H1 m1 ((compL T gc fa (wipeE η own) (items.drop i) s').bind fun ys s2 => .ok (.lst (acc ++ ys)) s2) Q, ⟨items.length, by simp, Nat.zero_le _, G1, m1, s1, [], [], (Ext.refl x1.toSt3).newO hL, ?_, ?_, fun z => x1.own L z hL, upd_same, RepL.nil, Nat.le_refl _, hp1⟩, ?_⟩
    · refine w.stay p1 (Sub.refl _) fun x o hx ex => ?_
      rw [upd_ne (ne_of_none ex hL)]
      exact ex
    · cases q : G1 L with
      | none => rfl
      | some o => have := x1.sub L o q; rw [hL] at this; cases this
    · rintro i k H' ⟨rfl, hi', G', m', s', acc, accV, x', p', gL, nL, hLl, rl, hacc, hpp⟩
      by_cases hlt : i < items.length
      · refine .inr ⟨wk.go i H' (x'.gg.trans x'.sub) hlt, fun H'' => ∃ (G' : Hp) (m' : Addr → Prop) (s' : S) (acc : List D) (accV : List V), Ext G1 H1 m1 G' H'' m' ∧ w.P s' G' H'' m' ∧ G' L = none ∧ ¬ m' L ∧ H'' L = some (.lst accV) ∧ RepL X.K Γ G' acc accV ∧ acc.length ≤ i + 1 ∧
          Post Γ w W (Rep X.K Γ) σ G1 H1 m1 ((compL T gc fa (wipeE η own) (items.drop (i + 1)) s').bind fun ys s2 => .ok (.lst (acc ++ ys)) s2) Q, fun H'' q => ⟨items.length - (i + 1), by omega, rfl, hlt, q⟩, fun x Hx hy => ?_⟩
        have hd : items[i]? = some items[i] := List.getElem?_eq_getElem hlt
        have hdrop : items.drop i = items[i] :: items.drop (i + 1) := List.drop_eq_getElem_cons hlt
        rw [hdrop] at hpp
        generalize items[i] = d at hd hpp
        -- the item, in a heap of ours
        obtain ⟨G2, x2, p2, rx⟩ : ∃ G2, Ext G' H' m' G2 Hx m' ∧ w.P s' G2 Hx m' ∧ Rep X.K Γ G2 d x := by
          rcases wk.yld i H' x Hx d (x'.gg.trans x'.sub) hd hy with ⟨rfl, rx⟩ | ⟨q, o, vs, ds, hq, ho, rfl, rfl, rfl, rx⟩
          · exact ⟨G', Ext.refl x'.toSt3, p', rx.mono x'.gg⟩
          · have xn := (Ext.refl x'.toSt3).new (o := .frz o (.tup vs)) hq
            refine ⟨_, xn, w.stay p' xn.gg fun y o hy' ey => ?_, ?_⟩
            · rw [upd_ne (ne_of_none ey hq)]
              exact ey
            · simp only [Rep]
              exact ⟨q, vs, rfl, SqP.of upd_same ho, (rx.mono x'.gg).mono xn.gg⟩
        have hL' : H' L ≠ none := ne_some hLl
        have gL2 := x2.addr_g hL' gL
        simp only [compL] at hpp
        refine kg _ _ _ _ ?_
        cases hset : setT T d (wipeE η own) with
        | none =>
          rw [hset] at hpp
          exact hpp.elim
        | some η1 =>
          rw [hset] at hpp
          refine setT_to x2.sub rx ((re.mono x'.gg).mono x2.gg) hset fun vs r1 => ⟨(wipe_setV hown).trans (wipe_wipe _ _), ?_⟩
          rw [R.assoc] at hpp
          refine evt η1 s' _ G2 Hx m' _ x2.toSt3 p2 r1 (hpp.nextC fun b s3 G3 H3 m3 v3 x3 p3 r3 hp3 => ?_)
          subst r3
          have xa : Ext G1 H1 m1 G3 H3 m3 := (x'.trans x2).trans x3
          have hL2 : Hx L ≠ none := x2.there L hL'
          have eL2 : Hx L = some (.lst accV) := x2.keep L _ nL hLl
          have nL3 := x3.addr_m hL2 nL
          have gL3 := x3.addr_g hL2 gL2
          have eL3 : H3 L = some (.lst accV) := x3.keep L _ nL eL2
          cases b with
          | false =>
            rw [if_neg Bool.false_ne_true]
            exact ⟨G3, m3, s3, acc, accV, xa, p3, gL3, nL3, eL3, (rl.mono x2.gg).mono x3.gg, by omega, hp3⟩
          | true =>
            rw [if_pos rfl]
            simp only at hp3
            rw [R.assoc] at hp3
            refine eve η1 s3 _ G3 H3 m3 _ x3.toSt3 p3 (r1.mono x3.gg) (hp3.nextC fun y s4 G4 H4 m4 v4 x4 p4 r4 hp4 => ?_)
            have hL3 : H3 L ≠ none := ne_some eL3
            have eL4 : H4 L = some (.lst accV) := x4.keep L _ nL3 eL3
            have nL4 := x4.addr_m hL3 nL3
            have gL4 := x4.addr_g hL3 gL3
            have rl4 := ((rl.mono x2.gg).mono x3.gg).mono x4.gg
            refine ⟨accV, eL4, by rw [rl4.length]; omega, G4, m4, s4, acc ++ [y], accV ++ [v4], (xa.trans x4).mut hL gL4 nL4, ?_, gL4, nL4, upd_same, rl4.append (RepL.cons r4 RepL.nil), by rw [List.length_append, List.length_singleton]; omega, ?_⟩
            · refine w.stay p4 (Sub.refl _) fun z o hz' ez => ?_
              rw [upd_ne fun q => by rw [q] at hz'; exact nL4 hz']
              exact ez
            · rw [R.assoc] at hp4
              have e5 : (fun (ys : List D) (s2 : S) => (R.ok (y :: ys) s2 : R S (List D)).bind fun ys s2 => R.ok (D.lst (acc ++ ys)) s2) = fun ys s2 => R.ok (D.lst (acc ++ [y] ++ ys)) s2 := by
                funext ys s2
                show R.ok (D.lst (acc ++ y :: ys)) s2 = _
                rw [List.append_assoc]
                rfl
              rw [e5] at hp4
              exact hp4
      · have ei : i = items.length := by omega
        subst ei
        refine .inl ⟨wk.stop H' (x'.gg.trans x'.sub), ?_⟩
        rw [List.drop_length] at hpp
        simp only [compL, R.bind, List.append_nil] at hpp
        have xf := x'.freeze hL hLl gL nL
        refine hpp _ _ _ _ xf (w.stay p' (fun z u e => ?_) fun _ _ _ e => e) ?_
        · rw [upd_ne fun q => by rw [q, gL] at e; cases e]
          exact e
        · simp only [Rep]
          refine ⟨L, accV, rfl, upd_same, rl.mono fun z u e => ?_⟩
          rw [upd_ne fun q => by rw [q, gL] at e; cases e]
          exact e
  · exact hp1.elim
theorem de_comp {tg iter : Expr} {ifs : List Expr} {scope : Scope} {T : Tg} {fi : En → S → R S (List D)} {gc : En → S → R S Bool} (own : List (Str × Nat)) (hc : X.calm = true) (hN : X.N.Nodup) (ok : BlkOk X.N X.env.scope scope own) (hi : DI Γ w W X tg iter fi)
    (hg : ∀ (s : Shared) (H : Hp) (C : Addr) (cl : List (Str × Addr)) (fp : List Addr), DG (X.blk s H scope (compEnvC scope cl C X.env) fp) tg T) (ht : ∀ (s : Shared) (H : Hp) (C : Addr) (cl : List (Str × Addr)) (fp : List Addr), DTs Γ w WF (X.blk s H scope (compEnvC scope cl C X.env) fp) ifs gc)
    (he : ∀ (s : Shared) (H : Hp) (C : Addr) (cl : List (Str × Addr)) (fp : List Addr), DE Γ w WF (X.blk s H scope (compEnvC scope cl C X.env) fp) a fa) (hown : ∀ i ∈ T.slots, i ∈ own.map (·.2) := by decide) (hs : ∀ x, foldedSetIterable iter X.env x = pure x := by intro _; rfl) :
    DE Γ w W X (.ListComp a [⟨tg, iter, ifs, 0⟩] scope pos) (fComp fi T (own.map (·.2)) gc fa) := by
  obtain ⟨wi, g, tt, te, k, ev⟩ := lc_ev (own := own.map (·.2)) hi hown hg ht he
  exact ⟨_, pe_lc hc hN k.pi ok k.pg k.pt k.pe hs, ev⟩
end
end Dm
namespace Dm
open PySem L2
/-- what a name owns: a list, a dict with texts as keys -/
inductive Ow where
  | l (xs : List D) | k (kvs : List (List Nat × D))
inductive O where
  | d (x : D) | ow (o : Ow)
def RepKV (K : PySem.W.Frag) (Γ : Pm) (G : Hp) : List (List Nat × D) → List (Key × V) → Prop
  | [], es => es = []
  | p :: ps, es => ∃ v es', es = (Sum.inr (tx p.1), v) :: es' ∧ Rep K Γ G p.2 v ∧ RepKV K Γ G ps es'
theorem RepKV.mono {K : PySem.W.Frag} {Γ : Pm} {G G' : Hp} (e : Sub G G') : ∀ {ps : List (List Nat × D)} {es : List (Key × V)}, RepKV K Γ G ps es → RepKV K Γ G' ps es
  | [], _, h => h
  | p :: ps, es, ⟨v, es', h1, h2, h3⟩ => ⟨v, es', h1, h2.mono e, RepKV.mono e h3⟩
def RepW (K : PySem.W.Frag) (Γ : Pm) (G : Hp) : Ow → HO → Prop
  | .l xs, u => ∃ vs, u = .lst vs ∧ RepL K Γ G xs vs
  | .k kvs, u => ∃ es, u = .dK es ∧ RepKV K Γ G kvs es
theorem RepW.mono {K : PySem.W.Frag} {Γ : Pm} {G G' : Hp} (e : Sub G G') : ∀ {o : Ow} {u : HO}, RepW K Γ G o u → RepW K Γ G' o u
  | .l _, _, ⟨vs, h1, h2⟩ => ⟨vs, h1, h2.mono e⟩
  | .k _, _, ⟨vs, h1, h2⟩ => ⟨vs, h1, h2.mono e⟩
abbrev Sn := List (Option O)
def hideO : Option O → Option D
  | some (.d x) => some x
  | _ => none
def showO : Option O → Option D
  | some (.d x) => some x
  | some (.ow (.l xs)) => some (.lst xs)
  | some (.ow (.k _)) => none
  | none => none
def hide (ε : Sn) : En := ε.map hideO
def shown (ε : Sn) : En := ε.map showO
theorem RepW.nt {K : PySem.W.Frag} {Γ : Pm} {G : Hp} : ∀ {o : Ow} {u : HO}, RepW K Γ G o u → isPl u = true
  | .l _, _, ⟨vs, h1, _⟩ => by rw [h1]; rfl
  | .k _, _, ⟨vs, h1, _⟩ => by rw [h1]; rfl
inductive SR (S : Type) where
  | nx (ε : Sn) (s : S) | rt (d : D) (s : S) | rl (xs : List D) (s : S) | bk (ε : Sn) (s : S) | ct (ε : Sn) (s : S) | er (e : Err) (ε : Sn) (s : S) | no
structure RepS (K : PySem.W.Frag) (Γ : Pm) (G H0 H : Hp) (m : Addr → Prop) (σ : L2.St) (ε : Sn) : Prop where
  len : σ.length = ε.length
  dat : ∀ (i : Nat) (x : D), ε[i]? = some (some (.d x)) → ∃ v, σ[i]? = some (some v) ∧ Rep K Γ G x v
  own : ∃ ad : Nat → Addr, (∀ (i : Nat) (xs : Ow), ε[i]? = some (some (.ow xs)) → ∃ vs, σ[i]? = some (some (.ref (ad i))) ∧ H (ad i) = some vs ∧ RepW K Γ G xs vs ∧ G (ad i) = none ∧ ¬ m (ad i) ∧ H0 (ad i) = none) ∧
    ∀ (i j : Nat) (xs ys : Ow), ε[i]? = some (some (.ow xs)) → ε[j]? = some (some (.ow ys)) → ad i = ad j → i = j
section
variable {K : PySem.W.Frag} {Γ : Pm} {G H0 H G1 H1 : Hp} {m m1 : Addr → Prop} {σ : L2.St} {ε : Sn}
theorem RepS.mono (r : RepS K Γ G H0 H m σ ε) (x : Ext G H m G1 H1 m1) : RepS K Γ G1 H0 H1 m1 σ ε where
  len := r.len
  dat := fun i d h => by
    obtain ⟨v, h1, h2⟩ := r.dat i d h
    exact ⟨v, h1, h2.mono x.gg⟩
  own := by
    obtain ⟨ad, h1, h2⟩ := r.own
    refine ⟨ad, fun i xs h => ?_, h2⟩
    obtain ⟨vs, a1, a2, a3, a4, a5, a6⟩ := h1 i xs h
    exact ⟨vs, a1, x.keep _ _ a5 a2, a3.mono x.gg, x.addr_g (ne_some a2) a4, x.addr_m (ne_some a2) a5, a6⟩
theorem RepS.hide (r : RepS K Γ G H0 H m σ ε) : RepE K Γ G σ (Dm.hide ε) := by
  refine ⟨by unfold Dm.hide; rw [List.length_map]; exact r.len, fun i d h => ?_⟩
  unfold Dm.hide at h
  rw [List.getElem?_map] at h
  cases q : ε[i]? with
  | none => rw [q] at h; cases h
  | some o =>
    rw [q] at h
    cases o with
    | none => cases h
    | some o =>
      cases o with
      | d x =>
        have e : x = d := by
          have := h
          simp only [Option.map_some, hideO, Option.some.injEq] at this
          exact this
        subst e
        exact r.dat i x q
      | ow xs => simp only [Option.map_some, hideO] at h; cases h
theorem RepS.setD (r : RepS K Γ G H0 H m σ ε) (i : Nat) {d : D} {v : V} (h : Rep K Γ G d v) : RepS K Γ G H0 H m (σ.set i (some v)) (ε.set i (some (.d d))) where
  len := by rw [List.length_set, List.length_set]; exact r.len
  dat := fun j x hj => by
    by_cases hji : i = j
    · subst hji
      by_cases hl : i < ε.length
      · rw [List.getElem?_set_self hl] at hj
        cases hj
        exact ⟨v, List.getElem?_set_self (by rw [r.len]; exact hl), h⟩
      · rw [List.getElem?_eq_none (by simpa using hl)] at hj; cases hj
    · rw [List.getElem?_set_ne hji] at hj ⊢
      exact r.dat j x hj
  own := by
    obtain ⟨ad, h1, h2⟩ := r.own
    have back : ∀ (j : Nat) (xs : Ow), (ε.set i (some (.d d)))[j]? = some (some (.ow xs)) → i ≠ j ∧ ε[j]? = some (some (.ow xs)) := fun j xs hj => by
      by_cases hji : i = j
      · subst hji
        by_cases hl : i < ε.length
        · rw [List.getElem?_set_self hl] at hj; cases hj
        · rw [List.getElem?_eq_none (by simpa using hl)] at hj; cases hj
      · rw [List.getElem?_set_ne hji] at hj
        exact ⟨hji, hj⟩
    refine ⟨ad, fun j xs hj => ?_, fun j k xs ys hj hk e => h2 j k xs ys (back j xs hj).2 (back k ys hk).2 e⟩
    obtain ⟨hji, hj⟩ := back j xs hj
    obtain ⟨vs, a1, a2⟩ := h1 j xs hj
    exact ⟨vs, by rw [List.getElem?_set_ne hji]; exact a1, a2⟩
theorem RepS.setAllD : ∀ {is : List Nat} {ds : List D} {vs : List V} {σ : L2.St} {ε : Sn}, RepS K Γ G H0 H m σ ε → ds.length = is.length → RepL K Γ G ds vs → RepS K Γ G H0 H m (setV is vs σ) ((is.zip ds).foldl (fun ε p => ε.set p.1 (some (.d p.2))) ε)
  | [], [], vs, σ, ε, r, _, _ => by cases vs <;> exact r
  | i :: is, d :: ds, vs, σ, ε, r, hl, h => by
    simp only [RepL] at h
    obtain ⟨v, vs', rfl, h1, h2⟩ := h
    show RepS K Γ G H0 H m (setV is vs' (σ.set i (some v))) ((is.zip ds).foldl (fun ε p => ε.set p.1 (some (.d p.2))) (ε.set i (some (.d d))))
    exact RepS.setAllD (r.setD i h1) (by simpa using hl) h2
  | [], _ :: _, _, _, _, _, hl, _ => by cases hl
  | _ :: _, [], _, _, _, _, hl, _ => by cases hl
/-- a slot takes a list that nobody else knows -/
theorem RepS.setO (r : RepS K Γ G H0 H m σ ε) (i : Nat) {a : Addr} {xs : Ow} {vs : HO} (h1 : H a = some vs) (h2 : RepW K Γ G xs vs) (h3 : G a = none) (h4 : ¬ m a) (h5 : H0 a = none)
    (nw : ∀ (j : Nat) (b : Addr) (ys : Ow), ε[j]? = some (some (.ow ys)) → σ[j]? = some (some (.ref b)) → i ≠ j → b ≠ a) : RepS K Γ G H0 H m (σ.set i (some (.ref a))) (ε.set i (some (.ow xs))) where
  len := by rw [List.length_set, List.length_set]; exact r.len
  dat := fun j x hj => by
    by_cases hji : i = j
    · subst hji
      by_cases hl : i < ε.length
      · rw [List.getElem?_set_self hl] at hj; cases hj
      · rw [List.getElem?_eq_none (by simpa using hl)] at hj; cases hj
    · rw [List.getElem?_set_ne hji] at hj ⊢
      exact r.dat j x hj
  own := by
    obtain ⟨ad, k1, k2⟩ := r.own
    have back : ∀ (j : Nat) (ys : Ow), i ≠ j → (ε.set i (some (.ow xs)))[j]? = some (some (.ow ys)) → ε[j]? = some (some (.ow ys)) := fun j ys hji hj => by rw [List.getElem?_set_ne hji] at hj; exact hj
    refine ⟨fun j => if i = j then a else ad j, fun j ys hj => ?_, fun j k ys zs hj hk e => ?_⟩
    · by_cases hji : i = j
      · subst hji
        dsimp only
        rw [if_pos rfl]
        by_cases hl : i < ε.length
        · rw [List.getElem?_set_self hl] at hj
          cases hj
          exact ⟨vs, List.getElem?_set_self (by rw [r.len]; exact hl), h1, h2, h3, h4, h5⟩
        · rw [List.getElem?_eq_none (by simpa using hl)] at hj; cases hj
      · dsimp only
        rw [if_neg hji]
        obtain ⟨ws, a1, a2⟩ := k1 j ys (back j ys hji hj)
        exact ⟨ws, by rw [List.getElem?_set_ne hji]; exact a1, a2⟩
    · dsimp only at e
      by_cases hj1 : i = j
      · by_cases hk1 : i = k
        · exact hj1.symm.trans hk1
        · rw [if_pos hj1, if_neg hk1] at e
          obtain ⟨ws, a1, _⟩ := k1 k zs (back k zs hk1 hk)
          exact absurd e.symm (nw k _ zs (back k zs hk1 hk) a1 hk1)
      · by_cases hk1 : i = k
        · rw [if_neg hj1, if_pos hk1] at e
          obtain ⟨ws, a1, _⟩ := k1 j ys (back j ys hj1 hj)
          exact absurd e (nw j _ ys (back j ys hj1 hj) a1 hj1)
        · rw [if_neg hj1, if_neg hk1] at e
          exact k2 j k ys zs (back j ys hj1 hj) (back k zs hk1 hk) e
theorem RepS.ownAt (r : RepS K Γ G H0 H m σ ε) {i : Nat} {xs : Ow} (h : ε[i]? = some (some (.ow xs))) : ∃ a vs, σ[i]? = some (some (.ref a)) ∧ H a = some vs ∧ RepW K Γ G xs vs ∧ G a = none ∧ ¬ m a ∧ H0 a = none ∧
    ∀ (j : Nat) (b : Addr) (ys : Ow), ε[j]? = some (some (.ow ys)) → σ[j]? = some (some (.ref b)) → i ≠ j → b ≠ a := by
  obtain ⟨ad, k1, k2⟩ := r.own
  obtain ⟨vs, a1, a2, a3, a4, a5, a6⟩ := k1 i xs h
  refine ⟨ad i, vs, a1, a2, a3, a4, a5, a6, fun j b ys hj hb hij e => ?_⟩
  obtain ⟨ws, b1, _⟩ := k1 j ys hj
  rw [hb] at b1
  have eb : b = ad j := by
    have := Option.some.inj (Option.some.inj b1)
    exact V.ref.inj this
  exact hij (k2 i j xs ys h hj (by rw [← eb, e]))
/-- an owned list is written: everything else stands -/
theorem RepS.write (r : RepS K Γ G H0 H m σ ε) {i : Nat} {xs ys : Ow} {a : Addr} {ws : HO} (h : ε[i]? = some (some (.ow xs))) (ha : σ[i]? = some (some (.ref a))) (hr : RepW K Γ G ys ws) (hg : G a = none) (hm : ¬ m a) (h0 : H0 a = none)
    (nw : ∀ (j : Nat) (b : Addr) (zs : Ow), ε[j]? = some (some (.ow zs)) → σ[j]? = some (some (.ref b)) → i ≠ j → b ≠ a) : RepS K Γ G H0 (upd H a ws) m σ (ε.set i (some (.ow ys))) := by
  have hl : i < ε.length := by
    have := (List.getElem?_eq_some_iff.mp h).1
    exact this
  have r1 : RepS K Γ G H0 (upd H a ws) m σ (ε.set i (some (.d .non)) |>.set i none) := {
    len := by rw [List.length_set, List.length_set]; exact r.len
    dat := fun j x hj => by
      rw [List.set_set] at hj
      by_cases hji : i = j
      · subst hji
        rw [List.getElem?_set_self hl] at hj; cases hj
      · rw [List.getElem?_set_ne hji] at hj
        exact r.dat j x hj
    own := by
      obtain ⟨ad, k1, k2⟩ := r.own
      have back : ∀ (j : Nat) (zs : Ow), ((ε.set i (some (.d .non))).set i none)[j]? = some (some (.ow zs)) → i ≠ j ∧ ε[j]? = some (some (.ow zs)) := fun j zs hj => by
        rw [List.set_set] at hj
        by_cases hji : i = j
        · subst hji
          rw [List.getElem?_set_self hl] at hj; cases hj
        · rw [List.getElem?_set_ne hji] at hj
          exact ⟨hji, hj⟩
      refine ⟨ad, fun j zs hj => ?_, fun j k zs us hj hk e => k2 j k zs us (back j zs hj).2 (back k us hk).2 e⟩
      obtain ⟨hji, hj⟩ := back j zs hj
      obtain ⟨us, a1, a2, a3⟩ := k1 j zs hj
      exact ⟨us, a1, by rw [upd_ne (nw j _ zs hj a1 hji)]; exact a2, a3⟩ }
  have e1 : (ε.set i (some (.d .non)) |>.set i none).set i (some (.ow ys)) = ε.set i (some (.ow ys)) := by rw [List.set_set, List.set_set]
  have e2 : σ.set i (some (.ref a)) = σ := by
    apply List.ext_getElem?
    intro j
    by_cases hji : i = j
    · subst hji
      rw [List.getElem?_set_self (by rw [r.len]; exact hl), ha]
    · rw [List.getElem?_set_ne hji]
  have q := r1.setO i (a := a) (xs := ys) upd_same hr hg hm h0 (fun j b zs hj hb hij => by
    rw [List.set_set, List.getElem?_set_ne hij] at hj
    exact nw j b zs hj hb hij)
  rw [e1, e2] at q
  exact q
end

section
variable {S α β : Type}
def bindS (r : R S α) (ε : Sn) (k : α → S → SR S) : SR S := match r with
  | .ok a s => k a s
  | .er e s => .er e ε s
  | .no => .no
def PostS (K : PySem.W.Frag) (Γ : Pm) (w : Wo S) (W : WX) (G0 H0 : Hp) (m0 : Addr → Prop) (r : SR S) (D : Ends) : Prop := match r with
  | .nx ε s => ∀ G H m σ, Ext G0 H0 m0 G H m → w.P s G H m → RepS K Γ G H0 H m σ ε → D.nx σ H
  | .bk ε s => ∀ G H m σ, Ext G0 H0 m0 G H m → w.P s G H m → RepS K Γ G H0 H m σ ε → D.bk σ H
  | .ct ε s => ∀ G H m σ, Ext G0 H0 m0 G H m → w.P s G H m → RepS K Γ G H0 H m σ ε → D.ct σ H
  | .rt d s => ∀ G H m v, Ext G0 H0 m0 G H m → w.P s G H m → Rep K Γ G d v → D.rt v H
  | .rl xs s => ∀ G H m a vs, Ext G0 H0 m0 G H m → w.P s G H m → H0 a = none → G a = none → ¬ m a → H a = some (.lst vs) → RepL K Γ G xs vs → D.rt (.ref a) H
  | .er e ε s => ∀ G H m σ cls dx, Ext G0 H0 m0 G H m → w.P s G H m → RepS K Γ G H0 H m σ ε → ErrAt Γ e cls dx H → W cls dx σ H
  | .no => False
def EvS (K : PySem.W.Frag) (Γ : Pm) (w : Wo S) (W : WX) (t : TS) (f : Sn → S → SR S) : Prop :=
  ∀ (ε : Sn) (s : S) (σ : L2.St) (G0 H0 : Hp) (m0 : Addr → Prop) (G H : Hp) (m : Addr → Prop) (D : Ends), Ext G0 H0 m0 G H m → w.P s G H m → RepS K Γ G H0 H m σ ε → PostS K Γ w W G0 H0 m0 (f ε s) D → t D σ H
/-- an expression within a statement: over the slots -/
def EvN (K : PySem.W.Frag) (Γ : Pm) (w : Wo S) (W : WX) (Rel : Hp → α → β → Prop) (t : L2.St → Hp → (β → Hp → Prop) → Prop) (f : Sn → S → R S α) : Prop :=
  ∀ (ε : Sn) (s : S) (σ : L2.St) (H0 G H : Hp) (m : Addr → Prop) (Q : β → Hp → Prop), St3 G H m → w.P s G H m → RepS K Γ G H0 H m σ ε → Post Γ w W Rel σ G H m (f ε s) Q → t σ H Q
variable {K : PySem.W.Frag} {Γ : Pm} {w : Wo S} {W : WX} {Rel : Hp → α → β → Prop}
theorem EvN.of {t : L2.St → Hp → (β → Hp → Prop) → Prop} {f : En → S → R S α} (h : Ev K Γ w W Rel t f) : EvN K Γ w W Rel t (fun ε => f (hide ε)) := fun ε s σ H0 G H m Q h3 p r hp => h (hide ε) s σ G H m Q h3 p r.hide hp
theorem Ext.re1 {G0 H0 G H G1 : Hp} {m0 m : Addr → Prop} (a : Ext G0 H0 m0 G H m) (h1 : Sub G0 G1) (h : Sub G1 G) : Ext G1 H0 m0 G H m where
  toSt3 := a.toSt3
  mm := a.mm
  nt := a.nt
  gg := h
  keep := a.keep
  newG := fun x q1 q2 => a.newG x q1 (by
    cases z : G0 x with
    | none => rfl
    | some o => rw [h1 x o z] at q2; cases q2)
  newM := a.newM
  there := a.there
theorem Ext.re2 {G0 H0 G H G1 H1 : Hp} {m0 m m1 : Addr → Prop} (b : Ext G0 H0 m0 G1 H1 m1) (a : Ext G1 H0 m0 G H m) : Ext G0 H0 m0 G H m where
  toSt3 := a.toSt3
  mm := a.mm
  nt := a.nt
  gg := b.gg.trans a.gg
  keep := a.keep
  newG := fun x q1 q2 => by
    cases z : G1 x with
    | none => exact a.newG x q1 z
    | some o => exact b.newG x (ne_some z) q2
  newM := a.newM
  there := a.there
theorem PostS.re {G0 H0 G1 H1 : Hp} {m0 m1 : Addr → Prop} {r : SR S} {D : Ends} (b : Ext G0 H0 m0 G1 H1 m1) (h : PostS K Γ w W G0 H0 m0 r D) : PostS K Γ w W G1 H0 m0 r D := by
  cases r with
  | nx ε s => exact fun G H m σ x => h G H m σ (b.re2 x)
  | bk ε s => exact fun G H m σ x => h G H m σ (b.re2 x)
  | ct ε s => exact fun G H m σ x => h G H m σ (b.re2 x)
  | rt ε s => exact fun G H m σ x => h G H m σ (b.re2 x)
  | rl ε s => exact fun G H m σ vs x => h G H m σ vs (b.re2 x)
  | er e ε s => exact fun G H m σ cls dx x => h G H m σ cls dx (b.re2 x)
  | no => exact h
theorem PostS.next {r : R S α} {ε : Sn} {k : α → S → SR S} {G0 H0 G H : Hp} {m0 m : Addr → Prop} {σ : L2.St} {Q : β → Hp → Prop} {D : Ends} (hp : PostS K Γ w W G0 H0 m0 (bindS r ε k) D) (x : Ext G0 H0 m0 G H m) (rs : RepS K Γ G H0 H m σ ε)
    (h : ∀ d s1 G1 H1 m1 v, Ext G H m G1 H1 m1 → w.P s1 G1 H1 m1 → Rel G1 d v → PostS K Γ w W G0 H0 m0 (k d s1) D → Q v H1) : Post Γ w W Rel σ G H m r Q := by
  cases r with
  | ok d s => exact fun G' H' m' v e' p r => h d s G' H' m' v e' p r hp
  | er e1 s => exact fun G' H' m' c d e' p r => hp G' H' m' σ c d (x.trans e') p (rs.mono e') r
  | no => exact hp
end

/-! ### judgements -/
section
variable {S : Type} {Γ : Pm} {w : Wo S} {W : WX} {X : Cx} {pos p2 : Pos} {a b c : Expr} {es : List Expr}
structure DN (Γ : Pm) (w : Wo S) (W : WX) (X : Cx) (e : Expr) (f : Sn → S → R S D) : Prop where
  ex : ∃ t, PE X e t ∧ EvN X.K Γ w W (Rep X.K Γ) t f
structure DNB (Γ : Pm) (w : Wo S) (W : WX) (X : Cx) (e : Expr) (f : Sn → S → R S Bool) : Prop where
  ex : ∃ t, PT X e t ∧ EvN X.K Γ w W (fun _ a b => a = b) t f
structure DNI (Γ : Pm) (w : Wo S) (W : WX) (X : Cx) (tg iter : Expr) (f : Sn → S → R S (List D)) : Prop where
  ex : ∃ wi, PI X tg iter wi ∧ EvN X.K Γ w W (fun G items J => Wk X.K Γ J G items) wi f
structure DS (Γ : Pm) (w : Wo S) (W : WX) (X : Cx) (st : Stmt) (f : Sn → S → SR S) : Prop where
  ex : ∃ t, PS X st t ∧ EvS X.K Γ w W t f
structure DSs (Γ : Pm) (w : Wo S) (W : WX) (X : Cx) (st : List Stmt) (f : Sn → S → SR S) : Prop where
  ex : ∃ t, PSs X st t ∧ EvS X.K Γ w W t f
def nD {α : Type} (f : En → S → R S α) : Sn → S → R S α := fun ε => f (hide ε)
theorem DE.n {f : En → S → R S D} (h : DE Γ w W X a f) : DN Γ w W X a (nD f) := by
  obtain ⟨t, h, ev⟩ := h
  exact ⟨t, h, .of ev⟩
theorem DB.n {f : En → S → R S Bool} (h : DB Γ w W X a f) : DNB Γ w W X a (nD f) := by
  obtain ⟨t, h, ev⟩ := h
  exact ⟨t, h, .of ev⟩
theorem DI.n {tg : Expr} {f : En → S → R S (List D)} (h : DI Γ w W X tg a f) : DNI Γ w W X tg a (nD f) := by
  obtain ⟨t, h, ev⟩ := h
  exact ⟨t, h, .of ev⟩

/-! blocks -/
def sNil : Sn → S → SR S := fun ε s => .nx ε s
def sSeq (f g : Sn → S → SR S) : Sn → S → SR S := fun ε s => match f ε s with
  | .nx ε' s' => g ε' s'
  | r => r
theorem dss_nil : DSs Γ w W X [] sNil := ⟨_, pss_nil, fun ε s σ G0 H0 m0 G H m D x p r hp => hp G H m σ x p r⟩
theorem dss_cons {st : Stmt} {rest : List Stmt} {f g : Sn → S → SR S} (h : DS Γ w W X st f) (k : DSs Γ w W X rest g) : DSs Γ w W X (st :: rest) (sSeq f g) := by
  obtain ⟨t, h, ev⟩ := h
  obtain ⟨u, k, ew⟩ := k
  refine ⟨_, pss_cons h k, fun ε s σ G0 H0 m0 G H m D x p r hp => ev ε s σ G0 H0 m0 G H m _ x p r ?_⟩
  unfold sSeq at hp
  cases e : f ε s with
  | nx ε' s' =>
    rw [e] at hp
    exact fun G' H' m' σ' x' p' r' => ew ε' s' σ' G0 H0 m0 G' H' m' D x' p' r' hp
  | rt d s' => rw [e] at hp; exact hp
  | rl d s' => rw [e] at hp; exact hp
  | bk d s' => rw [e] at hp; exact hp
  | ct d s' => rw [e] at hp; exact hp
  | er d s' s2 => rw [e] at hp; exact hp
  | no => rw [e] at hp; exact hp
theorem dss_one {st : Stmt} {f : Sn → S → SR S} (h : DS Γ w W X st f) : DSs Γ w W X [st] f := by
  obtain ⟨t, h, ev⟩ := h
  exact ⟨_, pss_one h, ev⟩
theorem ds_pass : DS Γ w W X (.Pass pos) sNil := ⟨_, ps_pass, fun ε s σ G0 H0 m0 G H m D x p r hp => hp G H m σ x p r⟩
def sBk : Sn → S → SR S := fun ε s => .bk ε s
def sCt : Sn → S → SR S := fun ε s => .ct ε s
theorem ds_break : DS Γ w W X (.Break pos) sBk := ⟨_, ps_break, fun ε s σ G0 H0 m0 G H m D x p r hp => hp G H m σ x p r⟩
theorem ds_continue : DS Γ w W X (.Continue pos) sCt := ⟨_, ps_continue, fun ε s σ G0 H0 m0 G H m D x p r hp => hp G H m σ x p r⟩
/-! names stored -/
def sSet (i : Nat) (f : Sn → S → R S D) : Sn → S → SR S := fun ε s => bindS (f ε s) ε fun d s1 => .nx (ε.set i (some (.d d))) s1
theorem ds_set (i : Nat) {x : Str} {pos' : Pos} {f : Sn → S → R S D} (hN : X.N.Nodup) (hi : X.N[i]? = some x) (hx : Loc X.env.scope x) (he : DN Γ w W X a f) (hs : swapsWith a (some (.Name x pos')) pos.line X.env = pure false := by rfl)
    (hf : X.fn x = true ∨ X.env.scope.names.lookup x = some .local := by first | exact .inl rfl | exact .inr rfl | assumption) : DS Γ w W X (.Assign [.Name x pos'] a pos) (sSet i f) := by
  obtain ⟨t, he, ev⟩ := he
  exact ⟨_, ps_set hN hi hx he hs hf, fun ε s σ G0 H0 m0 G H m D x p r hp => ev ε s σ H0 G H m _ x.toSt3 p r (hp.next x r fun d s1 G1 H1 m1 v x1 p1 r1 hp1 => hp1 G1 H1 m1 _ (x.trans x1) p1 ((r.mono x1).setD i r1))⟩
/-- a name takes a comprehension -/
theorem ds_setLc (i : Nat) {x : Str} {pos' : Pos} {spos : Pos} {tg iter : Expr} {ifs : List Expr} {scope : Scope} {T : Tg} {fa : En → S → R S D} {fi : En → S → R S (List D)} {gc : En → S → R S Bool} (own : List (Str × Nat)) (hc : X.calm = true) (hN : X.N.Nodup) (hy : X.N[i]? = some x) (hyl : X.env.scope.names.lookup x = some .local)
    (ok : BlkOk X.N X.env.scope scope own) (hsw : swapsWith (.ListComp a [⟨tg, iter, ifs, 0⟩] scope pos) (some (.Name x pos')) spos.line X.env = pure true) (hi : DI Γ w W X tg iter fi)
    (hg : ∀ (s : Shared) (H : Hp) (C : Addr) (cl : List (Str × Addr)) (fp : List Addr), DG (X.blk s H scope (compEnvC scope cl C X.env) fp) tg T) (ht : ∀ (s : Shared) (H : Hp) (C : Addr) (cl : List (Str × Addr)) (fp : List Addr), DTs Γ w WF (X.blk s H scope (compEnvC scope cl C X.env) fp) ifs gc)
    (he : ∀ (s : Shared) (H : Hp) (C : Addr) (cl : List (Str × Addr)) (fp : List Addr), DE Γ w WF (X.blk s H scope (compEnvC scope cl C X.env) fp) a fa) (hown : ∀ j ∈ T.slots, j ∈ own.map (·.2) := by decide) (hs : ∀ x, foldedSetIterable iter X.env x = pure x := by intro _; rfl) :
    DS Γ w W X (.Assign [.Name x pos'] (.ListComp a [⟨tg, iter, ifs, 0⟩] scope pos) spos) (sSet i (nD (fComp fi T (own.map (·.2)) gc fa))) := by
  obtain ⟨wi, g, tt, te, k, ev⟩ := lc_ev (own := own.map (·.2)) hi hown hg ht he
  have ev := EvN.of ev
  exact ⟨_, ps_setLc hc hN hy hyl hsw k.pi ok k.pg k.pt k.pe hs, fun ε s σ G0 H0 m0 G H m D x p r hp => ev ε s σ H0 G H m _ x.toSt3 p r (hp.next x r fun d s1 G1 H1 m1 v x1 p1 r1 hp1 => hp1 G1 H1 m1 _ (x.trans x1) p1 ((r.mono x1).setD i r1))⟩
def setTn : Tg → D → Sn → Option Sn
  | .nm i, d, ε => some (ε.set i (some (.d d)))
  | .tp is, .tup ds, ε => if ds.length = is.length then some ((is.zip ds).foldl (fun ε p => ε.set p.1 (some (.d p.2))) ε) else none
  | _, _, _ => none
theorem setTn_to {K : PySem.W.Frag} {G H0 H : Hp} {m : Addr → Prop} {T : Tg} {d : D} {v : V} {σ : L2.St} {ε ε' : Sn} {Q : L2.St → Hp → Prop} (hs : Sub G H) (r : Rep K Γ G d v) (e : RepS K Γ G H0 H m σ ε) (h : setTn T d ε = some ε')
    (q : ∀ σ', RepS K Γ G H0 H m σ' ε' → Q σ' H) : TgTo K T v σ H Q := by
  cases T with
  | nm i =>
    simp only [setTn] at h
    cases h
    exact q _ (e.setD i r)
  | tp is =>
    cases d <;> simp only [setTn] at h <;> first | cases h | skip
    rename_i ds
    split at h
    · rename_i hl
      cases h
      simp only [Rep] at r
      obtain ⟨a, vs, rfl, t1, l1⟩ := r
      exact ⟨a, vs, rfl, hs.seqT t1.t, by rw [l1.length]; exact hl, q _ (e.setAllD hl l1)⟩
    · cases h
def sTup (T : Tg) (f : Sn → S → R S D) : Sn → S → SR S := fun ε s => bindS (f ε s) ε fun d s1 => match setTn T d ε with
  | some ε' => .nx ε' s1
  | none => .no
theorem ds_tup {tg : Expr} {T : Tg} {f : Sn → S → R S D} (hg : DG X tg T) (he : DN Γ w W X a f) (hs : swapsWithSole [tg] a pos.line X.env = pure false := by rfl) (hw : swappedStores [tg] a X.env = pure none := by rfl)
    (h1 : (assignEach [tg] X.env).map (·.2) = [assign tg X.env] := by rfl) : DS Γ w W X (.Assign [tg] a pos) (sTup T f) := by
  obtain ⟨g, hg, kg⟩ := hg
  obtain ⟨t, he, ev⟩ := he
  refine ⟨_, ps_asg he hg hs hw h1, fun ε s σ G0 H0 m0 G H m D x p r hp => ev ε s σ H0 G H m _ x.toSt3 p r (hp.next x r fun d s1 G1 H1 m1 v x1 p1 r1 hp1 => kg _ _ _ _ ?_)⟩
  split at hp1
  · rename_i ε' he'
    exact setTn_to x1.sub r1 (r.mono x1) he' fun σ' r' => hp1 G1 H1 m1 σ' (x.trans x1) p1 r'
  · exact hp1.elim
/-- a, b = x, y -/
def sPar (i j : Nat) (f : Sn → S → R S (List D)) : Sn → S → SR S := fun ε s => bindS (f ε s) ε fun ds s1 => match ds with
  | [d, e] => .nx ((ε.set i (some (.d d))).set j (some (.d e))) s1
  | _ => .no
theorem ds_par (i j : Nat) {x y : Str} {px py pt : Pos} {kt k2 pt2} {fs : En → S → R S (List D)} (hc : X.calm = true) (hN : X.N.Nodup) (hi : X.N[i]? = some x) (hj : X.N[j]? = some y) (hij : i ≠ j)
    (hx : X.env.scope.names.lookup x = some .local) (hy : X.env.scope.names.lookup y = some .local) (ha : DA Γ w W X [a, b] fs)
    (hw : swappedStores [.Tuple [.Name x px, .Name y py] kt pt] (.Tuple [a, b] k2 pt2) X.env = pure (some [x, y]) := by rfl)
    (hs : swapsWithSole [.Tuple [.Name x px, .Name y py] kt pt] (.Tuple [a, b] k2 pt2) pos.line X.env = pure false := by rfl) :
    DS Γ w W X (.Assign [.Tuple [.Name x px, .Name y py] kt pt] (.Tuple [a, b] k2 pt2) pos) (sPar i j (nD fs)) := by
  obtain ⟨t, ha, ev⟩ := ha
  have ev := EvN.of ev
  refine ⟨_, ps_par hc hN hi hj hij hx hy ha hw hs, fun ε s σ G0 H0 m0 G H m D x p r hp => ev ε s σ H0 G H m _ x.toSt3 p r (hp.next x r fun d s1 G1 H1 m1 v x1 p1 r1 hp1 => ?_)⟩
  split at hp1
  · obtain ⟨v1, v2, rfl, q1, q2⟩ := r1.two
    exact ⟨v1, v2, rfl, hp1 G1 H1 m1 _ (x.trans x1) p1 (((r.mono x1).setD i q1).setD j q2)⟩
  · exact hp1.elim
/-! statements of expressions, return -/
def sDrop (f : Sn → S → R S D) : Sn → S → SR S := fun ε s => bindS (f ε s) ε fun _ s1 => .nx ε s1
theorem ds_expr {f : Sn → S → R S D} (he : DN Γ w W X a f) (hs : swapsWith a none pos.line X.env = pure false := by rfl) : DS Γ w W X (.Expr a pos) (sDrop f) := by
  obtain ⟨t, he, ev⟩ := he
  exact ⟨_, ps_expr he hs, fun ε s σ G0 H0 m0 G H m D x p r hp => ev ε s σ H0 G H m _ x.toSt3 p r (hp.next x r fun d s1 G1 H1 m1 v x1 p1 r1 hp1 => hp1 G1 H1 m1 _ (x.trans x1) p1 (r.mono x1))⟩
def sRet (f : Sn → S → R S D) : Sn → S → SR S := fun ε s => bindS (f ε s) ε fun d s1 => .rt d s1
theorem ds_ret {f : Sn → S → R S D} (he : DN Γ w W X a f) : DS Γ w W X (.Return (some a) pos) (sRet f) := by
  obtain ⟨t, he, ev⟩ := he
  exact ⟨_, ps_ret he, fun ε s σ G0 H0 m0 G H m D x p r hp => ev ε s σ H0 G H m _ x.toSt3 p r (hp.next x r fun d s1 G1 H1 m1 v x1 p1 r1 hp1 => hp1 G1 H1 m1 _ (x.trans x1) p1 r1)⟩
def sRetN : Sn → S → SR S := fun _ s => .rt .non s
theorem ds_retN : DS Γ w W X (.Return none pos) sRetN := ⟨_, ps_retN, fun ε s σ G0 H0 m0 G H m D x p r hp => hp G H m _ x p (by simp only [Rep])⟩
/-- return x, x an owned list -/
def sRetO (i : Nat) : Sn → S → SR S := fun ε s => match ε[i]? with
  | some (some (.ow (.l xs))) => .rl xs s
  | _ => .no
theorem ds_retO (i : Nat) {x : Str} {px : Pos} (hN : X.N[i]? = some x := by rfl) (hv : Vis X.env.scope x := by first | exact Or.inl rfl | exact Or.inr (Or.inl rfl) | exact Or.inr (Or.inr rfl)) (hd : (x == ("__debug__" : Str)) = false := by decide)
    (hcd : (x == ("__classdict__" : Str)) = false := by decide) : DS Γ w W X (.Return (some (.Name x px)) pos) (sRetO i) := by
  refine ⟨_, ps_ret (pe_var hN hv hd hcd), fun ε s σ G0 H0 m0 G H m D x p r hp => ?_⟩
  unfold sRetO at hp
  split at hp
  · rename_i xs he
    obtain ⟨a, _, h1, h2, ⟨vs, rfl, h3⟩, h4, h5, h6, _⟩ := r.ownAt he
    exact ⟨_, h1, hp G H m a vs x p h6 h4 h5 h2 h3⟩
  · exact hp.elim
/-! if -/
def sIf (c : Sn → S → R S Bool) (f g : Sn → S → SR S) : Sn → S → SR S := fun ε s => bindS (c ε s) ε fun b s1 => match b with
  | true => f ε s1
  | false => g ε s1
theorem ds_if {sa sb : List Stmt} {gc : Sn → S → R S Bool} {f g : Sn → S → SR S} (hc : DNB Γ w W X c gc) (ha : DSs Γ w W X sa f) (hb : DSs Γ w W X sb g) : DS Γ w W X (.If c sa sb pos) (sIf gc f g) := by
  obtain ⟨tc, hc, ec⟩ := hc
  obtain ⟨ta, ha, ea⟩ := ha
  obtain ⟨tb, hb, eb⟩ := hb
  refine ⟨_, ps_if hc ha hb, fun ε s σ G0 H0 m0 G H m D x p r hp => ec ε s σ H0 G H m _ x.toSt3 p r (hp.next x r fun d s1 G1 H1 m1 v x1 p1 r1 hp1 => ?_)⟩
  subst r1
  cases d with
  | true => rw [if_pos rfl]; exact ea ε s1 σ G0 H0 m0 G1 H1 m1 D (x.trans x1) p1 (r.mono x1) hp1
  | false => rw [if_neg Bool.false_ne_true]; exact eb ε s1 σ G0 H0 m0 G1 H1 m1 D (x.trans x1) p1 (r.mono x1) hp1
/-! lists that a name owns -/
theorem own_new {K : PySem.W.Frag} {G0 H0 G H : Hp} {m0 m : Addr → Prop} {σ : L2.St} {ε : Sn} {xs : Ow} {vs : HO} {q : Addr} (i : Nat) (x : Ext G0 H0 m0 G H m) (r : RepS K Γ G H0 H m σ ε) (l : RepW K Γ G xs vs) (hq : H q = none) :
    Ext G0 H0 m0 G (upd H q vs) m ∧ RepS K Γ G H0 (upd H q vs) m (σ.set i (some (.ref q))) (ε.set i (some (.ow xs))) := by
  have x2 := (Ext.refl x.toSt3).newO (o := vs) hq l.nt
  have r2 := r.mono x2
  refine ⟨x.trans x2, r2.setO i upd_same l ?_ (fun z => x.own q z hq) ?_ fun j b ys hj hb hij e => ?_⟩
  · cases z : G q with
    | none => rfl
    | some o => have := x.sub q o z; rw [hq] at this; cases this
  · cases z : H0 q with
    | none => rfl
    | some o => exact absurd hq (x.there q (ne_some z))
  · obtain ⟨ad, k1, _⟩ := r.own
    obtain ⟨ws, b1, b2, _⟩ := k1 j ys hj
    rw [hb] at b1
    have eb : b = ad j := V.ref.inj (Option.some.inj (Option.some.inj b1))
    rw [← eb, e, hq] at b2
    cases b2
def sNewL (i : Nat) (f : Sn → S → R S (List D)) : Sn → S → SR S := fun ε s => bindS (f ε s) ε fun ds s1 => if ds.length ≤ sizeLine then .nx (ε.set i (some (.ow (.l ds)))) s1 else .no
theorem ds_newL (i : Nat) {x : Str} {pos' p3 : Pos} {fs : En → S → R S (List D)} (hN : X.N.Nodup) (hi : X.N[i]? = some x) (hx : Loc X.env.scope x) (ha : DA Γ w W X es fs) (hs : swapsWith (.List es p3) (some (.Name x pos')) pos.line X.env = pure false := by rfl)
    (hf : X.fn x = true ∨ X.env.scope.names.lookup x = some .local := by first | exact .inl rfl | exact .inr rfl | assumption) : DS Γ w W X (.Assign [.Name x pos'] (.List es p3) pos) (sNewL i (nD fs)) := by
  obtain ⟨t, ha, ev⟩ := ha
  have ev := EvN.of ev
  refine ⟨_, ps_set hN hi hx (pe_lst ha) hs hf, fun ε s σ G0 H0 m0 G H m D x p r hp => ev ε s σ H0 G H m _ x.toSt3 p r (hp.next x r fun d s1 G1 H1 m1 v x1 p1 r1 hp1 => ?_)⟩
  split at hp1
  · rename_i hz
    refine ⟨by rw [r1.length]; exact hz, fun q hq => ?_⟩
    obtain ⟨x2, r2⟩ := own_new (vs := .lst v) i (x.trans x1) (r.mono x1) (xs := .l d) ⟨_, rfl, r1⟩ hq
    refine hp1 G1 _ m1 _ x2 (w.stay p1 (Sub.refl _) fun y o hy ey => ?_) r2
    rw [upd_ne (ne_of_none ey hq)]
    exact ey
  · exact hp1.elim
theorem own_write {K : PySem.W.Frag} {G0 H0 G H : Hp} {m0 m : Addr → Prop} {σ : L2.St} {ε : Sn} {xs ys : Ow} {ws : HO} {q : Addr} {i : Nat} (x : Ext G0 H0 m0 G H m) (r : RepS K Γ G H0 H m σ ε) (he : ε[i]? = some (some (.ow xs))) (hq : σ[i]? = some (some (.ref q))) (l : RepW K Γ G ys ws) :
    Ext G0 H0 m0 G (upd H q ws) m ∧ RepS K Γ G H0 (upd H q ws) m σ (ε.set i (some (.ow ys))) ∧ ¬ m q := by
  obtain ⟨a, vs, h1, h2, h3, h4, h5, h6, h7⟩ := r.ownAt he
  rw [hq] at h1
  have ea : q = a := V.ref.inj (Option.some.inj (Option.some.inj h1))
  subst ea
  exact ⟨x.mut h6 h4 h5 l.nt, r.write he hq l h4 h5 h6 h7, h5⟩
/-- x.append(e), x an owned list -/
def sApp (i : Nat) (f : Sn → S → R S D) : Sn → S → SR S := fun ε s => match ε[i]? with
  | some (some (.ow (.l xs))) => bindS (f ε s) ε fun d s1 => if xs.length < sizeLine then .nx (ε.set i (some (.ow (.l (xs ++ [d]))))) s1 else .no
  | _ => .no
theorem ds_app (i : Nat) {x : Str} {px p3 : Pos} {f : Sn → S → R S D} (he : DN Γ w W X a f) (hN : X.N[i]? = some x := by rfl) (hv : Vis X.env.scope x := by first | exact Or.inl rfl | exact Or.inr (Or.inl rfl) | exact Or.inr (Or.inr rfl)) (hd : (x == ("__debug__" : Str)) = false := by decide)
    (hcd : (x == ("__classdict__" : Str)) = false := by decide) (hs : swapsWith (.Call (.Attribute (.Name x px) "append" p3) [a] [] p2) none pos.line X.env = pure false := by rfl)
    (h1 : starEach [a] X.env = (false, eval a X.env) :: starEach [] X.env := by rfl) (hfew : ((backTo p2 (starEach [a] X.env)).all (fun x => !x.1) && (backToKw p2 (keywordEach [] X.env)).all (fun x => x.1.isSome)
      && decide (([a]).length + ([] : List Keyword).length + (if ([] : List Keyword).isEmpty then 0 else 1) < 30)) = true := by rfl) (hbase : attributeBase (.Name x px) "append" X.env (eval (.Name x px) X.env) = eval (.Name x px) X.env := by rfl) (hline : (p3.endLine == p2.line) = true := by rfl) :
    DS Γ w W X (.Expr (.Call (.Attribute (.Name x px) "append" p3) [a] [] p2) pos) (sApp i f) := by
  obtain ⟨t, he, ev⟩ := he
  refine ⟨_, ps_expr (pe_bm PySem.F.plainAttrs_list PySem.F.slot_list_append PySem.F.type_list_append mt_append (pe_var hN hv hd hcd) (pa_cons he pa_nil h1) hbase hfew hline h1 (by rfl)) hs, fun ε s σ G0 H0 m0 G H m D x p r hp => ?_⟩
  unfold sApp at hp
  split at hp
  · rename_i xs hx
    obtain ⟨q, _, k1, k2, ⟨vs, rfl, k3⟩, k4, k5, k6, k7⟩ := r.ownAt hx
    refine ⟨_, k1, .inl ⟨rfl, _, SqL.of k2⟩, ev ε s σ H0 G H m _ x.toSt3 p r (hp.next x r fun d s1 G1 H1 m1 v x1 p1 r1 hp1 => ?_)⟩
    split at hp1
    · rename_i hz
      have e1 := x1.keep q _ k5 k2
      obtain ⟨x2, r2, n2⟩ := own_write (x.trans x1) (r.mono x1) hx k1 (ys := .l (xs ++ [d])) ⟨_, rfl, (k3.mono x1.gg).append (RepL.cons r1 RepL.nil)⟩
      refine ⟨q, vs, v, rfl, rfl, e1, by rw [k3.length]; exact hz, hp1 G1 _ m1 σ x2 (w.stay p1 (Sub.refl _) fun y o hy ey => ?_) r2⟩
      rw [upd_ne fun z => by rw [z] at hy; exact n2 hy]
      exact ey
    · exact hp1.elim
  · exact hp.elim
/-- x.extend(e), e a list -/
def sExt (i : Nat) (f : Sn → S → R S D) : Sn → S → SR S := fun ε s => match ε[i]? with
  | some (some (.ow (.l xs))) => bindS (f ε s) ε fun d s1 => match d with
    | .lst ys => if xs.length + ys.length ≤ sizeLine then .nx (ε.set i (some (.ow (.l (xs ++ ys))))) s1 else .no
    | _ => .no
  | _ => .no
theorem ds_ext (i : Nat) {x : Str} {px p3 : Pos} {f : Sn → S → R S D} (he : DN Γ w W X a f) (hN : X.N[i]? = some x := by rfl) (hv : Vis X.env.scope x := by first | exact Or.inl rfl | exact Or.inr (Or.inl rfl) | exact Or.inr (Or.inr rfl)) (hd : (x == ("__debug__" : Str)) = false := by decide)
    (hcd : (x == ("__classdict__" : Str)) = false := by decide) (hs : swapsWith (.Call (.Attribute (.Name x px) "extend" p3) [a] [] p2) none pos.line X.env = pure false := by rfl)
    (h1 : starEach [a] X.env = (false, eval a X.env) :: starEach [] X.env := by rfl) (hfew : ((backTo p2 (starEach [a] X.env)).all (fun x => !x.1) && (backToKw p2 (keywordEach [] X.env)).all (fun x => x.1.isSome)
      && decide (([a]).length + ([] : List Keyword).length + (if ([] : List Keyword).isEmpty then 0 else 1) < 30)) = true := by rfl) (hbase : attributeBase (.Name x px) "extend" X.env (eval (.Name x px) X.env) = eval (.Name x px) X.env := by rfl) (hline : (p3.endLine == p2.line) = true := by rfl) :
    DS Γ w W X (.Expr (.Call (.Attribute (.Name x px) "extend" p3) [a] [] p2) pos) (sExt i f) := by
  obtain ⟨t, he, ev⟩ := he
  refine ⟨_, ps_expr (pe_bm PySem.F.plainAttrs_list PySem.F.slot_list_extend PySem.F.type_list_extend mt_extend (pe_var hN hv hd hcd) (pa_cons he pa_nil h1) hbase hfew hline h1 (by rfl)) hs, fun ε s σ G0 H0 m0 G H m D x p r hp => ?_⟩
  unfold sExt at hp
  split at hp
  · rename_i xs hx
    obtain ⟨q, _, k1, k2, ⟨vs, rfl, k3⟩, k4, k5, k6, k7⟩ := r.ownAt hx
    refine ⟨_, k1, .inl ⟨rfl, _, SqL.of k2⟩, ev ε s σ H0 G H m _ x.toSt3 p r (hp.next x r fun d s1 G1 H1 m1 v x1 p1 r1 hp1 => ?_)⟩
    split at hp1
    · split at hp1
      · rename_i hz
        simp only [Rep] at r1
        obtain ⟨b1, ws, rfl, t1, l1⟩ := r1
        have e1 := x1.keep q _ k5 k2
        obtain ⟨x2, r2, n2⟩ := own_write (x.trans x1) (r.mono x1) hx k1 (ys := .l (xs ++ _)) ⟨_, rfl, (k3.mono x1.gg).append l1⟩
        refine ⟨q, b1, vs, ws, rfl, rfl, e1, x1.sub _ _ t1, by rw [k3.length, l1.length]; exact hz, hp1 G1 _ m1 σ x2 (w.stay p1 (Sub.refl _) fun y o hy ey => ?_) r2⟩
        rw [upd_ne fun z => by rw [z] at hy; exact n2 hy]
        exact ey
      · exact hp1.elim
    · exact hp1.elim
  · exact hp.elim
/-- x += e -/
def sAug (i : Nat) (g : D → D → S → R S D) (f : Sn → S → R S D) : Sn → S → SR S := fun ε s => match ε[i]? with
  | some (some (.d x)) => bindS (f ε s) ε fun y s1 => bindS (g x y s1) ε fun z s2 => .nx (ε.set i (some (.d z))) s2
  | _ => .no
structure Ip2 (Γ : Pm) (w : Wo S) (W : WX) (X : Cx) (op : Operator) (g : D → D → S → R S D) : Prop where
  ex : ∃ r, PIp X op r ∧ Lf2 X.K Γ w W r g
theorem ds_aug (i : Nat) {x : Str} {pos' : Pos} {op : Operator} {g : D → D → S → R S D} {f : Sn → S → R S D} (ho : Ip2 Γ w W X op g) (he : DN Γ w W X a f) (hN : X.N.Nodup) (hi : X.N[i]? = some x) (hx : Loc X.env.scope x)
    (hf : X.fn x = true ∨ X.env.scope.names.lookup x = some .local := by first | exact .inl rfl | exact .inr rfl | assumption) : DS Γ w W X (.AugAssign (.Name x pos') op a pos) (sAug i g f) := by
  obtain ⟨t, he, ev⟩ := he
  obtain ⟨r2, ho, lf⟩ := ho
  refine ⟨_, ps_aug hN hi hx he ho hf, fun ε s σ G0 H0 m0 G H m D x p r hp => ?_⟩
  unfold sAug at hp
  split at hp
  · rename_i y hy
    obtain ⟨v, h1, h2⟩ := r.dat i y hy
    refine ⟨v, h1, ev ε s σ H0 G H m _ x.toSt3 p r (hp.next x r fun d s1 G1 H1 m1 v1 x1 p1 r1 hp1 => ?_)⟩
    refine lf _ _ v v1 s1 σ G1 H1 m1 _ x1.toSt3 p1 (h2.mono x1.gg) r1 (hp1.next (x.trans x1) (r.mono x1) fun d2 s2 G2 H2 m2 v2 x2 p2 r2 hp2 => ?_)
    exact hp2 G2 H2 m2 _ ((x.trans x1).trans x2) p2 (((r.mono x1).mono x2).setD i r2)
  · exact hp.elim
def gAddI : D → D → S → R S D
  | .int i, .int j, s => .ok (.int (i + j)) s
  | _, _, _ => .no
theorem ip2_add : Ip2 Γ w W X .Add gAddI := by
  refine ⟨_, ip_add, fun d e x y s σ G H m Q h3 p r1 r2 hp => ?_⟩
  unfold gAddI at hp
  split at hp
  · simp only [Rep] at r1 r2
    exact ⟨_, _, r1, r2, hp.val h3 p (by simp only [Rep])⟩
  · exact hp.elim

/-! ### loops -/
def whileF (c : Sn → S → R S Bool) (b : Sn → S → SR S) : Nat → Sn → S → SR S
  | 0, _, _ => .no
  | n + 1, ε, s => bindS (c ε s) ε fun t s1 => match t with
    | true => match b ε s1 with
      | .nx ε' s' => whileF c b n ε' s'
      | .ct ε' s' => whileF c b n ε' s'
      | .bk ε' s' => .nx ε' s'
      | r => r
    | false => .nx ε s1
open Classical in
noncomputable def whileD (c : Sn → S → R S Bool) (b : Sn → S → SR S) : Sn → S → SR S := fun ε s => if h : ∃ n, whileF c b n ε s ≠ .no then whileF c b (choose h) ε s else .no
theorem ds_while {body : List Stmt} {gc : Sn → S → R S Bool} {g : Sn → S → SR S} (hp : PassesOwn (model X.prog X.w) X.A X.env X.xe) (hc : DNB Γ w W X c gc) (hb : DSs Γ w W X body g) : DS Γ w W X (.While c body [] pos) (whileD gc g) := by
  obtain ⟨tc, hc, ec⟩ := hc
  obtain ⟨tb, hb, eb⟩ := hb
  refine ⟨_, ps_while hp hc hb, fun ε s σ G0 H0 m0 G H m D x p r hq => ?_⟩
  have ex : ∃ n, PostS X.K Γ w W G0 H0 m0 (whileF gc g n ε s) D := by
    unfold whileD at hq
    split at hq
    · exact ⟨_, hq⟩
    · exact hq.elim
  obtain ⟨n, hn⟩ := ex
  refine ⟨fun k σ H => ∃ ε s G m, Ext G0 H0 m0 G H m ∧ w.P s G H m ∧ RepS X.K Γ G H0 H m σ ε ∧ PostS X.K Γ w W G0 H0 m0 (whileF gc g k ε s) D, ⟨n, ε, s, G, m, x, p, r, hn⟩, ?_⟩
  rintro k σ H ⟨ε, s, G, m, x, p, r, hk⟩
  cases k with
  | zero => exact hk.elim
  | succ k =>
    simp only [whileF] at hk
    refine ec ε s σ H0 G H m _ x.toSt3 p r (hk.next x r fun d s1 G1 H1 m1 v x1 p1 r1 hp1 => ?_)
    subst r1
    cases d with
    | true =>
      rw [if_pos rfl]
      refine ⟨fun σ' H' => ∃ ε s G m, Ext G0 H0 m0 G H' m ∧ w.P s G H' m ∧ RepS X.K Γ G H0 H' m σ' ε ∧ PostS X.K Γ w W G0 H0 m0 (whileF gc g k ε s) D, fun σ' H' q => ⟨k, Nat.lt_succ_self k, q⟩, eb ε s1 σ G0 H0 m0 G1 H1 m1 _ (x.trans x1) p1 (r.mono x1) ?_⟩
      simp only at hp1
      cases e : g ε s1 with
      | nx ε' s' => rw [e] at hp1; exact fun G' H' m' σ' x' p' r' => ⟨ε', s', G', m', x', p', r', hp1⟩
      | ct ε' s' => rw [e] at hp1; exact fun G' H' m' σ' x' p' r' => ⟨ε', s', G', m', x', p', r', hp1⟩
      | bk ε' s' => rw [e] at hp1; exact hp1
      | rt d s' => rw [e] at hp1; exact hp1
      | rl d s' => rw [e] at hp1; exact hp1
      | er d s' s2 => rw [e] at hp1; exact hp1
      | no => rw [e] at hp1; exact hp1
    | false =>
      rw [if_neg Bool.false_ne_true]
      exact hp1 G1 H1 m1 σ (x.trans x1) p1 (r.mono x1)
def forL (T : Tg) (b : Sn → S → SR S) : List D → Sn → S → SR S
  | [], ε, s => .nx ε s
  | x :: xs, ε, s => match setTn T x ε with
    | none => .no
    | some ε1 => match b ε1 s with
      | .nx ε' s' => forL T b xs ε' s'
      | .ct ε' s' => forL T b xs ε' s'
      | .bk ε' s' => .nx ε' s'
      | r => r
def sFor (fi : Sn → S → R S (List D)) (T : Tg) (b : Sn → S → SR S) : Sn → S → SR S := fun ε s => bindS (fi ε s) ε fun items s1 => forL T b items ε s1
theorem ds_for {tg iter : Expr} {body : List Stmt} {fi : Sn → S → R S (List D)} {T : Tg} {g : Sn → S → SR S} (hp : PassesOwn (model X.prog X.w) X.A X.env X.xe) (hc : X.calm = true) (hi : DNI Γ w W X tg iter fi) (hg : DG X tg T) (hb : DSs Γ w W X body g)
    (hs : ∀ x, foldedSetIterable iter X.env x = pure x := by intro _; rfl) : DS Γ w W X (.For tg iter body [] pos) (sFor fi T g) := by
  obtain ⟨wi, hi, ei⟩ := hi
  obtain ⟨t, hg, kg⟩ := hg
  obtain ⟨tb, hb, eb⟩ := hb
  refine ⟨_, ps_for hp hc hi hg hb hs, fun ε s σ G0 H0 m0 G H m D x p r hq => ei ε s σ H0 G H m _ x.toSt3 p r (hq.next x r fun items s1 G1 H1 m1 J x1 p1 wk hp1 => ?_)⟩
  refine ⟨fun i k σ H' => k = items.length - i ∧ i ≤ items.length ∧ ∃ ε s G m, Ext G0 H0 m0 G H' m ∧ Sub G1 G ∧ w.P s G H' m ∧ RepS X.K Γ G H0 H' m σ ε ∧ PostS X.K Γ w W G0 H0 m0 (forL T g (items.drop i) ε s) D,
    ⟨items.length, by simp, Nat.zero_le _, ε, s1, G1, m1, x.trans x1, Sub.refl _, p1, r.mono x1, hp1⟩, ?_⟩
  rintro i k σ H' ⟨rfl, hi', ε, s, G, m, x', hsub, p, r, hk⟩
  by_cases hlt : i < items.length
  · refine .inr ⟨wk.go i H' (hsub.trans x'.sub) hlt, fun σ' H'' => ∃ ε s G m, Ext G0 H0 m0 G H'' m ∧ Sub G1 G ∧ w.P s G H'' m ∧ RepS X.K Γ G H0 H'' m σ' ε ∧ PostS X.K Γ w W G0 H0 m0 (forL T g (items.drop (i + 1)) ε s) D,
      fun σ' H'' q => ⟨items.length - (i + 1), by omega, rfl, hlt, q⟩, fun v Hx hy => ?_⟩
    have hd : items[i]? = some items[i] := List.getElem?_eq_getElem hlt
    have hdrop : items.drop i = items[i] :: items.drop (i + 1) := List.drop_eq_getElem_cons hlt
    rw [hdrop] at hk
    generalize items[i] = d at hd hk
    obtain ⟨G2, x2, p2, rx⟩ : ∃ G2, Ext G H' m G2 Hx m ∧ w.P s G2 Hx m ∧ Rep X.K Γ G2 d v := by
      rcases wk.yld i H' v Hx d (hsub.trans x'.sub) hd hy with ⟨rfl, rx⟩ | ⟨q, o, vs, ds, hq, ho, rfl, rfl, rfl, rx⟩
      · exact ⟨G, Ext.refl x'.toSt3, p, rx.mono hsub⟩
      · have xn := (Ext.refl x'.toSt3).new (o := .frz o (.tup vs)) hq
        refine ⟨_, xn, w.stay p xn.gg fun y o hy' ey => ?_, ?_⟩
        · rw [upd_ne (ne_of_none ey hq)]
          exact ey
        · simp only [Rep]
          exact ⟨q, vs, rfl, SqP.of upd_same ho, (rx.mono hsub).mono xn.gg⟩
    simp only [forL] at hk
    refine kg _ _ _ _ ?_
    cases hset : setTn T d ε with
    | none => rw [hset] at hk; exact hk.elim
    | some ε1 =>
      rw [hset] at hk
      have xb : Ext G0 H0 m0 G1 H1 m1 := x.trans x1
      have xc := x'.trans x2
      refine setTn_to x2.sub rx (r.mono x2) hset fun σ' r' => eb ε1 s σ' G1 H0 m0 G2 Hx m _ (xc.re1 xb.gg (hsub.trans x2.gg)) p2 r' ?_
      simp only at hk
      cases e : g ε1 s with
      | nx ε' s' => rw [e] at hk; exact fun G' H'' m' σ'' x'' p'' r'' => ⟨ε', s', G', m', xb.re2 x'', x''.gg, p'', r'', hk⟩
      | ct ε' s' => rw [e] at hk; exact fun G' H'' m' σ'' x'' p'' r'' => ⟨ε', s', G', m', xb.re2 x'', x''.gg, p'', r'', hk⟩
      | bk ε' s' => rw [e] at hk; exact hk.re xb
      | rt d s' => rw [e] at hk; exact hk.re xb
      | rl d s' => rw [e] at hk; exact hk.re xb
      | er d s' s2 => rw [e] at hk; exact hk.re xb
      | no => rw [e] at hk; exact hk
  · have ei : i = items.length := by omega
    subst ei
    refine .inl ⟨wk.stop H' (hsub.trans x'.sub), ?_⟩
    rw [List.drop_length] at hk
    exact hk G H' m σ x' p r
end
end Dm
namespace L2
open PySem PySem.Spec PyProof.Rows
section
variable {X : Cx} {o e : Expr} {es : List Expr} {to te : TE} {ta : TA} {f : Str} {p p' p1 p2 pos : Pos}
/-- SayError.__init__(self, ..): an own class's, which is ValueError's -/
structure SuperC (K : PySem.W.Frag) (SE : Addr) : Prop where
  sp : PySem.W.specialIn K (.ref SE) "__getattribute__" = some (some (.builtin "type.__getattribute__"))
  rd : PySem.W.readsIn K SE (.type "type") = true
  at_ : PySem.W.findCls K (.ref SE) (.type "type") "__init__" = some (.val (.builtin "ValueError.__init__"))
theorem pe_seinit {x : Str} {SE : Addr} {pl : Sem Bool} (hg : Gl X x) (hm : X.mg x = some (.ref SE)) (T : SuperC X.K SE) (ha : PA X (e :: es) ta)
    (hc : eval (.Call (.Attribute (.Name x p1) "__init__" p2) (e :: es) [] pos) X.env = (do
      let ov ← eval (.Name x p1) X.env
      standAt p2.atName
      let (f, first) ← holding [ov] (getMethod ov "__init__" pl)
      callWith pos f first (backTo pos (starEach (e :: es) X.env)) (backToKw pos (keywordEach [] X.env))) := by rfl) (hd : (x == ("__debug__" : Str)) = false := by decide)
    (he : starEach (e :: es) X.env = (false, eval e X.env) :: starEach es X.env := by rfl) (hpl : (backTo pos (starEach es X.env)).any (·.1) = false := by rfl) :
    PE X (.Call (.Attribute (.Name x p1) "__init__" p2) (e :: es) [] pos) (tVeI X.K ta) := by
  refine ⟨fun pins s σ H Q I h => ?_⟩
  refine PySem.W.methodCall_KW (ld_glob I hg hm ?_ hd) hc
  refine PySem.W.method_cls I.kIn T.sp (PySem.W.cls_value I.kIn T.rd T.at_ (by decide +kernel) ?_)
  show wpAny _ _ (callWith pos (Value.builtin "ValueError.__init__") [] (backTo pos (starEach (e :: es) X.env)) []) _ _ _
  refine PyProof.Rows.callWith_method1 (thn (ha.run pos pins _ σ H _ (I.tok _) h) fun us s1 ⟨vs, H1, I1, r1, a, C, ws, ev, hl, T, ea, q⟩ => ?_) he hpl
  subst ev
  cases r1 with
  | @cons _ u0 _ ur ra rw' =>
    obtain rfl : u0 = Value.ref a := ra
    have hlen : ur.length ≤ sizeLine := by
      rw [← Paired.length rw', sizeLine_eq]
      omega
    exact oinit_ok T I1 ea hlen fun s' J => ⟨.non, H1, J, rfl, q⟩
end
def smallN (n : Int) : Prop := n.natAbs.log2 < 1920
/-- __init__(self, f): SayError.__init__(self, f"t {f}"); self.f = f -/
def spI1 (K : PySem.W.Frag) (f1 : Str) : Sp := fun vs H Q _ => ∃ (a C : Addr) (n : Int), vs = [.ref a, .int n] ∧ OexC K C ∧ PySem.W.findIn K (.ref C) f1 = some none ∧ H a = some (exo a C none) ∧ smallN n ∧
  ∀ d H', H d = none → d ≠ a → H' = upd (upd H d (exd d [(f1, .int n)])) a (exo a C (some d)) → Q .non H'
def spI2 (K : PySem.W.Frag) (f1 f2 : Str) : Sp := fun vs H Q _ => ∃ (a C : Addr) (n m : Int), vs = [.ref a, .int n, .int m] ∧ OexC K C ∧ PySem.W.findIn K (.ref C) f1 = some none ∧ PySem.W.findIn K (.ref C) f2 = some none ∧ H a = some (exo a C none) ∧ smallN n ∧
  ∀ d H', H d = none → d ≠ a → H' = upd (upd H d (exd d [(f2, .int m), (f1, .int n)])) a (exo a C (some d)) → Q .non H'
def tInit1 (K : PySem.W.Frag) (t f1 : Str) : TS := tSeq (tDrop (tVeI K (tCons (tVar 0) (tCons (fun σ H Q => tJs [tC (.str t), tFmt (tVar 1)] Str.empty σ H fun out H1 => Q (.str out) H1) tNil)))) (tOst K f1 (tVar 0) (tVar 1))
def tInit2 (K : PySem.W.Frag) (t f1 f2 : Str) : TS := tSeq (tDrop (tVeI K (tCons (tVar 0) (tCons (fun σ H Q => tJs [tC (.str t), tFmt (tVar 1)] Str.empty σ H fun out H1 => Q (.str out) H1) tNil)))) (tSeq (tOst K f1 (tVar 0) (tVar 1)) (tOst K f2 (tVar 0) (tVar 2)))
theorem exo_ne_exd {a C d : Addr} {o : Option Addr} {H : Hp} {fs : List (Str × V)} (ha : H a = some (exo a C o)) (hn : H d = none) : d ≠ a := fun z => by rw [z, ha] at hn; cases hn
theorem str_app_len (a b : Str) : (a ++ b).length = a.length + b.length := Array.size_append
theorem small_text {n : Int} (h : smallN n) : (Str.ofString (toString n)).length ≤ 100000 := by
  have e := int_text_length_le (k := 1920) (by decide) h
  rw [PySem.ofString_length]
  omega
theorem exo_inj {a C : Addr} {dx : Option Addr} {H : Hp} (h : H a = some (exo a C dx)) : H a ≠ none := fun z => by rw [h] at z; cases z
theorem rd_init1 {K : PySem.W.Frag} {t f1 : Str} {vs : List V} {H : Hp} {Q : VK} {E : XK} (ht : t.length ≤ 100) (h : spI1 K f1 vs H Q E) : tInit1 K t f1 { nx := fun _ H' => Q .non H', rt := Q } (start ["self", f1] vs) H := by
  obtain ⟨a, C, n, rfl, T, hf, ha, hn, k⟩ := h
  have hs := small_text hn
  have hl : (Str.empty ++ t).length ≤ 100 := by rw [str_app_len]; show 0 + t.length ≤ 100; omega
  refine ⟨.ref a, rfl, ⟨t, rfl, Nat.le_trans hl (by decide), .int n, rfl, .inr ⟨n, rfl, hn, _, rfl, by rw [str_app_len, sizeLine_eq]; omega, ?_⟩⟩⟩
  refine ⟨a, C, _, rfl, by show 1 ≤ 1000; decide, T, ha, ?_⟩
  refine ⟨.int n, rfl, .ref a, rfl, a, C, rfl, T, hf, .inl ⟨ha, fun d hd hda => ?_⟩⟩
  exact k d _ hd hda rfl
theorem rd_init2 {K : PySem.W.Frag} {t f1 f2 : Str} {vs : List V} {H : Hp} {Q : VK} {E : XK} (ht : t.length ≤ 100) (h : spI2 K f1 f2 vs H Q E) : tInit2 K t f1 f2 { nx := fun _ H' => Q .non H', rt := Q } (start ["self", f1, f2] vs) H := by
  obtain ⟨a, C, n, m, rfl, T, hf, hf2, ha, hn, k⟩ := h
  have hs := small_text hn
  have hl : (Str.empty ++ t).length ≤ 100 := by rw [str_app_len]; show 0 + t.length ≤ 100; omega
  refine ⟨.ref a, rfl, ⟨t, rfl, Nat.le_trans hl (by decide), .int n, rfl, .inr ⟨n, rfl, hn, _, rfl, by rw [str_app_len, sizeLine_eq]; omega, ?_⟩⟩⟩
  refine ⟨a, C, _, rfl, by show 1 ≤ 1000; decide, T, ha, ?_⟩
  refine ⟨.int n, rfl, .ref a, rfl, a, C, rfl, T, hf, .inl ⟨ha, fun d hd hda => ?_⟩⟩
  refine ⟨.int m, rfl, .ref a, rfl, a, C, rfl, T, hf2, .inr ⟨d, [(f1, .int n)], upd_same, by rw [upd_ne hda, upd_same], by show 1 ≤ 900; decide, ?_⟩⟩
  refine k d _ hd hda ?_
  funext b
  by_cases hb : b = d
  · subst hb
    rw [upd_same, upd_ne hda, upd_same]
  · by_cases hb2 : b = a
    · subst hb2
      rw [upd_ne hb, upd_same, upd_same]
    · rw [upd_ne hb, upd_ne hb2, upd_ne hb, upd_ne hb2, upd_ne hb]
end L2
namespace Dm
open PySem L2 PySem.Spec PyProof.Rows
section
variable {S : Type} {Γ : Pm} {w : Wo S} {W : WX} {X : Cx} {pos p2 : Pos} {a b c : Expr} {es : List Expr}
/-- an expression that makes an error -/
structure DR (Γ : Pm) (w : Wo S) (X : Cx) (e : Expr) (f : En → S → R S Err) : Prop where
  ex : ∃ t : L2.St → Hp → XK → Prop, PMk X e t ∧ ∀ (η : En) (s : S) (σ : L2.St) (G H : Hp) (m : Addr → Prop) (Q : XK), St3 G H m → w.P s G H m → RepE X.K Γ G σ η →
    (match f η s with
      | .ok e s' => ∀ G' H' m' cls dx, Ext G H m G' H' m' → w.P s' G' H' m' → ErrAt Γ e cls dx H' → Q cls dx H'
      | _ => False) → t σ H Q
def sRaise (f : En → S → R S Err) : Sn → S → SR S := fun ε s => match f (hide ε) s with
  | .ok e s1 => .er e ε s1
  | _ => .no
theorem ds_raise {f : En → S → R S Err} (hc : X.calm = true) (tk : Takes X W) (he : DR Γ w X a f) : DS Γ w W X (.Raise (some a) none pos) (sRaise f) := by
  obtain ⟨t, he, ev⟩ := he
  refine ⟨_, ps_raise hc tk he, fun ε s σ G0 H0 m0 G H m D x p r hp => ev (hide ε) s σ G H m _ x.toSt3 p r.hide ?_⟩
  unfold sRaise at hp
  cases e : f (hide ε) s with
  | ok er s1 =>
    rw [e] at hp
    exact fun G' H' m' cls dx x' p' h => hp G' H' m' σ cls dx (x.trans x') p' (r.mono x') h
  | er er s1 => rw [e] at hp; exact hp
  | no => rw [e] at hp; exact hp
/-- X('..'), no __init__ of its own -/
theorem dr_own {x m : Str} {j : Nat} {p q pos : Pos} {C : Addr} {bmB : List Value} {B newId initId : String} (k : EK) (F : ExcBaseFacts B newId initId bmB) (hq : PySem.W.excIn X.K C bmB newId = true) (gC : X.mg x = some (.ref C)) (kC : PySem.W.keepIn X.K (.ref C) = true) (r : Raises X (.ref C)) (hg : Gl X x)
    (hca : Γ.ca k = C) (hdb : (x == ("__debug__" : Str)) = false := by decide) : DR Γ w X (.Call (.Name x p) [.Constant (.str m) j q] [] pos) (fun _ s => .ok ⟨k, []⟩ s) := by
  refine ⟨_, pmk_own F hq gC kC r hg hdb, fun η s σ G H m Q h3 p e hp => ?_⟩
  exact hp G H m _ _ (Ext.refl h3) p ⟨by rw [hca], rfl⟩
/-- X(n), an __init__ that keeps n -/
def sml (n : Int) : Bool := decide (n.natAbs.log2 < 1920)
def fErr1 (k : EK) (f1 : Str) (fs : En → S → R S (List D)) : En → S → R S Err := fun η s => (fs η s).bind fun ds s1 => match ds with
  | [.int n] => if sml n = true then .ok ⟨k, [(f1, n)]⟩ s1 else .no
  | _ => .no
def fErr2 (k : EK) (f1 f2 : Str) (fs : En → S → R S (List D)) : En → S → R S Err := fun η s => (fs η s).bind fun ds s1 => match ds with
  | [.int n, .int m] => if sml n = true then .ok ⟨k, [(f2, m), (f1, n)]⟩ s1 else .no
  | _ => .no
theorem made_heap {H : Hp} {a d : Addr} {fs : List (Str × V)} {o : HO} {fv : HO} (ha : H a = none) (hda : d ≠ a) : upd (del (upd (upd H d fv) a o) a) d (.xd fs) = upd H d (.xd fs) := by
  funext b
  by_cases hb : b = d
  · subst hb; rw [upd_same, upd_same]
  · rw [upd_ne hb, upd_ne hb]
    by_cases hb2 : b = a
    · subst hb2; rw [del_same, ha]
    · rw [del_ne hb2, upd_ne hb2, upd_ne hb]
theorem upd_upd' {H : Hp} {a d : Addr} {o u v : HO} (hda : d ≠ a) : upd (upd (upd H a o) d u) a v = upd (upd H d u) a v := by
  funext b
  by_cases hb : b = a
  · subst hb; rw [upd_same, upd_same]
  · rw [upd_ne hb, upd_ne hb]
    by_cases hb2 : b = d
    · subst hb2; rw [upd_same, upd_same]
    · rw [upd_ne hb2, upd_ne hb, upd_ne hb2]
theorem dr_init1 {x f1 : Str} {p : Pos} {C fI : Addr} {kk : Nat} {fd : FuncData} {ps : List Str} {fs : En → S → R S (List D)} (k : EK) (T : OexC X.K C) (hno : PySem.W.findIn X.K (.ref C) f1 = some none) (iC : PySem.W.findIn X.K (.ref C) "__init__" = some (some (.ref fI))) (tI : PySem.W.typeIn X.K (.ref fI) = some (.type "function"))
    (F1 : FnOk X.prog X.w X.K X.mg X.base (L2.CX X.prog X.w) kk fI fd ps (spI1 X.K f1)) (hr : Room (kk + 1) X.A) (hb : Binds X.K fd ps []) (tk : Takes X W) (hg : Gl X x) (hm : X.mg x = some (.ref C)) (ha : DA Γ w WF X (a :: es) fs) (hca : Γ.ca k = C)
    (hdb : (x == ("__debug__" : Str)) = false := by decide) (he : starEach (a :: es) X.env = (false, eval a X.env) :: starEach es X.env := by rfl) (hpl : (backTo pos (starEach es X.env)).any (·.1) = false := by rfl) :
    DR Γ w X (.Call (.Name x p) (a :: es) [] pos) (fErr1 k f1 fs) := by
  obtain ⟨t, ha, ev⟩ := ha
  refine ⟨_, pmk_oex T iC tI F1 hr hb .nil (passes_call (W := W) tk fun _ _ _ _ z => z.elim) hg hm ha hdb he hpl, fun η s σ G H m Q h3 p e hp => ev η s σ G H m _ h3 p e ?_⟩
  unfold fErr1 at hp
  cases e1 : fs η s with
  | no => rw [e1] at hp; exact hp
  | er er s1 => rw [e1] at hp; exact hp.elim
  | ok ds s1 =>
    rw [e1] at hp
    simp only [R.bind] at hp
    intro G' H' m' vs x' p' r'
    split at hp
    · rename_i hq
      split at hq
      · split at hq
        · rename_i n hn
          cases hq
          obtain ⟨v, rfl, r1⟩ := r'.one
          simp only [Rep] at r1
          subst r1
          refine ⟨by show 1 ≤ 1000; decide, fun a' ha' => ⟨a', C, n, rfl, T, hno, upd_same, (show smallN n from of_decide_eq_true (p := n.natAbs.log2 < 1920) hn), fun d H'' hd hda eH => ⟨rfl, d, [(f1, V.int n)], ?_, ?_, ?_, ?_⟩⟩⟩
          · rw [eH, upd_same]
          · rw [eH, upd_ne hda, upd_same]
          · rw [upd_ne hda] at hd; exact hd
          · have hd' : H' d = none := by rw [upd_ne hda] at hd; exact hd
            rw [eH, upd_upd' hda, made_heap ha' hda]
            have xn := (Ext.refl x'.toSt3).newO (o := .xd [(f1, .int n)]) hd'
            refine hp G' _ m' _ _ (x'.trans xn) (w.stay p' (Sub.refl _) fun y o hy ey => ?_) ⟨by rw [hca], d, rfl, upd_same⟩
            rw [upd_ne (ne_of_none ey hd')]
            exact ey
        · cases hq
      · cases hq
    · exact hp.elim
theorem dr_init2 {x f1 f2 : Str} {p : Pos} {C fI : Addr} {kk : Nat} {fd : FuncData} {ps : List Str} {fs : En → S → R S (List D)} (k : EK) (T : OexC X.K C) (hno : PySem.W.findIn X.K (.ref C) f1 = some none) (hno2 : PySem.W.findIn X.K (.ref C) f2 = some none) (iC : PySem.W.findIn X.K (.ref C) "__init__" = some (some (.ref fI))) (tI : PySem.W.typeIn X.K (.ref fI) = some (.type "function"))
    (F1 : FnOk X.prog X.w X.K X.mg X.base (L2.CX X.prog X.w) kk fI fd ps (spI2 X.K f1 f2)) (hr : Room (kk + 1) X.A) (hb : Binds X.K fd ps []) (tk : Takes X W) (hg : Gl X x) (hm : X.mg x = some (.ref C)) (ha : DA Γ w WF X (a :: es) fs) (hca : Γ.ca k = C)
    (hdb : (x == ("__debug__" : Str)) = false := by decide) (he : starEach (a :: es) X.env = (false, eval a X.env) :: starEach es X.env := by rfl) (hpl : (backTo pos (starEach es X.env)).any (·.1) = false := by rfl) :
    DR Γ w X (.Call (.Name x p) (a :: es) [] pos) (fErr2 k f1 f2 fs) := by
  obtain ⟨t, ha, ev⟩ := ha
  refine ⟨_, pmk_oex T iC tI F1 hr hb .nil (passes_call (W := W) tk fun _ _ _ _ z => z.elim) hg hm ha hdb he hpl, fun η s σ G H m Q h3 p e hp => ev η s σ G H m _ h3 p e ?_⟩
  unfold fErr2 at hp
  cases e1 : fs η s with
  | no => rw [e1] at hp; exact hp
  | er er s1 => rw [e1] at hp; exact hp.elim
  | ok ds s1 =>
    rw [e1] at hp
    simp only [R.bind] at hp
    intro G' H' m' vs x' p' r'
    split at hp
    · rename_i hq
      split at hq
      · split at hq
        · rename_i n m0 hn
          cases hq
          obtain ⟨v, u, rfl, r1, r2⟩ := r'.two
          simp only [Rep] at r1 r2
          subst r1
          subst r2
          refine ⟨by show 2 ≤ 1000; decide, fun a' ha' => ⟨a', C, n, m0, rfl, T, hno, hno2, upd_same, (show smallN n from of_decide_eq_true (p := n.natAbs.log2 < 1920) hn), fun d H'' hd hda eH => ⟨rfl, d, [(f2, V.int m0), (f1, V.int n)], ?_, ?_, ?_, ?_⟩⟩⟩
          · rw [eH, upd_same]
          · rw [eH, upd_ne hda, upd_same]
          · rw [upd_ne hda] at hd; exact hd
          · have hd' : H' d = none := by rw [upd_ne hda] at hd; exact hd
            rw [eH, upd_upd' hda, made_heap ha' hda]
            have xn := (Ext.refl x'.toSt3).newO (o := .xd [(f2, .int m0), (f1, .int n)]) hd'
            refine hp G' _ m' _ _ (x'.trans xn) (w.stay p' (Sub.refl _) fun y o hy ey => ?_) ⟨by rw [hca], d, rfl, upd_same⟩
            rw [upd_ne (ne_of_none ey hd')]
            exact ey
        · cases hq
      · cases hq
    · exact hp.elim

/-! ### a def of the text holds its promise -/
def startN (n : Nat) (ds : List D) : Sn := ds.map (fun d => some (.d d)) ++ List.replicate (n - ds.length) none
def fnF (n p : Nat) (body : Sn → S → SR S) : List D → S → R S D := fun ds s => if ds.length = p then match body (startN n ds) s with
  | .nx _ s' => .ok .non s'
  | .rt d s' => .ok d s'
  | .rl xs s' => .ok (.lst xs) s'
  | .er e _ s' => .er e s'
  | _ => .no
  else .no
theorem repS_start {K : PySem.W.Frag} {G H : Hp} {m : Addr → Prop} {N : List Str} {ds : List D} {vs : List V} (r : RepL K Γ G ds vs) : RepS K Γ G H H m (L2.start N vs) (startN N.length ds) where
  len := by
    unfold L2.start startN
    simp only [List.length_append, List.length_map, List.length_replicate, r.length]
  dat := fun i x h => by
    unfold startN at h
    unfold L2.start
    by_cases hi : i < ds.length
    · rw [List.getElem?_append_left (by simpa using hi), List.getElem?_map] at h
      cases q : ds[i]? with
      | none => rw [q] at h; cases h
      | some d =>
        rw [q] at h
        have e : d = x := by
          simp only [Option.map_some, Option.some.injEq, O.d.injEq] at h
          exact h
        subst e
        obtain ⟨v, h1, h2⟩ := r.get q
        refine ⟨v, ?_, h2⟩
        rw [List.getElem?_append_left (by rw [List.length_map, r.length]; exact hi), List.getElem?_map, h1]
        rfl
    · rw [List.getElem?_append_right (by simpa using hi), List.getElem?_replicate] at h
      split at h <;> cases h
  own := by
    have no : ∀ (i : Nat) (xs : Ow), (startN N.length ds)[i]? = some (some (.ow xs)) → False := fun i xs h => by
      unfold startN at h
      by_cases hi : i < ds.length
      · rw [List.getElem?_append_left (by simpa using hi), List.getElem?_map] at h
        cases q : ds[i]? with
        | none => rw [q] at h; cases h
        | some d => rw [q] at h; simp at h
      · rw [List.getElem?_append_right (by simpa using hi), List.getElem?_replicate] at h
        split at h <;> cases h
    exact ⟨fun _ => 0, fun i xs h => (no i xs h).elim, fun i j xs ys h _ _ => (no i xs h).elim⟩
section
variable {P : Program} {wd : World} {K : PySem.W.Frag} {mg : Str → Option Value} {base : Heap} {ca : EK → Addr} {wf : Pm → Wo S}
theorem fn_ok {x qual : Str} {st : Stmt} {f : Addr} {fd : FuncData} {N ps : List Str} {k : Nat} {body : Sn → S → SR S} (F : Fun K x qual st f fd) (S : FnScope N ps (defScope st))
    (hbody : ∀ (cdv : Value) (A : Around) (outer : List Env) (s : Shared) (H : Hp) (E : XK) (rho : Nat → Addr), Room k (A.deeper (envOfC qual (defScope st) s.heap.objs.size f cdv)) →
      DSs ⟨rho, ca⟩ (wf ⟨rho, ca⟩) (fun c d _ H' => E c d H') (cxOf (L2.CX P wd) P wd K mg base N qual (defScope st) f cdv A outer s H E) (defBody st) body) :
    FnOk P wd K mg base (L2.CX P wd) (k + 1) f fd ps (spW K ca wf (fnF N.length ps.length body)) := by
  refine F.okX S (fun vs H Q E h => ?_) (fun cdv A outer s H vs Q E hr h => ?_)
  · obtain ⟨rho, G, m, ds, s, h3, p, r, hp⟩ := h
    unfold fnF at hp
    split at hp
    · rename_i hl
      rw [r.length]
      exact hl
    · exact hp.elim
  · obtain ⟨rho, G, m, ds, s', h3, p, r, hp⟩ := h
    obtain ⟨t, ht, ev⟩ := hbody cdv A outer s H E rho hr
    refine ⟨t, ht, ev (startN N.length ds) s' _ G H m G H m _ (Ext.refl h3) p (repS_start r) ?_⟩
    unfold fnF at hp
    split at hp
    · cases e : body (startN N.length ds) s' with
      | nx ε s2 => rw [e] at hp; exact fun G' H' m' σ' x' p' _ => hp G' H' m' _ x' p' (by simp only [Rep])
      | rt d s2 => rw [e] at hp; exact fun G' H' m' v x' p' r' => hp G' H' m' _ x' p' r'
      | rl xs s2 =>
        rw [e] at hp
        intro G' H' m' a vs' x' p' h0 hg hm' h1 r'
        have xf := x'.freeze h0 h1 hg hm'
        have sb : Sub G' (upd G' a (.lst vs')) := fun z u e => by
          rw [upd_ne fun q => by rw [q, hg] at e; cases e]
          exact e
        refine hp _ H' m' _ xf ((wf ⟨rho, ca⟩).stay p' sb fun _ _ _ e => e) ?_
        simp only [Rep]
        exact ⟨a, vs', rfl, upd_same, r'.mono sb⟩
      | er er ε s2 => rw [e] at hp; exact fun G' H' m' σ' cls dx x' p' _ he => hp G' H' m' cls dx x' p' he
      | bk ε s2 => rw [e] at hp; exact hp.elim
      | ct ε s2 => rw [e] at hp; exact hp.elim
      | no => rw [e] at hp; exact hp.elim
    · exact hp.elim
/-- a def whose every end is a new list -/
def fnL (n p : Nat) (body : Sn → S → SR S) : List D → S → R S (List D) := fun ds s => if ds.length = p then match body (startN n ds) s with
  | .rl xs s' => .ok xs s'
  | .er e _ s' => .er e s'
  | _ => .no
  else .no
end
end
end Dm
namespace Dm
open PySem L2 PySem.Spec PyProof.Rows
section
variable {S S1 : Type} {Γ : Pm} {w : Wo S} {W : WX} {X : Cx} {pos p2 : Pos} {a b c : Expr} {es : List Expr} {fa fb fc : En → S → R S D}
abbrev gLt {S : Type} : D → D → S → R S D := gOrd (fun i j => decide (i < j)) fun i j => decide (i < j)
abbrev gLe {S : Type} : D → D → S → R S D := gOrd (fun i j => decide (i ≤ j)) fun i j => !decide (j < i)
abbrev gGt {S : Type} : D → D → S → R S D := gOrd (fun i j => decide (j < i)) fun i j => decide (j < i)
abbrev gGe {S : Type} : D → D → S → R S D := gOrd (fun i j => decide (j ≤ i)) fun i j => !decide (i < j)
def gNeg : D → S → R S D
  | .int i, s => .ok (.int (-i)) s
  | _, _ => .no
theorem de_neg (ha : DE Γ w W X a fa) : DE Γ w W X (.UnaryOp .USub a pos) (f1 gNeg fa) := by
  obtain ⟨t, ha, ea⟩ := ha
  refine ⟨_, pe_un un_neg ha, fun η s σ G H m Q h3 p e hp => ea η s σ G H m _ h3 p e (hp.next fun d1 s1 G1 H1 m1 v1 x1 p1 r1 hp1 => ?_)⟩
  unfold gNeg at hp1
  split at hp1
  · simp only [Rep] at r1
    exact ⟨_, r1, hp1.val x1.toSt3 p1 (by simp only [Rep])⟩
  · exact hp1.elim
/-! join -/
def strsOf : List D → Option (List (List Nat))
  | [] => some []
  | .str l :: ds => (strsOf ds).map (l :: ·)
  | _ :: _ => none
theorem strsOf_rep {K : PySem.W.Frag} {G : Hp} : ∀ {ds : List D} {vs : List V} {ls : List (List Nat)}, RepL K Γ G ds vs → strsOf ds = some ls → vs = (ls.map tx).map V.str
  | [], vs, ls, h, e => by simp only [RepL] at h; simp only [strsOf] at e; cases e; subst h; rfl
  | d :: ds, vs, ls, h, e => by
    simp only [RepL] at h
    obtain ⟨v, vs', rfl, h1, h2⟩ := h
    cases d with
    | str l =>
      simp only [strsOf] at e
      cases q : strsOf ds with
      | none => rw [q] at e; cases e
      | some ls' =>
        rw [q] at e
        cases e
        simp only [Rep] at h1
        subst h1
        rw [strsOf_rep h2 q]
        rfl
    | _ => simp only [strsOf] at e; cases e
def glue (x : List Nat) : List (List Nat) → List Nat
  | [] => []
  | [p] => p
  | p :: q :: r => p ++ (x ++ glue x (q :: r))
theorem tx_glue (x : List Nat) : ∀ ls : List (List Nat), Str.join (tx x) (ls.map tx) = tx (glue x ls)
  | [] => rfl
  | [_] => rfl
  | p :: q :: r => by
    show tx p ++ tx x ++ Str.join (tx x) ((q :: r).map tx) = tx (p ++ (x ++ glue x (q :: r)))
    rw [tx_glue x (q :: r), tx_app, tx_app, List.append_assoc]
def gJoin (x : List Nat) : D → S → R S D
  | .lst ds, s => match strsOf ds with
    | some ls => if (ls.map List.length).sum + ls.length * x.length ≤ 16777216 then .ok (.str (glue x ls)) s else .no
    | none => .no
  | _, _ => .no
def fJoin (fo fe : En → S → R S D) : En → S → R S D := fun η s => (fo η s).bind fun x s1 => match x with
  | .str x => (fe η s1).bind fun y s2 => gJoin x y s2
  | _ => .no
theorem de_join {o e : Expr} {apos cpos : Pos} {fo fe : En → S → R S D} (ho : DE Γ w W X o fo) (he : DE Γ w W X e fe) (hs : starEach [e] X.env = [(false, eval e X.env)] := by rfl) (hbase : attributeBase o "join" X.env (eval o X.env) = eval o X.env := by rfl)
    (hline : (apos.endLine == cpos.line) = true := by rfl) : DE Γ w W X (.Call (.Attribute o "join" apos) [e] [] cpos) (fJoin fo fe) := by
  obtain ⟨ta, ho, ea⟩ := ho
  obtain ⟨tb, he, eb⟩ := he
  refine ⟨_, pe_join ho he hs hbase hline, fun η s σ G H m Q h3 p e hp => ea η s σ G H m _ h3 p e (hp.next fun d1 s1 G1 H1 m1 v1 x1 p1 r1 hp1 => ?_)⟩
  split at hp1
  · rename_i x
    simp only [Rep] at r1
    refine ⟨⟨_, r1⟩, eb η s1 σ G1 H1 m1 _ x1.toSt3 p1 (e.mono x1.gg) (hp1.next fun d2 s2 G2 H2 m2 v2 x2 p2 r2 hp2 => ?_)⟩
    unfold gJoin at hp2
    split at hp2
    · rename_i ds
      split at hp2
      · rename_i ls hls
        split at hp2
        · rename_i hz
          simp only [Rep] at r2
          obtain ⟨q, vs, rfl, t2, l2⟩ := r2
          have := strsOf_rep l2 hls
          subst this
          refine ⟨tx x, q, ls.map tx, r1, rfl, .inl (SqL.of (x2.sub _ _ t2)), ?_, ?_⟩
          · rw [List.map_map, List.length_map, tx_len]
            have e0 : ((fun z : Str => z.length) ∘ tx) = (List.length : List Nat → Nat) := by funext l; exact tx_len l
            rw [e0]
            exact hz
          · refine hp2.val x2.toSt3 p2 ?_
            simp only [Rep]
            rw [TL.join_eq, tx_glue]
        · exact hp2.elim
      · exact hp2.elim
    · exact hp2.elim
  · exact hp1.elim
end
end Dm
namespace Dm
open PySem L2 PySem.Spec PyProof.Rows
/-! ### lists that nobody else knows: as values -/
section
variable {S S1 : Type} {Γ : Pm} {w : Wo S} {W : WX} {X : Cx} {pos p2 : Pos} {a b c : Expr} {es : List Expr} {fa fb fc : En → S → R S D}
def PostL (K : PySem.W.Frag) (Γ : Pm) (w : Wo S) (W : WX) (σ : L2.St) (G H : Hp) (m : Addr → Prop) (r : R S (List D)) (Q : VK) : Prop := match r with
  | .ok xs s' => ∀ G' H' m' a vs, Ext G H m G' H' m' → w.P s' G' H' m' → H a = none → G' a = none → ¬ m' a → H' a = some (.lst vs) → RepL K Γ G' xs vs → Q (.ref a) H'
  | .er e s' => ∀ G' H' m' cls dx, Ext G H m G' H' m' → w.P s' G' H' m' → ErrAt Γ e cls dx H' → W cls dx σ H'
  | .no => False
def EvL (K : PySem.W.Frag) (Γ : Pm) (w : Wo S) (W : WX) (t : TE) (f : En → S → R S (List D)) : Prop :=
  ∀ (η : En) (s : S) (σ : L2.St) (G H : Hp) (m : Addr → Prop) (Q : VK), St3 G H m → w.P s G H m → RepE K Γ G σ η → PostL K Γ w W σ G H m (f η s) Q → t σ H Q
structure DL (Γ : Pm) (w : Wo S) (W : WX) (X : Cx) (e : Expr) (f : En → S → R S (List D)) : Prop where
  ex : ∃ t, PE X e t ∧ EvL X.K Γ w W t f
def asLst (f : En → S → R S (List D)) : En → S → R S D := fun η s => (f η s).bind fun xs s1 => .ok (.lst xs) s1
theorem upd_sub {G : Hp} {a : Addr} {o : HO} (h : G a = none) : Sub G (upd G a o) := fun z u e => by
  rw [upd_ne fun q => by rw [q, h] at e; cases e]
  exact e
theorem EvL.de {K : PySem.W.Frag} {t : TE} {f : En → S → R S (List D)} (h : EvL K Γ w W t f) : Ev K Γ w W (Rep K Γ) t (asLst f) := fun η s σ G H m Q h3 p e hp => h η s σ G H m Q h3 p e (by
  unfold asLst at hp
  cases q : f η s with
  | no => rw [q] at hp; exact hp
  | er e1 s1 => rw [q] at hp; exact hp
  | ok xs s1 =>
    rw [q] at hp
    intro G' H' m' a vs x p' h0 hg hm h1 r
    have xf := x.freeze h0 h1 hg hm
    have sb := upd_sub (o := .lst vs) hg
    refine hp _ H' m' _ xf (w.stay p' sb fun _ _ _ e => e) ?_
    simp only [Rep]
    exact ⟨a, vs, rfl, upd_same, r.mono sb⟩)
theorem DL.de {f : En → S → R S (List D)} (h : DL Γ w W X a f) : DE Γ w W X a (asLst f) := by
  obtain ⟨t, h, ev⟩ := h
  exact ⟨t, h, ev.de⟩
theorem PostL.nextC {α β : Type} {Rel : Hp → α → β → Prop} {K : PySem.W.Frag} {σ σ' : L2.St} {G0 H0 G H : Hp} {m0 m : Addr → Prop} {r : R S α} {k : α → S → R S (List D)} {Q : β → Hp → Prop} {Q2 : VK} (hp : PostL K Γ w W σ G0 H0 m0 (r.calm.bind k) Q2)
    (h : ∀ d s1 G1 H1 m1 v, Ext G H m G1 H1 m1 → w.P s1 G1 H1 m1 → Rel G1 d v → PostL K Γ w W σ G0 H0 m0 (k d s1) Q2 → Q v H1) : Post Γ w WF Rel σ' G H m r Q := by
  cases r with
  | ok d s => exact fun G' H' m' v e' p r => h d s G' H' m' v e' p r hp
  | er x s => exact (show False from hp).elim
  | no => exact hp
theorem PostL.shift {K : PySem.W.Frag} {σ : L2.St} {G H G1 H1 : Hp} {m m1 : Addr → Prop} {r : R S (List D)} {Q : VK} (e : Ext G H m G1 H1 m1) (h : PostL K Γ w W σ G H m r Q) : PostL K Γ w W σ G1 H1 m1 r Q := by
  cases r with
  | ok d s => exact fun G' H' m' a vs e' p h0 => h G' H' m' a vs (e.trans e') p (by
      cases q : H a with
      | none => rfl
      | some o => exact absurd h0 (e.there a (ne_some q)))
  | er x s => exact fun G' H' m' c d e' p r => h G' H' m' c d (e.trans e') p r
  | no => exact h
theorem PostL.next {α β : Type} {Rel : Hp → α → β → Prop} {K : PySem.W.Frag} {σ : L2.St} {G H : Hp} {m : Addr → Prop} {r : R S α} {k : α → S → R S (List D)} {Q : β → Hp → Prop} {Q2 : VK} (hp : PostL K Γ w W σ G H m (r.bind k) Q2)
    (h : ∀ d s1 G1 H1 m1 v, Ext G H m G1 H1 m1 → w.P s1 G1 H1 m1 → Rel G1 d v → PostL K Γ w W σ G1 H1 m1 (k d s1) Q2 → Q v H1) : Post Γ w W Rel σ G H m r Q := by
  cases r with
  | ok d s => exact fun G' H' m' v e' p r => h d s G' H' m' v e' p r (hp.shift e')
  | er x s => exact hp
  | no => exact hp
/-- the items of a comprehension, as a new list -/
def fCompL (fi : En → S → R S (List D)) (T : Tg) (own : List Nat) (c : En → S → R S Bool) (e : En → S → R S D) : En → S → R S (List D) := fun η s => (fi η s).bind fun items s1 =>
  if items.length ≤ sizeLine then compL T c e (wipeE η own) items s1 else .no
theorem lcL_ev {tg iter : Expr} {ifs : List Expr} {scope : Scope} {own : List Nat} {T : Tg} {fi : En → S → R S (List D)} {gc : En → S → R S Bool} (hi : DI Γ w W X tg iter fi) (hown : ∀ i ∈ T.slots, i ∈ own)
    (hg : ∀ (s : Shared) (H : Hp) (C : Addr) (cl : List (Str × Addr)) (fp : List Addr), DG (X.blk s H scope (compEnvC scope cl C X.env) fp) tg T) (ht : ∀ (s : Shared) (H : Hp) (C : Addr) (cl : List (Str × Addr)) (fp : List Addr), DTs Γ w WF (X.blk s H scope (compEnvC scope cl C X.env) fp) ifs gc)
    (he : ∀ (s : Shared) (H : Hp) (C : Addr) (cl : List (Str × Addr)) (fp : List Addr), DE Γ w WF (X.blk s H scope (compEnvC scope cl C X.env) fp) a fa) :
    ∃ wi g tt te, LcOk X tg iter ifs a scope wi g tt te ∧ EvL X.K Γ w W (tLc wi g tt te own) (fCompL fi T own gc fa) := by
  obtain ⟨wi, hi, evi⟩ := hi
  obtain ⟨g, hg', kg⟩ := dg_fam (ι := Shared × Hp × Addr × List (Str × Addr) × List Addr) (Xc := fun i => X.blk i.1 i.2.1 scope (compEnvC scope i.2.2.2.1 i.2.2.1 X.env) i.2.2.2.2) (K := X.K) (fun _ => rfl) fun i => hg i.1 i.2.1 i.2.2.1 i.2.2.2.1 i.2.2.2.2
  obtain ⟨tt, ht', evt⟩ := dts_fam (ι := Shared × Hp × Addr × List (Str × Addr) × List Addr) (Xc := fun i => X.blk i.1 i.2.1 scope (compEnvC scope i.2.2.2.1 i.2.2.1 X.env) i.2.2.2.2) (K := X.K) (fun _ => rfl) fun i => ht i.1 i.2.1 i.2.2.1 i.2.2.2.1 i.2.2.2.2
  obtain ⟨te, he', eve⟩ := de_fam (ι := Shared × Hp × Addr × List (Str × Addr) × List Addr) (Xc := fun i => X.blk i.1 i.2.1 scope (compEnvC scope i.2.2.2.1 i.2.2.1 X.env) i.2.2.2.2) (K := X.K) (fun _ => rfl) fun i => he i.1 i.2.1 i.2.2.1 i.2.2.2.1 i.2.2.2.2
  refine ⟨wi, g, tt, te, ⟨hi, fun s H C cl fp => hg' (s, H, C, cl, fp), fun s H C cl fp => ht' (s, H, C, cl, fp), fun s H C cl fp => he' (s, H, C, cl, fp)⟩, fun η s σ G H m Q h3 p e hp => evi η s σ G H m _ h3 p e (hp.next fun items s1 G1 H1 m1 J x1 p1 wk hp1 => ?_)⟩
  split at hp1
  · rename_i hz
    intro L hL
    have re := (e.mono x1.gg).wipe own
    have hp1 : PostL X.K Γ w W σ G1 H1 m1 ((compL T gc fa (wipeE η own) items s1).bind fun ys s2 => .ok ([] ++ ys) s2) Q := by
      have e0 : ((compL T gc fa (wipeE η own) items s1).bind fun ys s2 => (R.ok ([] ++ ys) s2 : R S (List D))) = compL T gc fa (wipeE η own) items s1 := by
        cases compL T gc fa (wipeE η own) items s1 <;> rfl
      rw [e0]
      exact hp1
    refine ⟨fun i k H' => k = items.length - i ∧ i ≤ items.length ∧ ∃ (G' : Hp) (m' : Addr → Prop) (s' : S) (acc : List D) (accV : List V), Ext G1 H1 m1 G' H' m' ∧ w.P s' G' H' m' ∧ G' L = none ∧ ¬ m' L ∧ H' L = some (.lst accV) ∧ RepL X.K Γ G' acc accV ∧ acc.length ≤ i ∧
      PostL X.K Γ w W σ G1 H1 m1 ((compL T gc fa (wipeE η own) (items.drop i) s').bind fun ys s2 => .ok (acc ++ ys) s2) Q, ⟨items.length, by simp, Nat.zero_le _, G1, m1, s1, [], [], (Ext.refl x1.toSt3).newO hL, ?_, ?_, fun z => x1.own L z hL, upd_same, RepL.nil, Nat.le_refl _, hp1⟩, ?_⟩
    · refine w.stay p1 (Sub.refl _) fun x o hx ex => ?_
      rw [upd_ne (ne_of_none ex hL)]
      exact ex
    · cases q : G1 L with
      | none => rfl
      | some o => have := x1.sub L o q; rw [hL] at this; cases this
    · rintro i k H' ⟨rfl, hi', G', m', s', acc, accV, x', p', gL, nL, hLl, rl, hacc, hpp⟩
      by_cases hlt : i < items.length
      · refine .inr ⟨wk.go i H' (x'.gg.trans x'.sub) hlt, fun H'' => ∃ (G' : Hp) (m' : Addr → Prop) (s' : S) (acc : List D) (accV : List V), Ext G1 H1 m1 G' H'' m' ∧ w.P s' G' H'' m' ∧ G' L = none ∧ ¬ m' L ∧ H'' L = some (.lst accV) ∧ RepL X.K Γ G' acc accV ∧ acc.length ≤ i + 1 ∧
          PostL X.K Γ w W σ G1 H1 m1 ((compL T gc fa (wipeE η own) (items.drop (i + 1)) s').bind fun ys s2 => .ok (acc ++ ys) s2) Q, fun H'' q => ⟨items.length - (i + 1), by omega, rfl, hlt, q⟩, fun x Hx hy => ?_⟩
        have hd : items[i]? = some items[i] := List.getElem?_eq_getElem hlt
        have hdrop : items.drop i = items[i] :: items.drop (i + 1) := List.drop_eq_getElem_cons hlt
        rw [hdrop] at hpp
        generalize items[i] = d at hd hpp
        -- the item, in a heap of ours
        obtain ⟨G2, x2, p2, rx⟩ : ∃ G2, Ext G' H' m' G2 Hx m' ∧ w.P s' G2 Hx m' ∧ Rep X.K Γ G2 d x := by
          rcases wk.yld i H' x Hx d (x'.gg.trans x'.sub) hd hy with ⟨rfl, rx⟩ | ⟨q, o, vs, ds, hq, ho, rfl, rfl, rfl, rx⟩
          · exact ⟨G', Ext.refl x'.toSt3, p', rx.mono x'.gg⟩
          · have xn := (Ext.refl x'.toSt3).new (o := .frz o (.tup vs)) hq
            refine ⟨_, xn, w.stay p' xn.gg fun y o hy' ey => ?_, ?_⟩
            · rw [upd_ne (ne_of_none ey hq)]
              exact ey
            · simp only [Rep]
              exact ⟨q, vs, rfl, SqP.of upd_same ho, (rx.mono x'.gg).mono xn.gg⟩
        have hL' : H' L ≠ none := ne_some hLl
        have gL2 := x2.addr_g hL' gL
        simp only [compL] at hpp
        refine kg _ _ _ _ ?_
        cases hset : setT T d (wipeE η own) with
        | none =>
          rw [hset] at hpp
          exact hpp.elim
        | some η1 =>
          rw [hset] at hpp
          refine setT_to x2.sub rx ((re.mono x'.gg).mono x2.gg) hset fun vs r1 => ⟨(wipe_setV hown).trans (wipe_wipe _ _), ?_⟩
          rw [R.assoc] at hpp
          refine evt η1 s' _ G2 Hx m' _ x2.toSt3 p2 r1 (hpp.nextC fun b s3 G3 H3 m3 v3 x3 p3 r3 hp3 => ?_)
          subst r3
          have xa : Ext G1 H1 m1 G3 H3 m3 := (x'.trans x2).trans x3
          have hL2 : Hx L ≠ none := x2.there L hL'
          have eL2 : Hx L = some (.lst accV) := x2.keep L _ nL hLl
          have nL3 := x3.addr_m hL2 nL
          have gL3 := x3.addr_g hL2 gL2
          have eL3 : H3 L = some (.lst accV) := x3.keep L _ nL eL2
          cases b with
          | false =>
            rw [if_neg Bool.false_ne_true]
            exact ⟨G3, m3, s3, acc, accV, xa, p3, gL3, nL3, eL3, (rl.mono x2.gg).mono x3.gg, by omega, hp3⟩
          | true =>
            rw [if_pos rfl]
            simp only at hp3
            rw [R.assoc] at hp3
            refine eve η1 s3 _ G3 H3 m3 _ x3.toSt3 p3 (r1.mono x3.gg) (hp3.nextC fun y s4 G4 H4 m4 v4 x4 p4 r4 hp4 => ?_)
            have hL3 : H3 L ≠ none := ne_some eL3
            have eL4 : H4 L = some (.lst accV) := x4.keep L _ nL3 eL3
            have nL4 := x4.addr_m hL3 nL3
            have gL4 := x4.addr_g hL3 gL3
            have rl4 := ((rl.mono x2.gg).mono x3.gg).mono x4.gg
            refine ⟨accV, eL4, by rw [rl4.length]; omega, G4, m4, s4, acc ++ [y], accV ++ [v4], (xa.trans x4).mut hL gL4 nL4, ?_, gL4, nL4, upd_same, rl4.append (RepL.cons r4 RepL.nil), by rw [List.length_append, List.length_singleton]; omega, ?_⟩
            · refine w.stay p4 (Sub.refl _) fun z o hz' ez => ?_
              rw [upd_ne fun q => by rw [q] at hz'; exact nL4 hz']
              exact ez
            · rw [R.assoc] at hp4
              have e5 : (fun (ys : List D) (s2 : S) => (R.ok (y :: ys) s2 : R S (List D)).bind fun ys s2 => R.ok (acc ++ ys) s2) = fun ys s2 => R.ok (acc ++ [y] ++ ys) s2 := by
                funext ys s2
                show R.ok (acc ++ y :: ys) s2 = _
                rw [List.append_assoc]
                rfl
              rw [e5] at hp4
              exact hp4
      · have ei : i = items.length := by omega
        subst ei
        refine .inl ⟨wk.stop H' (x'.gg.trans x'.sub), ?_⟩
        rw [List.drop_length] at hpp
        simp only [compL, R.bind, List.append_nil] at hpp
        exact hpp G' H' m' L accV x' p' hL gL nL hLl rl
  · exact hp1.elim
theorem dl_comp {tg iter : Expr} {ifs : List Expr} {scope : Scope} {T : Tg} {fi : En → S → R S (List D)} {gc : En → S → R S Bool} (own : List (Str × Nat)) (hc : X.calm = true) (hN : X.N.Nodup) (ok : BlkOk X.N X.env.scope scope own) (hi : DI Γ w W X tg iter fi)
    (hg : ∀ (s : Shared) (H : Hp) (C : Addr) (cl : List (Str × Addr)) (fp : List Addr), DG (X.blk s H scope (compEnvC scope cl C X.env) fp) tg T) (ht : ∀ (s : Shared) (H : Hp) (C : Addr) (cl : List (Str × Addr)) (fp : List Addr), DTs Γ w WF (X.blk s H scope (compEnvC scope cl C X.env) fp) ifs gc)
    (he : ∀ (s : Shared) (H : Hp) (C : Addr) (cl : List (Str × Addr)) (fp : List Addr), DE Γ w WF (X.blk s H scope (compEnvC scope cl C X.env) fp) a fa) (hown : ∀ i ∈ T.slots, i ∈ own.map (·.2) := by decide) (hs : ∀ x, foldedSetIterable iter X.env x = pure x := by intro _; rfl) :
    DL Γ w W X (.ListComp a [⟨tg, iter, ifs, 0⟩] scope pos) (fCompL fi T (own.map (·.2)) gc fa) := by
  obtain ⟨wi, g, tt, te, k, ev⟩ := lcL_ev (own := own.map (·.2)) hi hown hg ht he
  exact ⟨_, pe_lc hc hN k.pi ok k.pg k.pt k.pe hs, ev⟩
/-! a def whose every end is a new list -/
def spL (K : PySem.W.Frag) (ca : EK → Addr) (wf : Pm → Wo S) (F : List D → S → R S (List D)) : Sp := fun vs H Q E => ∃ (rho : Nat → Addr) (G : Hp) (m : Addr → Prop) (ds : List D) (s : S), St3 G H m ∧ (wf ⟨rho, ca⟩).P s G H m ∧ RepL K ⟨rho, ca⟩ G ds vs ∧
  PostL K ⟨rho, ca⟩ (wf ⟨rho, ca⟩) (fun c d _ H' => E c d H') [] G H m (F ds s) Q
def liftL (get : S → S1) (put : S → S1 → S) (F : List D → S1 → R S1 (List D)) : List D → S → R S (List D) := fun ds s => match F ds (get s) with
  | .ok d t => .ok d (put s t)
  | .er e t => .er e (put s t)
  | .no => .no
/-- a world within a world: what is new is not the bigger one's -/
structure FitL (w1 : Wo S1) (w : Wo S) (get : S → S1) (put : S → S1 → S) : Prop where
  go : ∀ {s G H m}, St3 G H m → w.P s G H m → ∃ m1 : Addr → Prop, (∀ a, m1 a → m a) ∧ w1.P (get s) G H m1 ∧ ∀ {s1 G' H' m1'}, Ext G H m1 G' H' m1' → w1.P s1 G' H' m1' → ∃ m', Ext G H m G' H' m' ∧ w.P (put s s1) G' H' m' ∧ ∀ a, H a = none → ¬ m1' a → ¬ m' a
theorem FitL.same : FitL w w id (fun _ s => s) := ⟨fun h p => ⟨_, fun _ h => h, p, fun x p' => ⟨_, x, p', fun _ _ h => h⟩⟩⟩
theorem FitL.pure : FitL w0 w (fun _ => ()) (fun s _ => s) := ⟨fun {s G H m} h p => ⟨fun _ => False, fun _ z => z.elim, fun _ z => z, fun {s1 G' H' m1'} x p' => ⟨m, ⟨⟨x.sub, fun a ha => by
    cases q : G' a with
    | none => rfl
    | some o => exact absurd (x.newG a (ne_some q) (h.dis a ha)) (h.own a ha), fun a ha => x.there a (h.own a ha)⟩, fun _ h => h, fun a o _ t e => x.nt a o (p' a) t e, x.gg, fun a o _ e => x.keep a o (fun z => z) e, x.newG, fun a ha => .inl ha, x.there⟩, w.stay p x.gg (fun a o _ e => x.keep a o (fun z => z) e) (fun a o t e => x.nt a o (p' a) t e), fun a ha _ hm => h.own a hm ha⟩⟩⟩
theorem spL_at {K : PySem.W.Frag} {wf : Pm → Wo S1} {F : List D → S1 → R S1 (List D)} {get : S → S1} {put : S → S1 → S} {ds : List D} {vs : List V} {s : S} {σ : L2.St} {G H : Hp} {m : Addr → Prop} {Q : VK} (fit : FitL (wf Γ) w get put) (h3 : St3 G H m) (p : w.P s G H m) (r : RepL K Γ G ds vs)
    (hp : PostL K Γ w W σ G H m (liftL get put F ds s) Q) : spL K Γ.ca wf F vs H Q (fun c d H' => W c d σ H') := by
  obtain ⟨m1, hm, p1, back⟩ := fit.go h3 p
  refine ⟨Γ.rho, G, m1, ds, get s, ⟨h3.sub, fun a h => h3.dis a (hm a h), fun a h => h3.own a (hm a h)⟩, p1, r, ?_⟩
  unfold liftL at hp
  cases e : F ds (get s) with
  | ok d t =>
    rw [e] at hp
    intro G' H' m' a vs' x p' h0 hg hm' h1 rv
    obtain ⟨m2, x2, p2, nm⟩ := back x p'
    exact hp G' H' m2 a vs' x2 p2 h0 hg (nm a h0 hm') h1 rv
  | er e1 t =>
    rw [e] at hp
    intro G' H' m' c d x p' rv
    obtain ⟨m2, x2, p2, _⟩ := back x p'
    exact hp G' H' m2 c d x2 p2 rv
  | no =>
    rw [e] at hp
    exact hp
def fArgsL (g : List D → S → R S (List D)) (fs : En → S → R S (List D)) : En → S → R S (List D) := fun η s => (fs η s).bind fun ds s1 => g ds s1
theorem dl_call {wf : Pm → Wo S1} {F : List D → S1 → R S1 (List D)} {get : S → S1} {put : S → S1 → S} {x : Str} {p : Pos} {k : Nat} {f : Addr} {fd : FuncData} {ps : List Str} {fs : En → S → R S (List D)} (fit : FitL (wf Γ) w get put)
    (G : FnOk X.prog X.w X.K X.mg X.base (L2.CX X.prog X.w) k f fd ps (spL X.K Γ.ca wf F)) (hr : Room k X.A) (hg : Gl X x) (hm : X.mg x = some (.ref f)) (hk : PySem.W.keepIn X.K (.ref f) = true) (hb : Binds X.K fd ps []) (tk : Takes X W)
    (ha : DA Γ w W X (a :: es) fs) (hdb : (x == ("__debug__" : Str)) = false := by decide) (he : starEach (a :: es) X.env = (false, eval a X.env) :: starEach es X.env := by rfl) (hpl : (backTo pos (starEach es X.env)).any (·.1) = false := by rfl) :
    DL Γ w W X (.Call (.Name x p) (a :: es) [] pos) (fArgsL (liftL get put F) fs) := by
  obtain ⟨t, ha, ea⟩ := ha
  exact ⟨_, pe_callS (E := WE W) G hr hg hm hk hb (fun σ => passAt tk σ) ha hdb he hpl, fun η s σ G H m Q h3 p e hp => ea η s σ G H m _ h3 p e (hp.next fun d1 s1 G1 H1 m1 v1 x1 p1 r1 hp1 => spL_at fit x1.toSt3 p1 r1 hp1)⟩
/-- return e, e a new list -/
def sRetL (f : Sn → S → R S (List D)) : Sn → S → SR S := fun ε s => bindS (f ε s) ε fun xs s1 => .rl xs s1
theorem PostS.nextL {K : PySem.W.Frag} {r : R S (List D)} {ε : Sn} {k : List D → S → SR S} {G0 H0 G H : Hp} {m0 m : Addr → Prop} {σ : L2.St} {Q : VK} {D' : Ends} (hp : PostS K Γ w W G0 H0 m0 (bindS r ε k) D') (x : Ext G0 H0 m0 G H m) (rs : RepS K Γ G H0 H m σ ε)
    (h : ∀ xs s1 G1 H1 m1 a vs, Ext G H m G1 H1 m1 → w.P s1 G1 H1 m1 → H a = none → G1 a = none → ¬ m1 a → H1 a = some (.lst vs) → RepL K Γ G1 xs vs → PostS K Γ w W G0 H0 m0 (k xs s1) D' → Q (.ref a) H1) : PostL K Γ w W σ G H m r Q := by
  cases r with
  | ok d s => exact fun G' H' m' a vs e' p h0 hg hm h1 r => h d s G' H' m' a vs e' p h0 hg hm h1 r hp
  | er e1 s => exact fun G' H' m' c d e' p r => hp G' H' m' σ c d (x.trans e') p (rs.mono e') r
  | no => exact hp
theorem there_none {G H G1 H1 : Hp} {m m1 : Addr → Prop} (x : Ext G H m G1 H1 m1) {a : Addr} (h : H1 a = none) : H a = none := by
  cases q : H a with
  | none => rfl
  | some o => exact absurd h (x.there a (ne_some q))
theorem ds_retL {f : En → S → R S (List D)} (h : DL Γ w W X a f) : DS Γ w W X (.Return (some a) pos) (sRetL (nD f)) := by
  obtain ⟨t, he, ev⟩ := h
  exact ⟨_, ps_ret he, fun ε s σ G0 H0 m0 G H m D x p r hp => ev (hide ε) s σ G H m _ x.toSt3 p r.hide (hp.nextL x r fun xs s1 G1 H1 m1 a vs x1 p1 h0 hg hm h1 r1 hp1 => hp1 G1 H1 m1 a vs (x.trans x1) p1 (there_none x h0) hg hm h1 r1)⟩
/-- a name takes a new list -/
def sOwn (i : Nat) (f : Sn → S → R S (List D)) : Sn → S → SR S := fun ε s => bindS (f ε s) ε fun xs s1 => .nx (ε.set i (some (.ow (.l xs)))) s1
theorem own_take {K : PySem.W.Frag} {G0 H0 G H G1 H1 : Hp} {m0 m m1 : Addr → Prop} {σ : L2.St} {ε : Sn} {xs : List D} {vs : List V} {q : Addr} (i : Nat) (x : Ext G0 H0 m0 G H m) (r : RepS K Γ G H0 H m σ ε) (x1 : Ext G H m G1 H1 m1) (h0 : H q = none) (hg : G1 q = none) (hm : ¬ m1 q) (h1 : H1 q = some (.lst vs)) (l : RepL K Γ G1 xs vs) :
    RepS K Γ G1 H0 H1 m1 (σ.set i (some (.ref q))) (ε.set i (some (.ow (.l xs)))) := by
  have r2 := r.mono x1
  refine r2.setO i h1 ⟨_, rfl, l⟩ hg hm (there_none x h0) fun j b ys hj hb hij e => ?_
  obtain ⟨ad, k1, _⟩ := r.own
  obtain ⟨ws, b1, b2, _⟩ := k1 j ys hj
  rw [hb] at b1
  have eb : b = ad j := V.ref.inj (Option.some.inj (Option.some.inj b1))
  rw [← eb, e, h0] at b2
  cases b2
theorem ds_own (i : Nat) {x : Str} {pos' : Pos} {f : En → S → R S (List D)} (hN : X.N.Nodup) (hi : X.N[i]? = some x) (hx : Loc X.env.scope x) (h : DL Γ w W X a f) (hs : swapsWith a (some (.Name x pos')) pos.line X.env = pure false := by rfl)
    (hf : X.fn x = true ∨ X.env.scope.names.lookup x = some .local := by first | exact .inl rfl | exact .inr rfl | assumption) : DS Γ w W X (.Assign [.Name x pos'] a pos) (sOwn i (nD f)) := by
  obtain ⟨t, he, ev⟩ := h
  exact ⟨_, ps_set hN hi hx he hs hf, fun ε s σ G0 H0 m0 G H m D x p r hp => ev (hide ε) s σ G H m _ x.toSt3 p r.hide (hp.nextL x r fun xs s1 G1 H1 m1 a vs x1 p1 h0 hg hm h1 r1 hp1 => hp1 G1 H1 m1 _ (x.trans x1) p1 (own_take i x r x1 h0 hg hm h1 r1))⟩
theorem ds_ownLc (i : Nat) {x : Str} {pos' : Pos} {spos : Pos} {tg iter : Expr} {ifs : List Expr} {scope : Scope} {T : Tg} {fa : En → S → R S D} {fi : En → S → R S (List D)} {gc : En → S → R S Bool} (own : List (Str × Nat)) (hc : X.calm = true) (hN : X.N.Nodup) (hy : X.N[i]? = some x) (hyl : X.env.scope.names.lookup x = some .local)
    (ok : BlkOk X.N X.env.scope scope own) (hsw : swapsWith (.ListComp a [⟨tg, iter, ifs, 0⟩] scope pos) (some (.Name x pos')) spos.line X.env = pure true) (hi : DI Γ w W X tg iter fi)
    (hg : ∀ (s : Shared) (H : Hp) (C : Addr) (cl : List (Str × Addr)) (fp : List Addr), DG (X.blk s H scope (compEnvC scope cl C X.env) fp) tg T) (ht : ∀ (s : Shared) (H : Hp) (C : Addr) (cl : List (Str × Addr)) (fp : List Addr), DTs Γ w WF (X.blk s H scope (compEnvC scope cl C X.env) fp) ifs gc)
    (he : ∀ (s : Shared) (H : Hp) (C : Addr) (cl : List (Str × Addr)) (fp : List Addr), DE Γ w WF (X.blk s H scope (compEnvC scope cl C X.env) fp) a fa) (hown : ∀ j ∈ T.slots, j ∈ own.map (·.2) := by decide) (hs : ∀ x, foldedSetIterable iter X.env x = pure x := by intro _; rfl) :
    DS Γ w W X (.Assign [.Name x pos'] (.ListComp a [⟨tg, iter, ifs, 0⟩] scope pos) spos) (sOwn i (nD (fCompL fi T (own.map (·.2)) gc fa))) := by
  obtain ⟨wi, g, tt, te, k, ev⟩ := lcL_ev (own := own.map (·.2)) hi hown hg ht he
  exact ⟨_, ps_setLc hc hN hy hyl hsw k.pi ok k.pg k.pt k.pe hs, fun ε s σ G0 H0 m0 G H m D x p r hp => ev (hide ε) s σ G H m _ x.toSt3 p r.hide (hp.nextL x r fun xs s1 G1 H1 m1 a vs x1 p1 h0 hg hm h1 r1 hp1 => hp1 G1 H1 m1 _ (x.trans x1) p1 (own_take i x r x1 h0 hg hm h1 r1))⟩
/-! a list owned is given to all -/
def frz (i : Nat) (ε : Sn) : Sn := match ε[i]? with
  | some (some (.ow (.l xs))) => ε.set i (some (.d (.lst xs)))
  | _ => ε
theorem RepS.frz {K : PySem.W.Frag} {G0 H0 G H : Hp} {m0 m : Addr → Prop} {σ : L2.St} {ε : Sn} (i : Nat) (x : Ext G0 H0 m0 G H m) (r : RepS K Γ G H0 H m σ ε) : ∃ G', Sub G G' ∧ Ext G0 H0 m0 G' H m ∧ RepS K Γ G' H0 H m σ (Dm.frz i ε) := by
  unfold Dm.frz
  split
  · rename_i xs he
    obtain ⟨a, _, k1, k2, ⟨vs, rfl, k3⟩, k4, k5, k6, k7⟩ := r.ownAt he
    have sb := upd_sub (o := .lst vs) k4
    have xf := x.freeze k6 k2 k4 k5
    have hl : i < σ.length := (List.getElem?_eq_some_iff.mp k1).1
    have eσ : σ.set i (some (.ref a)) = σ := by
      apply List.ext_getElem?
      intro j
      by_cases hji : i = j
      · subst hji; rw [List.getElem?_set_self hl, k1]
      · rw [List.getElem?_set_ne hji]
    refine ⟨_, sb, xf, ⟨by rw [List.length_set]; exact r.len, fun j d hj => ?_, ?_⟩⟩
    · by_cases hji : i = j
      · subst hji
        rw [List.getElem?_set_self (by rw [← r.len]; exact hl)] at hj
        cases hj
        refine ⟨_, k1, ?_⟩
        simp only [Rep]
        exact ⟨a, vs, rfl, upd_same, k3.mono sb⟩
      · rw [List.getElem?_set_ne hji] at hj
        obtain ⟨v, h1, h2⟩ := r.dat j d hj
        exact ⟨v, h1, h2.mono sb⟩
    · obtain ⟨ad, q1, q2⟩ := r.own
      have back : ∀ (j : Nat) (ys : Ow), (ε.set i (some (.d (.lst xs))))[j]? = some (some (.ow ys)) → i ≠ j ∧ ε[j]? = some (some (.ow ys)) := fun j ys hj => by
        by_cases hji : i = j
        · subst hji
          rw [List.getElem?_set_self (by rw [← r.len]; exact hl)] at hj; cases hj
        · rw [List.getElem?_set_ne hji] at hj
          exact ⟨hji, hj⟩
      refine ⟨ad, fun j ys hj => ?_, fun j k ys zs hj hk e => q2 j k ys zs (back j ys hj).2 (back k zs hk).2 e⟩
      obtain ⟨hji, hj⟩ := back j ys hj
      obtain ⟨u, a1, a2, a3, a4, a5, a6⟩ := q1 j ys hj
      exact ⟨u, a1, a2, a3.mono sb, by rw [upd_ne (k7 j _ ys hj a1 hji)]; exact a4, a5, a6⟩
  · exact ⟨G, Sub.refl _, x, r⟩
def sFrz (i : Nat) (g : Sn → S → SR S) : Sn → S → SR S := fun ε s => g (frz i ε) s
theorem dss_frz (i : Nat) {st : List Stmt} {g : Sn → S → SR S} (h : DSs Γ w W X st g) : DSs Γ w W X st (sFrz i g) := by
  obtain ⟨t, h, ev⟩ := h
  refine ⟨t, h, fun ε s σ G0 H0 m0 G H m D x p r hp => ?_⟩
  obtain ⟨G', sb, x', r'⟩ := r.frz i x
  exact ev (frz i ε) s σ G0 H0 m0 G' H m D x' (w.stay p sb fun _ _ _ e => e) r' hp
section
variable {P : Program} {wd : World} {K : PySem.W.Frag} {mg : Str → Option Value} {base : Heap} {ca : EK → Addr} {wf : Pm → Wo S}
theorem fnL_ok {x qual : Str} {st : Stmt} {f : Addr} {fd : FuncData} {N ps : List Str} {k : Nat} {body : Sn → S → SR S} (F : Fun K x qual st f fd) (Sc : FnScope N ps (defScope st))
    (hbody : ∀ (cdv : Value) (A : Around) (outer : List Env) (s : Shared) (H : Hp) (E : XK) (rho : Nat → Addr), Room k (A.deeper (envOfC qual (defScope st) s.heap.objs.size f cdv)) →
      DSs ⟨rho, ca⟩ (wf ⟨rho, ca⟩) (fun c d _ H' => E c d H') (cxOf (L2.CX P wd) P wd K mg base N qual (defScope st) f cdv A outer s H E) (defBody st) body) :
    FnOk P wd K mg base (L2.CX P wd) (k + 1) f fd ps (spL K ca wf (fnL N.length ps.length body)) := by
  refine F.okX Sc (fun vs H Q E h => ?_) (fun cdv A outer s H vs Q E hr h => ?_)
  · obtain ⟨rho, G, m, ds, s, h3, p, r, hp⟩ := h
    unfold fnL at hp
    split at hp
    · rename_i hl
      rw [r.length]
      exact hl
    · exact hp.elim
  · obtain ⟨rho, G, m, ds, s', h3, p, r, hp⟩ := h
    obtain ⟨t, ht, ev⟩ := hbody cdv A outer s H E rho hr
    refine ⟨t, ht, ev (startN N.length ds) s' _ G H m G H m _ (Ext.refl h3) p (repS_start r) ?_⟩
    unfold fnL at hp
    split at hp
    · cases e : body (startN N.length ds) s' with
      | rl xs s2 => rw [e] at hp; exact fun G' H' m' a vs' x' p' h0 hg hm' h1 r' => hp G' H' m' a vs' x' p' h0 hg hm' h1 r'
      | er er ε s2 => rw [e] at hp; exact fun G' H' m' σ' cls dx x' p' _ he => hp G' H' m' cls dx x' p' he
      | nx ε s2 => rw [e] at hp; exact hp.elim
      | rt d s2 => rw [e] at hp; exact hp.elim
      | bk ε s2 => rw [e] at hp; exact hp.elim
      | ct ε s2 => rw [e] at hp; exact hp.elim
      | no => rw [e] at hp; exact hp.elim
    · exact hp.elim
end
end
end Dm
namespace Dm
open PySem L2 PySem.Spec PyProof.Rows
section
variable {S S1 : Type} {Γ : Pm} {w : Wo S} {W : WX} {X : Cx} {pos p2 : Pos} {a b c : Expr} {es : List Expr} {fa fb fc : En → S → R S D}
/-- [e, ..] as a new list -/
def fLstL (f : En → S → R S (List D)) : En → S → R S (List D) := fun η s => (f η s).bind fun xs s1 => if xs.length ≤ sizeLine then .ok xs s1 else .no
theorem dl_lst {fs : En → S → R S (List D)} (h : DA Γ w W X es fs) : DL Γ w W X (.List es pos) (fLstL fs) := by
  obtain ⟨t, ha, ev⟩ := h
  refine ⟨_, pe_lst ha, fun η s σ G H m Q h3 p e hp => ev η s σ G H m _ h3 p e (hp.next fun d s1 G1 H1 m1 v x1 p1 r1 hp1 => ?_)⟩
  split at hp1
  · rename_i hz
    refine ⟨by rw [r1.length]; exact hz, fun q hq => ?_⟩
    have xn := (Ext.refl x1.toSt3).newO (o := .lst v) hq
    refine hp1 G1 _ m1 q v xn (w.stay p1 (Sub.refl _) fun y o hy ey => ?_) hq ?_ (fun z => x1.own q z hq) upd_same r1
    · rw [upd_ne (ne_of_none ey hq)]
      exact ey
    · cases z : G1 q with
      | none => rfl
      | some o => have := x1.sub q o z; rw [hq] at this; cases this
  · exact hp1.elim
/-- a, b = x, [new list] -/
def sParL (i j : Nat) (f : Sn → S → R S D) (g : Sn → S → R S (List D)) : Sn → S → SR S := fun ε s => bindS (f ε s) ε fun d s1 => bindS (g ε s1) ε fun xs s2 => .nx ((ε.set i (some (.d d))).set j (some (.ow (.l xs)))) s2
theorem ds_parL (i j : Nat) {x y : Str} {px py pt : Pos} {kt k2 pt2} {g : En → S → R S (List D)} (hc : X.calm = true) (hN : X.N.Nodup) (hi : X.N[i]? = some x) (hj : X.N[j]? = some y) (hij : i ≠ j)
    (hx : X.env.scope.names.lookup x = some .local) (hy : X.env.scope.names.lookup y = some .local) (ha : DE Γ w W X a fa) (hb : DL Γ w W X b g)
    (hw : swappedStores [.Tuple [.Name x px, .Name y py] kt pt] (.Tuple [a, b] k2 pt2) X.env = pure (some [x, y]) := by rfl)
    (hs : swapsWithSole [.Tuple [.Name x px, .Name y py] kt pt] (.Tuple [a, b] k2 pt2) pos.line X.env = pure false := by rfl)
    (h1 : starEach [a, b] X.env = (false, eval a X.env) :: starEach [b] X.env := by rfl) (h2 : starEach [b] X.env = (false, eval b X.env) :: starEach [] X.env := by rfl) :
    DS Γ w W X (.Assign [.Tuple [.Name x px, .Name y py] kt pt] (.Tuple [a, b] k2 pt2) pos) (sParL i j (nD fa) (nD g)) := by
  obtain ⟨t, ha, ea⟩ := ha
  obtain ⟨u, hb, eb⟩ := hb
  have ea' := EvN.of ea
  refine ⟨_, ps_par hc hN hi hj hij hx hy (pa_cons ha (pa_cons hb pa_nil h2) h1) hw hs, fun ε s σ G0 H0 m0 G H m D x p r hp => ea' ε s σ H0 G H m _ x.toSt3 p r (hp.next x r fun d s1 G1 H1 m1 v x1 p1 r1 hp1 => ?_)⟩
  refine eb (hide ε) s1 σ G1 H1 m1 _ x1.toSt3 p1 (r.hide.mono x1.gg) (hp1.nextL (x.trans x1) (r.mono x1) fun xs s2 G2 H2 m2 q vs x2 p2 h0 hg hm h1 r2 hp2 => ?_)
  refine ⟨_, _, rfl, hp2 G2 H2 m2 _ ((x.trans x1).trans x2) p2 (own_take j (x.trans x1) ((r.mono x1).setD i r1) x2 h0 hg hm h1 r2)⟩
/-- the same, a name captured: the pair is made -/
theorem ds_parLC (i j : Nat) {x y : Str} {px py pt : Pos} {kt k2 pt2} {g : En → S → R S (List D)} (hc : X.calm = true) (hN : X.N.Nodup) (hi : X.N[i]? = some x) (hj : X.N[j]? = some y)
    (hx : Loc X.env.scope x) (hy : Loc X.env.scope y) (ha : DE Γ w W X a fa) (hb : DL Γ w W X b g)
    (hfx : X.fn x = true ∨ X.env.scope.names.lookup x = some .local := by first | exact .inl rfl | exact .inr rfl | assumption) (hfy : X.fn y = true ∨ X.env.scope.names.lookup y = some .local := by first | exact .inl rfl | exact .inr rfl | assumption)
    (hs : swapsWithSole [.Tuple [.Name x px, .Name y py] kt pt] (.Tuple [a, b] k2 pt2) pos.line X.env = pure false := by rfl) (hw : swappedStores [.Tuple [.Name x px, .Name y py] kt pt] (.Tuple [a, b] k2 pt2) X.env = pure none := by rfl)
    (h3 : (assignEach [.Tuple [.Name x px, .Name y py] kt pt] X.env).map (·.2) = [assign (.Tuple [.Name x px, .Name y py] kt pt) X.env] := by rfl)
    (h1 : starEach [a, b] X.env = (false, eval a X.env) :: starEach [b] X.env := by rfl) (h2 : starEach [b] X.env = (false, eval b X.env) :: starEach [] X.env := by rfl)
    (hn : (assignEach [.Name x px, .Name y py] X.env).length = 2 := by rfl) (hst : (assignEach [.Name x px, .Name y py] X.env).findIdx? (·.1) = none := by rfl)
    (g1 : (assignEach [.Name x px, .Name y py] X.env).map (·.2) = assign (.Name x px) X.env :: (assignEach [.Name y py] X.env).map (·.2) := by rfl) (g2 : (assignEach [.Name y py] X.env).map (·.2) = assign (.Name y py) X.env :: (assignEach [] X.env).map (·.2) := by rfl) :
    DS Γ w W X (.Assign [.Tuple [.Name x px, .Name y py] kt pt] (.Tuple [a, b] k2 pt2) pos) (sParL i j (nD fa) (nD g)) := by
  obtain ⟨t, ha, ea⟩ := ha
  obtain ⟨u, hb, eb⟩ := hb
  have ea' := EvN.of ea
  have tg := dg_tup (pos := pt) (k := kt) hc (dgs_cons (dg_name (pos := px) i hN hi hx hfx) (dgs_cons (dg_name (pos := py) j hN hj hy hfy) dgs_nil g2) g1) hn hst
  obtain ⟨gg, hg, kg⟩ := tg
  refine ⟨_, ps_asg (pe_tup (pa_cons ha (pa_cons hb pa_nil h2) h1)) hg hs hw h3, fun ε s σ G0 H0 m0 G H m D x p r hp => ea' ε s σ H0 G H m _ x.toSt3 p r (hp.next x r fun d s1 G1 H1 m1 v x1 p1 r1 hp1 => ?_)⟩
  refine eb (hide ε) s1 σ G1 H1 m1 _ x1.toSt3 p1 (r.hide.mono x1.gg) (hp1.nextL (x.trans x1) (r.mono x1) fun xs s2 G2 H2 m2 q vs x2 p2 h0 hg' hm hl r2 hp2 => ?_)
  refine ⟨by show 2 ≤ sizeLine; decide, fun tp htp => kg _ _ _ _ ⟨tp, [v, .ref q], rfl, SqT.of upd_same, rfl, ?_⟩⟩
  have xn := (Ext.refl x2.toSt3).newO (o := .tup [v, .ref q]) htp
  have hq2 : upd H2 tp (.tup [v, .ref q]) q = some (.lst vs) := by
    rw [upd_ne (ne_of_none hl htp)]
    exact hl
  refine hp2 G2 _ m2 _ (((x.trans x1).trans x2).trans xn) (w.stay p2 (Sub.refl _) fun y o hy ey => ?_) (own_take j (x.trans x1) ((r.mono x1).setD i r1) (x2.trans xn) h0 hg' hm hq2 r2)
  rw [upd_ne (ne_of_none ey htp)]
  exact ey
end
end Dm
namespace Dm
open PySem L2 PySem.Spec PyProof.Rows
def initOf (s : Stmt) (i : Nat) : Stmt := match s with
  | .ClassDef _ _ _ b _ _ _ _ _ _ _ => b.getD i (.Pass ⟨0, 0, 0, 0⟩)
  | _ => .Pass ⟨0, 0, 0, 0⟩
/-- a def of the text -/
structure DefAt (K : PySem.W.Frag) (mg : Str → Option Value) (x : Str) (st : Stmt) (ps : List Str) where
  f : Addr
  fd : FuncData
  F : Fun K x x st f fd
  b : Binds K fd ps []
  g : mg x = some (.ref f)
/-- an error's class without an __init__ -/
structure ErrP (K : PySem.W.Frag) (mg : Str → Option Value) (x : Str) where
  C : Addr
  ex : PySem.W.excIn K C [.type "ValueError", .type "Exception", .type "BaseException", .type "object"] "ValueError.__new__" = true
  g : mg x = some (.ref C)
  k : PySem.W.keepIn K (.ref C) = true
  b : PySem.W.subIn K (.ref C) (.type "BaseException") = some true
  t : PySem.W.typeIn K (.ref C) = some (.type "type")
/-- an error's class with an __init__ -/
structure ErrI (K : PySem.W.Frag) (mg : Str → Option Value) (x qual : Str) (st : Stmt) (ps : List Str) where
  C : Addr
  fI : Addr
  fd : FuncData
  T : OexC K C
  g : mg x = some (.ref C)
  i : PySem.W.findIn K (.ref C) "__init__" = some (some (.ref fI))
  ti : PySem.W.typeIn K (.ref fI) = some (.type "function")
  F : Fun K "__init__" qual st fI fd
  bi : Binds K fd ps []
end Dm
namespace Dm
open PySem L2 PySem.Spec PyProof.Rows
/-! ### the law's row: [script, place, rest, mixed] -/
structure RS where
  sc : List Int
  p : Int
  r : Int
  m : Int
structure RowP (K : PySem.W.Frag) (Γ : Pm) (s : RS) (G H : Hp) : Prop where
  row : H (Γ.rho 0) = some (.lst [.ref (Γ.rho 1), .int s.p, .int s.r, .int s.m])
  scr : SqL K G (Γ.rho 1) (s.sc.map V.int)
/-- the row alone may change -/
def rowW (K : PySem.W.Frag) (Γ : Pm) : Wo RS where
  P s G H m := RowP K Γ s G H ∧ ∀ a, m a ↔ a = Γ.rho 0
  stay h sb k _ := ⟨⟨k _ _ ((h.2 _).mpr rfl) h.1.row, sb.seqL h.1.scr⟩, h.2⟩
/-- the row, and the tables of code objects -/
def rowT (K : PySem.W.Frag) (T : List (Addr × Str)) (Γ : Pm) : Wo RS where
  P s G H m := RowP K Γ s G H ∧ m (Γ.rho 0) ∧ (∀ a o, Tb a o → H a = some o → m a) ∧ LamX.Tabs T H
  stay h sb k nt := ⟨⟨k _ _ h.2.1 h.1.row, sb.seqL h.1.scr⟩, h.2.1, fun a o t e => h.2.2.1 a o t (nt a o t e), fun p hp => by
    obtain ⟨ps, h1, h2, h3⟩ := h.2.2.2 p hp
    refine ⟨ps, k _ _ (h.2.2.1 _ _ (.inl ⟨ps, rfl⟩) h1) h1, h2, fun pos cv hc => ?_⟩
    obtain ⟨c, e1, e2⟩ := h3 pos cv hc
    exact ⟨c, e1, k _ _ (h.2.2.1 _ _ (.inr ⟨_, rfl⟩) e2) e2⟩⟩
theorem lst_tb {a : Addr} {o : HO} {vs : List V} (t : Tb a o) (e : o = .lst vs) : False := by
  subst e
  exact isPl_tb rfl a t
section
variable {K : PySem.W.Frag} {Γ : Pm} {T : List (Addr × Str)}
theorem rowT_back {s s1 : RS} {G H G' H' : Hp} {m m1' : Addr → Prop} (h : St3 G H m) (p : (rowT K T Γ).P s G H m) (x : Ext G H (fun a => a = Γ.rho 0) G' H' m1') (p' : (rowW K Γ).P s1 G' H' m1') : Ext G H m G' H' m ∧ (rowT K T Γ).P s1 G' H' m := by
  have nr : ∀ a o, ¬ m a → Tb a o → H' a = some o → H a = some o := fun a o na t e => x.nt a o (fun z => na (by rw [(p'.2 a).mp z]; exact p.2.1)) t e
  have kp : ∀ a o, a ≠ Γ.rho 0 → H a = some o → H' a = some o := fun a o ha e => x.keep a o ha e
  have tb0 : ∀ o, Tb (Γ.rho 0) o → H (Γ.rho 0) = some o → False := fun o t e => lst_tb t (Option.some.inj (e.symm.trans p.1.row))
  have xe : Ext G H m G' H' m := ⟨⟨x.sub, fun a ha => by
      cases q : G' a with
      | none => rfl
      | some o => exact absurd (x.newG a (ne_some q) (h.dis a ha)) (h.own a ha), fun a ha => x.there a (h.own a ha)⟩, fun _ h => h, nr, x.gg, fun a o na e => kp a o (fun z => na (by rw [z]; exact p.2.1)) e, x.newG, fun a ha => .inl ha, x.there⟩
  refine ⟨xe, p'.1, p.2.1, fun a o t e => ?_, fun q hq => ?_⟩
  · by_cases ha : a = Γ.rho 0
    · rw [ha]; exact p.2.1
    · exact p.2.2.1 a o t (x.nt a o (fun z => ha ((p'.2 a).mp z)) t e)
  · obtain ⟨ps, h1, h2, h3⟩ := p.2.2.2 q hq
    refine ⟨ps, kp _ _ (fun z => tb0 _ (.inl ⟨ps, rfl⟩) (z ▸ h1)) h1, h2, fun pos cv hc => ?_⟩
    obtain ⟨c, e1, e2⟩ := h3 pos cv hc
    exact ⟨c, e1, kp _ _ (fun z => tb0 _ (.inr ⟨_, by rw [← z]⟩) (z ▸ e2)) e2⟩
theorem row_pre {s : RS} {G H : Hp} {m : Addr → Prop} (p : (rowT K T Γ).P s G H m) : (∀ a, a = Γ.rho 0 → m a) ∧ (rowW K Γ).P s G H (fun a => a = Γ.rho 0) := ⟨fun a z => by rw [z]; exact p.2.1, p.1, fun _ => Iff.rfl⟩
theorem Fit.row : Fit (rowW K Γ) (rowT K T Γ) id (fun _ s => s) := ⟨fun {s G H m} h p => ⟨fun a => a = Γ.rho 0, (row_pre p).1, (row_pre p).2, fun x p' => ⟨m, (rowT_back h p x p').1, (rowT_back h p x p').2⟩⟩⟩
theorem FitL.row : FitL (rowW K Γ) (rowT K T Γ) id (fun _ s => s) := ⟨fun {s G H m} h p => ⟨fun a => a = Γ.rho 0, (row_pre p).1, (row_pre p).2, fun x p' => ⟨m, (rowT_back h p x p').1, (rowT_back h p x p').2, fun a ha _ hm => h.own a hm ha⟩⟩⟩
end
section
variable {K : PySem.W.Frag} {Γ : Pm} {W : WX} {X : Cx} {pos p2 : Pos} {a b c : Expr} {es : List Expr} {fa fb fc : En → RS → R RS D}
/-! reading the row -/
def gIxR : D → D → RS → R RS D
  | .nm 0, .int 0, s => .ok (.nm 1) s
  | .nm 0, .int 1, s => .ok (.int s.p) s
  | .nm 0, .int 2, s => .ok (.int s.r) s
  | .nm 0, .int 3, s => .ok (.int s.m) s
  | .nm 1, .int i, s => match L2.atI s.sc i with
    | some z => .ok (.int z) s
    | none => .no
  | _, _, _ => .no
theorem atI_map {α β : Type} (f : α → β) (xs : List α) (i : Int) : L2.atI (xs.map f) i = (L2.atI xs i).map f := by
  unfold L2.atI
  rw [List.length_map]
  cases L2.ixN xs.length i with
  | none => rfl
  | some j =>
    show (xs.map f)[j]? = (xs[j]?).map f
    rw [List.getElem?_map]
theorem de_ixR (ha : DE Γ (rowW K Γ) W X a fa) (hb : DE Γ (rowW K Γ) W X b fb) (hs : PlainIx b := by exact fun _ _ => rfl) (hK : X.K = K := by rfl) : DE Γ (rowW K Γ) W X (.Subscript a b pos) (f2 gIxR fa fb) := by
  subst hK
  obtain ⟨ta, ha, ea⟩ := ha
  obtain ⟨tb, hb, eb⟩ := hb
  refine ⟨_, pe_ix ix_seq ha hb hs, ev_two ea eb fun d e x y s σ G H m Q h3 p r1 r2 hp => ?_⟩
  have row := SqL.of (K := X.K) p.1.row
  unfold gIxR at hp
  split at hp
  · simp only [Rep] at r1 r2
    exact .inl ⟨_, _, _, _, r1, r2, row, rfl, hp.val h3 p (by simp only [Rep])⟩
  · simp only [Rep] at r1 r2
    exact .inl ⟨_, _, _, _, r1, r2, row, rfl, hp.val h3 p (by simp only [Rep])⟩
  · simp only [Rep] at r1 r2
    exact .inl ⟨_, _, _, _, r1, r2, row, rfl, hp.val h3 p (by simp only [Rep])⟩
  · simp only [Rep] at r1 r2
    exact .inl ⟨_, _, _, _, r1, r2, row, rfl, hp.val h3 p (by simp only [Rep])⟩
  · split at hp
    · rename_i e1
      simp only [Rep] at r1 r2
      exact .inl ⟨_, _, _, _, r1, r2, h3.sub.seqL p.1.scr, by rw [atI_map, e1]; rfl, hp.val h3 p (by simp only [Rep])⟩
    · exact hp.elim
  · exact hp.elim
def gLenR : List D → RS → R RS D
  | [.nm 1], s => .ok (.int s.sc.length) s
  | _, _ => .no
theorem cl_lenR (hK : X.K = K := by rfl) : CallL Γ (rowW K Γ) W X (.builtin "len") gLenR := by
  subst hK
  refine ⟨_, call_len_seq, fun ds vs s σ G H m Q h3 p r hp => ?_⟩
  unfold gLenR at hp
  split at hp
  · obtain ⟨v, rfl, r1⟩ := r.one
    simp only [Rep] at r1
    exact ⟨_, _, by rw [r1], .inl (h3.sub.seqL p.1.scr), hp.val h3 p (by simp only [Rep]; rw [List.length_map])⟩
  · exact hp.elim
/-- row[k] = e -/
def setRow (k : Int) (i : Int) (s : RS) : Option RS := if k = 1 then some { s with p := i } else if k = 2 then some { s with r := i } else if k = 3 then some { s with m := i } else none
def sRow (k : Int) (o : Sn → RS → R RS D) (f : Sn → RS → R RS D) : Sn → RS → SR RS := fun ε s => bindS (f ε s) ε fun d s1 => bindS (o ε s1) ε fun q s2 => match d, q with
  | .int i, .nm 0 => match setRow k i s2 with
    | some s' => .nx ε s'
    | none => .no
  | _, _ => .no
theorem ds_row (k : Int) {o : Expr} {fo f : Sn → RS → R RS D} {pos' pi : Pos} {j : Nat} (ho : DN Γ (rowW K Γ) W X o fo) (he : DN Γ (rowW K Γ) W X a f)
    (ha : ∀ v, assign (.Subscript o (.Constant (.int k) j pi) pos') X.env v = (do
      let ov ← holding [v] (eval o X.env)
      let iv ← holding [v, ov] (eval (.Constant (.int k) j pi) X.env)
      standAt pos'
      holding [v, ov, iv] (setItem ov iv v)
      release [v, ov, iv] []) := by intro _; rfl)
    (hs : swapsWithSole [.Subscript o (.Constant (.int k) j pi) pos'] a pos.line X.env = pure false := by rfl) (hw : swappedStores [.Subscript o (.Constant (.int k) j pi) pos'] a X.env = pure none := by rfl)
    (h1 : (assignEach [.Subscript o (.Constant (.int k) j pi) pos'] X.env).map (·.2) = [assign (.Subscript o (.Constant (.int k) j pi) pos') X.env] := by rfl) (hK : X.K = K := by rfl) :
    DS Γ (rowW K Γ) W X (.Assign [.Subscript o (.Constant (.int k) j pi) pos'] a pos) (sRow k fo f) := by
  subst hK
  obtain ⟨t, he, ev⟩ := he
  obtain ⟨u, ho, eo⟩ := ho
  refine ⟨_, ps_asg he (pg_sub ho pe_int set_list ha) hs hw h1, fun ε s σ G0 H0 m0 G H m D x p r hp => ev ε s σ H0 G H m _ x.toSt3 p r (hp.next x r fun d s1 G1 H1 m1 v x1 p1 r1 hp1 =>
    eo ε s1 σ H0 G1 H1 m1 _ x1.toSt3 p1 (r.mono x1) (hp1.next (x.trans x1) (r.mono x1) fun q s2 G2 H2 m2 u x2 p2 r2 hp2 => ?_))⟩
  split at hp2
  · rename_i i
    simp only [Rep] at r1 r2
    subst r1
    subst r2
    have xx := (x.trans x1).trans x2
    have m0r : m2 (Γ.rho 0) := (p2.2 _).mpr rfl
    have key : ∀ (s' : RS) (vs : List V), s'.sc = s2.sc → vs = [.ref (Γ.rho 1), .int s'.p, .int s'.r, .int s'.m] → (∀ G H m σ, Ext G0 H0 m0 G H m → (rowW X.K Γ).P s' G H m → RepS X.K Γ G H0 H m σ ε → D.nx σ H) → D.nx σ (upd H2 (Γ.rho 0) (.lst vs)) := by
      intro s' vs hsc hvs hq
      have xw : Ext G2 H2 m2 G2 (upd H2 (Γ.rho 0) (.lst vs)) m2 := {
        sub := fun z o e => by
          rw [upd_ne fun q => by rw [q, xx.dis _ m0r] at e; cases e]
          exact xx.sub z o e
        dis := xx.dis
        own := fun z hz => by
          by_cases hzr : z = Γ.rho 0
          · rw [hzr, upd_same]; exact fun q => nomatch q
          · rw [upd_ne hzr]; exact xx.own z hz
        mm := fun _ h => h
        nt := fun z o _ t e => nt_upd rfl z o t e
        gg := Sub.refl _
        keep := fun z o nz e => by rw [upd_ne fun q => nz (by rw [q]; exact m0r)]; exact e
        newG := fun z h1 h2 => absurd h2 h1
        newM := fun z h => .inl h
        there := fun z hz => by
          by_cases hzr : z = Γ.rho 0
          · rw [hzr, upd_same]; exact fun q => nomatch q
          · rw [upd_ne hzr]; exact hz }
      refine hq G2 _ m2 σ (xx.trans xw) ⟨⟨by rw [upd_same, hvs], by rw [hsc]; exact p2.1.scr⟩, p2.2⟩ (((r.mono x1).mono x2).mono xw)
    split at hp2
    · rename_i s' hs'
      refine ⟨_, _, k, k.toNat, rfl, rfl, p2.1.row, ?_, ?_⟩
      · unfold setRow at hs'
        split at hs'
        · subst_vars; rfl
        · split at hs'
          · subst_vars; rfl
          · split at hs'
            · subst_vars; rfl
            · cases hs'
      · unfold setRow at hs'
        split at hs'
        · cases hs'; subst_vars; exact key { s2 with p := i } _ rfl rfl hp2
        · split at hs'
          · cases hs'; subst_vars; exact key { s2 with r := i } _ rfl rfl hp2
          · split at hs'
            · cases hs'; subst_vars; exact key { s2 with m := i } _ rfl rfl hp2
            · cases hs'
    · exact hp2.elim
  · exact hp2.elim
end
end Dm
/-! sorted(d.items()), d a dict from texts to texts. -/
namespace L2
open PySem PySem.Spec PyProof.Rows
/-- the rank of a text among texts -/
def rkS (ks : List (List Nat)) (x : List Nat) : Int := ((ks.filter fun k => decide (k < x)).length : Nat)
theorem ltN_trans {a b c : List Nat} (h : a < b) (k : b < c) : a < c := List.lt_trans h k
theorem filter_le {α : Type} {p q : α → Bool} (h : ∀ x, p x = true → q x = true) : ∀ l : List α, (l.filter p).length ≤ (l.filter q).length
  | [] => Nat.le_refl _
  | x :: l => by
    have ih := filter_le h l
    by_cases hp : p x = true
    · rw [List.filter_cons_of_pos hp, List.filter_cons_of_pos (h x hp)]
      exact Nat.succ_le_succ ih
    · rw [List.filter_cons_of_neg hp]
      by_cases hq : q x = true
      · rw [List.filter_cons_of_pos hq]
        exact Nat.le_succ_of_le ih
      · rw [List.filter_cons_of_neg hq]
        exact ih
theorem filter_lt {α : Type} {p q : α → Bool} (h : ∀ x, p x = true → q x = true) : ∀ (l : List α) (z : α), z ∈ l → q z = true → p z = false → (l.filter p).length < (l.filter q).length
  | x :: l, z, hz, hq, hp => by
    rcases List.mem_cons.mp hz with rfl | hz
    · rw [List.filter_cons_of_neg (by rw [hp]; exact Bool.false_ne_true), List.filter_cons_of_pos hq]
      exact Nat.lt_succ_of_le (filter_le h l)
    · have ih := filter_lt h l z hz hq hp
      by_cases hpx : p x = true
      · rw [List.filter_cons_of_pos hpx, List.filter_cons_of_pos (h x hpx)]
        exact Nat.succ_lt_succ ih
      · rw [List.filter_cons_of_neg hpx]
        by_cases hqx : q x = true
        · rw [List.filter_cons_of_pos hqx]
          exact Nat.lt_succ_of_lt ih
        · rw [List.filter_cons_of_neg hqx]
          exact ih
theorem ltN_total {a b : List Nat} (h : ¬ a < b) : b ≤ a := by
  exact List.not_lt.mp h
theorem rkS_lt {ks : List (List Nat)} {x y : List Nat} (hx : x ∈ ks) : decide (x < y) = decide (rkS ks x < rkS ks y) := by
  by_cases h : x < y
  · have z : (ks.filter fun k => decide (k < x)).length < (ks.filter fun k => decide (k < y)).length :=
      filter_lt (fun k hk => decide_eq_true (ltN_trans (of_decide_eq_true hk) h)) ks x hx (decide_eq_true h) (decide_eq_false (List.lt_irrefl x))
    rw [decide_eq_true h, decide_eq_true]
    unfold rkS
    exact Int.ofNat_lt.mpr z
  · have z : (ks.filter fun k => decide (k < y)).length ≤ (ks.filter fun k => decide (k < x)).length :=
      filter_le (fun k hk => decide_eq_true (Classical.byContradiction fun hn => h (List.lt_of_le_of_lt (List.not_lt.mp hn) (of_decide_eq_true hk)))) ks
    rw [decide_eq_false h, decide_eq_false]
    unfold rkS
    exact fun q => Nat.lt_irrefl _ (Nat.lt_of_le_of_lt z (Int.ofNat_lt.mp q))
def shS : Nat → Bool := fun _ => true
/-- the first text of the tuple at v -/
def fstTx (h : Heap) (v : Value) : List Nat := match tupKey h shS v with
  | some (.inr x :: _) => x
  | _ => []
/-- v is a tuple of the texts x, y -/
def Two (h : Heap) (v : Value) (x y : Str) : Prop := ∃ (a : Addr) (t u : Tok), v = .ref a ∧ h.get? a = some { cls := .type "tuple", data := .seq #[.str x t, .str y u] }
theorem Two.key {h : Heap} {v : Value} {x y : Str} (z : Two h v x y) : tupKey h shS v = some [.inr x.cps.toList, .inr y.cps.toList] := by
  obtain ⟨a, t, u, rfl, e⟩ := z
  simp only [tupKey, e, tupItems, shS, if_true, Option.map_some]
theorem Two.fst {h : Heap} {v : Value} {x y : Str} (z : Two h v x y) : fstTx h v = x.cps.toList := by
  unfold fstTx
  rw [z.key]
section
variable {prog : Program} {w : World} {A : Around} {E : Value → Shared → Prop} {s : Shared}
theorem tups_of : ∀ {vs : List Value}, (∀ v ∈ vs, ∃ x y, Two s.heap v x y) → ∃ fs, TupsOf s.heap shS vs fs ∧ fs.length = vs.length
  | [], _ => ⟨[], .nil, rfl⟩
  | v :: vs, h => by
    obtain ⟨fs, k, hl⟩ := tups_of (vs := vs) fun u hu => h u (List.mem_cons_of_mem _ hu)
    obtain ⟨x, y, a, t, u, rfl, e⟩ := h v (List.mem_cons_self ..)
    refine ⟨.str x t :: fs, .cons ⟨a, _, _, _, rfl, e, rfl, rfl, rfl, fun z => ?_, fun _ => ⟨x, t, rfl⟩⟩ k, by rw [List.length_cons, List.length_cons, hl]⟩
    cases z
theorem kind_two {vs : List Value} {ks : List (List Nat)} (h2 : 2 ≤ vs.length) (x : ∀ v ∈ vs, ∃ x y, Two s.heap v x y) (hks : ∀ v ∈ vs, fstTx s.heap v ∈ ks)
    (inj : ∀ v ∈ vs, ∀ u ∈ vs, fstTx s.heap v = fstTx s.heap u → tupKey s.heap shS v = tupKey s.heap shS u) (Q : SortKind → Shared → Prop)
    (h : ∀ κ, TS.Cmp prog w A s κ (pairsOf vs) (fun v => rkS ks (fstTx s.heap v)) → Q κ s) : wpAny (model prog w) A (keyKind' vs.toArray) Q E s := by
  obtain ⟨fs, k, hl⟩ := tups_of x
  refine tup_kind (by omega) k (h _ ?_)
  intro p q hp hq Q' E' hQ
  rw [pairsOf_toList] at hp hq
  have mp := (mem_zip_self hp).2
  have mq := (mem_zip_self hq).2
  obtain ⟨x1, y1, z1⟩ := x _ mp
  obtain ⟨x2, y2, z2⟩ := x _ mq
  refine tup_ltAt (shape := shS) true A E' _ _ _ _ z1.key z2.key ?_
  have e1 : decide (rkS ks (fstTx s.heap p.1) < rkS ks (fstTx s.heap q.1)) = decide (x1.cps.toList < x2.cps.toList) := by
    rw [← rkS_lt (hks _ mp), z1.fst, z2.fst]
  have hQ2 : Q' (decide (x1.cps.toList < x2.cps.toList)) s := by rw [← e1]; exact hQ
  by_cases hx : x1.cps.toList = x2.cps.toList
  · have hk := inj _ mp _ mq (by rw [z1.fst, z2.fst, hx])
    rw [z1.key, z2.key] at hk
    have hk2 : [Sum.inr x1.cps.toList, Sum.inr y1.cps.toList] = ([Sum.inr x2.cps.toList, Sum.inr y2.cps.toList] : List (Int ⊕ List Nat)) := Option.some.inj hk
    rw [hk2]
    have e2 : decide (x1.cps.toList < x2.cps.toList) = false := by rw [hx]; exact decide_eq_false (List.lt_irrefl _)
    rw [e2] at hQ2
    have e3 : (tupKind s.heap shS).blt [Sum.inr x2.cps.toList, Sum.inr y2.cps.toList] [Sum.inr x2.cps.toList, Sum.inr y2.cps.toList] = false := (tupKind s.heap shS).irrefl _
    rw [e3]
    exact hQ2
  · have e3 : (tupKind s.heap shS).blt [Sum.inr x1.cps.toList, Sum.inr y1.cps.toList] [Sum.inr x2.cps.toList, Sum.inr y2.cps.toList] = decide (x1.cps.toList < x2.cps.toList) := by
      refine (lex_diff (O := itemOrd) (x := Sum.inr x1.cps.toList) (y := Sum.inr x2.cps.toList) (fun z => hx (Sum.inr.inj z))).trans ?_
      rfl
    rw [e3]
    exact hQ2
end

abbrev kvT (ps : List (Str × Str)) : List (Key × V) := ps.map fun p => (Sum.inr p.1, V.str p.2)
/-- pairs laid at addresses, their objects told -/
def putZ (ob : Addr → Obj) : Hp → List Addr → List (Key × V) → Hp
  | H, a :: as, p :: kvs => putZ ob (upd H a (.frz (ob a) (.tup [kV p.1, p.2]))) as kvs
  | H, _, _ => H
theorem putZ_off {ob : Addr → Obj} {b : Addr} : ∀ (as : List Addr) (kvs : List (Key × V)) (H : Hp), b ∉ as → putZ ob H as kvs b = H b
  | [], _, _, _ => rfl
  | _ :: _, [], _, _ => rfl
  | a :: as, p :: kvs, H, h => by
    show putZ ob (upd H a (.frz (ob a) (.tup [kV p.1, p.2]))) as kvs b = H b
    rw [putZ_off as kvs _ (fun z => h (List.mem_cons_of_mem _ z)), upd_ne (fun z => h (by rw [z]; exact List.mem_cons_self))]
theorem putZ_at {ob : Addr → Obj} : ∀ (as : List Addr) (kvs : List (Key × V)) (H : Hp), as.length = kvs.length → as.Nodup → Paired (fun (t : Addr) (p : Key × V) => putZ ob H as kvs t = some (.frz (ob t) (.tup [kV p.1, p.2]))) as kvs
  | [], [], _, _, _ => .nil
  | [], _ :: _, _, h, _ => by cases h
  | _ :: _, [], _, h, _ => by cases h
  | a :: as, p :: kvs, H, h, hn => by
    have hn' := List.nodup_cons.mp hn
    refine .cons ?_ (putZ_at as kvs (upd H a (.frz (ob a) (.tup [kV p.1, p.2]))) (Nat.succ.inj h) hn'.2)
    show putZ ob (upd H a (.frz (ob a) (.tup [kV p.1, p.2]))) as kvs a = some (.frz (ob a) (.tup [kV p.1, p.2]))
    rw [putZ_off as kvs _ hn'.1, upd_same]
def tSortIt (te : TE) : TE := fun σ H Q => te σ H fun x H1 => ∃ (d : Addr) (ps : List (Str × Str)), x = .ref d ∧ Rd H1 d (.dK (kvT ps)) ∧ (ps.map (·.1)).Nodup ∧ ps.length < 64 ∧
  ∀ (ob : Addr → Obj) (as : List Addr) (zs : List (Addr × Str × Str)) (l : Addr), (∀ a, (ob a).dict = none) → zs.Perm (as.zip ps) → as.length = ps.length → as.Nodup → (∀ t ∈ as, H1 t = none) → H1 l = none → l ∉ as →
    zs.Pairwise (fun e f => e.2.1.cps.toList ≤ f.2.1.cps.toList) → Q (.ref l) (upd (putZ ob H1 as (kvT ps)) l (.lst (zs.map fun z => V.ref z.1)))
theorem pairs_get {prog : Program} {w : World} {es : List DictEntry} {kvs : List (Key × Value)} (h : Pairs (mixKind prog w) es kvs) : ∀ {j : Nat} {e : DictEntry}, es[j]? = some e → ∃ p, kvs[j]? = some p ∧ (mixKind prog w).is p.1 e.key = true ∧ e.val = p.2 := by
  induction h with
  | nil => intro j e he; simp at he
  | cons h1 h2 _ ih =>
    intro j e he
    cases j with
    | zero =>
      simp at he
      subst he
      exact ⟨_, rfl, h1, h2⟩
    | succ j =>
      simp at he
      obtain ⟨p, q1, q2⟩ := ih he
      exact ⟨p, by simpa using q1, q2⟩
theorem take_put {X : Cx} {ob : Addr → Obj} {pins : List (Addr × Obj)} {σ : St} {s0 : Shared} {H0 : Hp} {h' : Heap} {tk : Nat} (I0 : Inv X pins σ H0 s0) : ∀ (as : List Addr) (kvs : List (Key × V)) (H1 : Hp), Inv X pins σ H1 { s0 with heap := h', toks := tk } → as.Nodup → as.length = kvs.length →
    (∀ (j : Nat) (a : Addr) (p : Key × V), as[j]? = some a → kvs[j]? = some p → s0.heap.objs.size ≤ a ∧ H1 a = none ∧ ∀ H2, ObjOk X.prog X.w H2 h' a (.frz (ob a) (.tup [kV p.1, p.2]))) → Inv X pins σ (putZ ob H1 as kvs) { s0 with heap := h', toks := tk }
  | [], [], H1, I1, _, _, _ => I1
  | [], _ :: _, _, _, _, h, _ => by cases h
  | _ :: _, [], _, _, _, h, _ => by cases h
  | a :: as, p :: kvs, H1, I1, hn, hl, h => by
    obtain ⟨hb, hnone, ok⟩ := h 0 a p rfl rfl
    have I2 : Inv X pins σ (upd H1 a (.frz (ob a) (.tup [kV p.1, p.2]))) { s0 with heap := h', toks := tk } := I1.take (h' := h') (t' := tk) (fun b ob _ e => e) (I0.fpOk hb hnone) (ok _)
    have hn' := List.nodup_cons.mp hn
    refine take_put I0 as kvs _ I2 hn'.2 (Nat.succ.inj hl) fun j b q hj hq => ?_
    obtain ⟨c1, c2, c3⟩ := h (j + 1) b q (by simpa using hj) (by simpa using hq)
    exact ⟨c1, by rw [upd_ne (fun z => hn'.1 (by rw [← z]; exact List.mem_of_getElem? hj))]; exact c2, c3⟩
section
variable {X : Cx} {e : Expr} {te : TE} {p apos cpos pos : Pos}
theorem pe_sortItems (hc : X.calm = true) (hu : X.A.units + 64 < cLine) (he : PE X e te) (hg : Gl X "sorted") (hm : X.mg "sorted" = none) (hbase : attributeBase e "items" X.env (eval e X.env) = eval e X.env := by rfl) (hline : (apos.endLine == cpos.line) = true := by rfl)
    (hs : starEach [.Call (.Attribute e "items" apos) [] [] cpos] X.env = (false, eval (.Call (.Attribute e "items" apos) [] [] cpos) X.env) :: starEach [] X.env := by rfl) :
    PE X (.Call (.Name "sorted" p) [.Call (.Attribute e "items" apos) [] [] cpos] [] pos) (tSortIt te) := by
  refine ⟨fun pins s σ H Q I hq => ?_⟩
  refine wpAny_Call_Name_kw (ld_blt I hg hm (show bootBuiltins "sorted" = some (.builtin "sorted") by decide +kernel) ?_ (by decide +kernel) (by decide +kernel))
  refine PyProof.Rows.callWith_builtin1 ?_ hs rfl
  rw [hs]
  show wpAny _ _ (spliced ((false, eval (.Call (.Attribute e "items" apos) [] [] cpos) X.env) :: backTo pos (starEach [] X.env))) _ _ s
  refine Calls.spliced_cons ?_
  refine wpAny_Call_method (T := "dict") (id := "dict.items") hbase rfl hline F.plainAttrs_dict F.slot_dict_items F.type_dict_items (thn (he.run pins s σ H _ I hq) fun u s1 ⟨x, H1, I1, rx, d, ps, ex, hd, nd0, h64, q⟩ => ?_)
  subst ex
  obtain rfl : u = Value.ref d := rx
  obtain ⟨hz, hs0, vs, kv, hdo⟩ := hd.ok I1.hok
  have lk : ps.length = vs.length := by
    have := Paired.length kv
    rwa [List.length_map] at this
  have I2 : Inv X pins σ H1 { s1 with heap := s1.heap.push { cls := .type "dict_items", data := .fields #[.ref d] } } := I1.kept (t' := s1.toks) fun b ob q => Heap.get?_push_of_some _ q
  refine ⟨hdo.typeIs, hdo.mapOf.noDict, ?_⟩
  show wpAny _ _ (callWith cpos (.builtin "dict.items") [.ref d] [] []) _ X.xe s1
  refine method_meetsIn F.slot_dict_items F.entry_dict_items rfl (PySem.evalArgs_none ⟨rfl, hdo.typeIs, F.args_dict_items_1 _, _, meets_dict_items (mixKind X.prog X.w) d hs0, ⟨vs, hdo⟩, ?_⟩)
  refine Calls.spliced_nil ?_
  obtain ⟨o, es, ep, ho, hx, hdat, _, hpairs, _⟩ := id hdo
  have hes : es.size = vs.length := by rw [← Array.length_toList]; exact hpairs.length
  have hh : X.A.handled = none := I1.ok.hd hc
  have fr2 : s1.heap.objs.size < (s1.heap.push { cls := .type "dict_items", data := .fields #[.ref d] } : Heap).objs.size := by rw [Heap.size_push]; exact Nat.lt_succ_self _
  generalize hH2 : s1.heap.push { cls := .type "dict_items", data := .fields #[.ref d] } = hV at I2 fr2
  have view : hV.IsItemsView s1.heap.objs.size d := by rw [← hH2]; exact ⟨_, Heap.get?_push_size _ rfl, rfl, rfl⟩
  have raw : DT.Raw hV d es ep := by rw [← hH2]; exact ⟨o, Heap.get?_push_of_some _ ho, hx, hdat⟩
  refine DT.sortedI (s := { s1 with heap := hV }) (es := es) (ep := ep) hh view raw (by rw [sizeLine_eq]; omega) fun h' tk as hk hlt hl hG => ?_
  have lak : as.length = ps.length := by omega
  have nd : as.Nodup := List.Pairwise.imp (fun h => Nat.ne_of_lt h) hG.rise
  have hbs : hV.objs.size < h'.objs.size := hlt
  -- the pairs that were made
  have pr : ∀ (j : Nat) (b : Addr), as[j]? = some b → ∃ (c : Str × Str) (t u : Tok), ps[j]? = some c ∧ h'.get? b = some { cls := .type "tuple", data := .seq #[Value.str c.1 t, Value.str c.2 u] } := by
    intro j b hj
    obtain ⟨en, he', hg'⟩ := hG.pairs j b hj
    obtain ⟨pv, g1, g2, g3⟩ := pairs_get hpairs (j := j) (e := en) (by simpa using he')
    have hkj : j < ps.length := by
      have := (List.getElem?_eq_some_iff.mp hj).1
      omega
    obtain ⟨c, hc'⟩ : ∃ c, ps[j]? = some c := ⟨_, List.getElem?_eq_getElem hkj⟩
    obtain ⟨qv, f1, f2, f3⟩ := LiI.paired_get kv (i := j) (x := (Sum.inr c.1, V.str c.2)) (by rw [List.getElem?_map, hc']; rfl)
    rw [g1] at f1
    cases f1
    have f3' : RelV (V.str c.2) pv.2 := f3
    obtain ⟨u, hu'⟩ := f3'
    have rk : RelV (kV pv.1) en.key := relV_key (show keyIs pv.1 en.key = true from g2)
    rw [← f2] at rk
    obtain ⟨t, ht⟩ := (show ∃ t, en.key = Value.str c.1 t from rk)
    refine ⟨c, t, u, hc', ?_⟩
    rw [hg', ht, g3, hu']
  have hob : (h'.push { cls := .type "list", data := .seq (as.map Value.ref).toArray }).get? h'.objs.size = some (seqObj "list" (as.map Value.ref).toArray 0) := Heap.get?_push_size _ rfl
  have kb : ∀ b o, hV.get? b = some o → (h'.push { cls := .type "list", data := .seq (as.map Value.ref).toArray }).get? b = some o := fun b o e => Heap.get?_push_of_some _ (hk b o e)
  have ne0 : ∀ b o, h'.get? b = some o → b ≠ h'.objs.size := fun b o e => Nat.ne_of_lt (Heap.lt_size e)
  generalize hh2 : h'.push { cls := .type "list", data := .seq (as.map Value.ref).toArray } = h2 at hob kb ⊢
  have ka : ∀ b o, h'.get? b = some o → h2.get? b = some o := fun b o e => by rw [← hh2]; exact Heap.get?_push_of_some _ e
  have two : ∀ (j : Nat) (b : Addr) (c : Str × Str), as[j]? = some b → ps[j]? = some c → Two (TS.midHeap h2 h'.objs.size (as.map Value.ref)) (.ref b) c.1 c.2 := by
    intro j b c hj hcj
    obtain ⟨c', t, u, he', hg'⟩ := pr j b hj
    rw [he'] at hcj
    cases hcj
    exact ⟨b, t, u, rfl, TS.midHeap_old (ne0 _ _ hg') (ka _ _ hg')⟩
  have at_ : ∀ v ∈ as.map Value.ref, ∃ (j : Nat) (b : Addr) (c : Str × Str), v = .ref b ∧ as[j]? = some b ∧ ps[j]? = some c := by
    intro v hv'
    obtain ⟨b, hb, rfl⟩ := List.mem_map.mp hv'
    obtain ⟨j, hj⟩ := List.mem_iff_getElem?.mp hb
    obtain ⟨c, _, _, he', _⟩ := pr j b hj
    exact ⟨j, b, c, rfl, hj, he'⟩
  have fstat : ∀ (j : Nat) (b : Addr) (c : Str × Str), as[j]? = some b → ps[j]? = some c → fstTx (TS.midHeap h2 h'.objs.size (as.map Value.ref)) (.ref b) = c.1.cps.toList := fun j b c h1 h2 => (two j b c h1 h2).fst
  refine wpAny_call_entry PyProof.Rows.slot_list_sort ⟨_, hob, rfl⟩ PyProof.Rows.entry_list_sort
    (SK.plain_sort (s := { s1 with heap := h2, toks := tk }) (r := fun v => rkS (ps.map fun c => c.1.cps.toList) (fstTx (TS.midHeap h2 h'.objs.size (as.map Value.ref)) v)) hob (by rw [List.length_map]; omega) (fun h2' Qk hQk => ?_) fun pz out o1 o2 o3 => ⟨.none, rfl, ?_⟩) (PyProof.Rows.args_list_sort _)
  · refine kind_two (s := { s1 with heap := TS.midHeap h2 h'.objs.size (as.map Value.ref), toks := tk }) h2' (fun v hv' => ?_) (fun v hv' => ?_) (fun v hv' u hu' ef => ?_) Qk hQk
    · obtain ⟨j, b, c, rfl, hj, hcj⟩ := at_ v hv'
      exact ⟨_, _, two j b c hj hcj⟩
    · obtain ⟨j, b, c, rfl, hj, hcj⟩ := at_ v hv'
      show fstTx (TS.midHeap h2 h'.objs.size (as.map Value.ref)) (.ref b) ∈ _
      rw [fstat j b c hj hcj]
      exact List.mem_map.mpr ⟨c, List.mem_of_getElem? hcj, rfl⟩
    · obtain ⟨j, b, c, rfl, hj, hcj⟩ := at_ v hv'
      obtain ⟨j2, b2, c2, rfl, hj2, hcj2⟩ := at_ u hu'
      have ef' : c.1.cps.toList = c2.1.cps.toList := by
        rw [← fstat j b c hj hcj, ← fstat j2 b2 c2 hj2 hcj2]
        exact ef
      have ec : c.1 = c2.1 := by
        cases h1 : c.1 with
        | mk a1 =>
          cases h2 : c2.1 with
          | mk a2 =>
            rw [h1, h2] at ef'
            have : a1 = a2 := Array.toList_inj.mp ef'
            rw [this]
      have ej : j = j2 := by
        refine (List.getElem?_inj (l := ps.map (·.1)) (i := j) (j := j2) (by rw [List.length_map]; exact (List.getElem?_eq_some_iff.mp hcj).1) nd0).mp ?_
        rw [List.getElem?_map, List.getElem?_map, hcj, hcj2]
        simp [ec]
      subst ej
      rw [hcj] at hcj2
      cases hcj2
      show tupKey (TS.midHeap h2 h'.objs.size (as.map Value.ref)) shS (.ref b) = tupKey (TS.midHeap h2 h'.objs.size (as.map Value.ref)) shS (.ref b2)
      rw [(two j b c hj hcj).key, (two j b2 c hj2 hcj).key]
  · show EP X pins σ Q (.ref h'.objs.size) { s1 with heap := sortedHeap h2 h'.objs.size (as.map Value.ref) out, toks := tk }
    obtain ⟨zs, pzs, ez⟩ := perm_lift (fun z : Addr × Str × Str => (Value.ref z.1, Value.ref z.1)) o2 (as.zip ps) (DX.zip_self Value.ref as ps lak)
    have idx : ∀ z ∈ zs, ∃ j : Nat, as[j]? = some z.1 ∧ ps[j]? = some z.2 := by
      intro z' hz'
      obtain ⟨j, hj⟩ := List.mem_iff_getElem?.mp (pzs.mem_iff.mp hz')
      exact ⟨j, List.getElem?_zip_eq_some.mp hj⟩
    have hout : out.toList = zs.map fun z => Value.ref z.1 := by
      rw [o1, ← ez, List.map_map]
      all_goals rfl
    have hsort : zs.Pairwise (fun e f => e.2.1.cps.toList ≤ f.2.1.cps.toList) := by
      rw [← ez, List.pairwise_map] at o3
      refine List.Pairwise.imp_of_mem (fun {x y} hx hy h => ?_) o3
      obtain ⟨j, j1, j2⟩ := idx x hx
      obtain ⟨i, i1, i2⟩ := idx y hy
      have hle : rkS (ps.map fun c => c.1.cps.toList) (fstTx (TS.midHeap h2 h'.objs.size (as.map Value.ref)) (.ref x.1)) ≤ rkS (ps.map fun c => c.1.cps.toList) (fstTx (TS.midHeap h2 h'.objs.size (as.map Value.ref)) (.ref y.1)) := h
      rw [fstat j _ _ j1 j2, fstat i _ _ i1 i2] at hle
      refine List.not_lt.mp fun hlt' => ?_
      have e1 := rkS_lt (ks := ps.map fun c => c.1.cps.toList) (y := x.2.1.cps.toList) (List.mem_map.mpr ⟨y.2, List.mem_of_getElem? i2, rfl⟩)
      rw [decide_eq_true hlt'] at e1
      have e2 := of_decide_eq_true e1.symm
      omega
    have kF : ∀ b o, b ≠ h'.objs.size → h2.get? b = some o → (sortedHeap h2 h'.objs.size (as.map Value.ref) out).get? b = some o := fun b o hb e => (PyProof.Rows.sortedHeap_old hb (Heap.lt_size e)).trans e
    have kS : ∀ b o, hV.get? b = some o → (sortedHeap h2 h'.objs.size (as.map Value.ref) out).get? b = some o := fun b o e => kF b o (ne0 _ _ (hk b o e)) (kb b o e)
    obtain ⟨eF, heF⟩ := PyProof.Rows.sortedHeap_at (vs := as.map Value.ref) (out := out) hob
    have I3 : Inv X pins σ H1 { s1 with heap := sortedHeap h2 h'.objs.size (as.map Value.ref) out, toks := tk } := I2.kept (t' := tk) kS
    have low : ∀ t ∈ as, hV.objs.size ≤ t := fun t ht => Nat.le_of_lt (hG.above t ht)
    have new : ∀ t ∈ as, H1 t = none := fun t ht => I2.hok.fresh (low t ht)
    have hn0 : H1 h'.objs.size = none := I2.hok.fresh (Nat.le_of_lt hbs)
    have lna : h'.objs.size ∉ as := fun z => Nat.lt_irrefl _ (hG.there z)
    obtain ⟨ob, hob1, hob2⟩ : ∃ ob : Addr → Obj, (∀ a, (ob a).dict = none) ∧ ∀ a o, h'.get? a = some o → o.cls = .type "tuple" → o.dict = none → o.slots = #[] → ob a = o :=
      ⟨fun a => { cls := .type "tuple", data := match h'.get? a with | some o => o.data | none => .plain }, fun _ => rfl, fun a o e e1 e2 e3 => by
        obtain ⟨c, dd, dat, sl⟩ := o
        simp only at e1 e2 e3
        subst e1 e2 e3
        simp only [e]⟩
    have I4 : Inv X pins σ (putZ ob H1 as (kvT ps)) { s1 with heap := sortedHeap h2 h'.objs.size (as.map Value.ref) out, toks := tk } := by
      refine take_put (s0 := { s1 with heap := hV }) I2 as (kvT ps) H1 I3 nd (by rw [List.length_map]; exact lak) fun j b q hj hq' => ?_
      obtain ⟨c, t, u, hcj, hg'⟩ := pr j b hj
      rw [List.getElem?_map, hcj] at hq'
      cases hq'
      have hb := List.mem_of_getElem? hj
      exact ⟨low b hb, new b hb, fun H3 => ⟨by rw [hob2 b _ hg' rfl rfl rfl]; exact kF _ _ (ne0 _ _ hg') (ka _ _ hg'), (by rw [sizeLine_eq]; show 2 ≤ 16777216; omega), [Value.str c.1 t, Value.str c.2 u], .cons ⟨t, rfl⟩ (.cons ⟨u, rfl⟩ .nil), ⟨_, kF _ _ (ne0 _ _ hg') (ka _ _ hg'), rfl, 0, rfl⟩⟩⟩
    have hn1 : putZ ob H1 as (kvT ps) h'.objs.size = none := by rw [putZ_off as _ _ lna]; exact hn0
    have hlen : (zs.map fun z => V.ref z.1).length ≤ sizeLine := by
      have e := pzs.length_eq
      rw [List.length_zip] at e
      rw [List.length_map, sizeLine_eq]
      omega
    have rv : Vals (zs.map fun z => V.ref z.1) out.toList := by
      rw [hout]
      exact vals_maps (fun z : Addr × Str × Str => V.ref z.1) (fun z => Value.ref z.1) zs fun _ _ => rfl
    have I5 : Inv X pins σ (upd (putZ ob H1 as (kvT ps)) h'.objs.size (.lst (zs.map fun z => V.ref z.1))) { s1 with heap := sortedHeap h2 h'.objs.size (as.map Value.ref) out, toks := tk } :=
      I4.take (h' := sortedHeap h2 h'.objs.size (as.map Value.ref) out) (t' := tk) (fun b ob _ e => e) (I2.fpOk (Nat.le_of_lt hbs) hn1) ⟨hlen, out.toList, eF, rv, heF⟩
    exact ⟨.ref h'.objs.size, _, I5, rfl, q ob as zs h'.objs.size hob1 pzs lak nd new hn0 lna hsort⟩
end
end L2
namespace Dm
open PySem L2 PySem.Spec PyProof.Rows
section
variable {K : PySem.W.Frag} {Γ : Pm} {G : Hp}
def putD (kvs : List (List Nat × D)) (k : List Nat) (d : D) : List (List Nat × D) := if (kvs.any fun p => decide (p.1 = k)) = true then kvs.map (fun p => if p.1 = k then (p.1, d) else p) else kvs ++ [(k, d)]
theorem key_iff {a b : List Nat} : ((Sum.inr (tx a) : Key) = Sum.inr (tx b)) ↔ a = b := ⟨fun h => tx_inj (Sum.inr.inj h), fun h => by rw [h]⟩
theorem RepKV.any : ∀ {ps : List (List Nat × D)} {es : List (Key × V)} (k : List Nat), RepKV K Γ G ps es → (es.any fun e => decide (e.1 = Sum.inr (tx k))) = ps.any fun p => decide (p.1 = k)
  | [], es, k, h => by simp only [RepKV] at h; subst h; rfl
  | p :: ps, es, k, h => by
    simp only [RepKV] at h
    obtain ⟨v, es', rfl, _, h3⟩ := h
    rw [List.any_cons, List.any_cons, RepKV.any k h3]
    congr 1
    exact decide_eq_decide.mpr key_iff
theorem RepKV.repl {d : D} {v : V} (r : Rep K Γ G d v) (k : List Nat) : ∀ {ps : List (List Nat × D)} {es : List (Key × V)}, RepKV K Γ G ps es → RepKV K Γ G (ps.map fun p => if p.1 = k then (p.1, d) else p) (es.map fun e => if e.1 = Sum.inr (tx k) then (e.1, v) else e)
  | [], es, h => by simp only [RepKV] at h; subst h; exact rfl
  | p :: ps, es, h => by
    simp only [RepKV] at h
    obtain ⟨w, es', rfl, h2, h3⟩ := h
    rw [List.map_cons, List.map_cons]
    by_cases e : p.1 = k
    · rw [if_pos e, if_pos (key_iff.mpr e)]
      exact ⟨_, _, rfl, r, RepKV.repl r k h3⟩
    · rw [if_neg e, if_neg (fun z => e (key_iff.mp z))]
      exact ⟨_, _, rfl, h2, RepKV.repl r k h3⟩
theorem RepKV.snoc {d : D} {v : V} (r : Rep K Γ G d v) (k : List Nat) : ∀ {ps : List (List Nat × D)} {es : List (Key × V)}, RepKV K Γ G ps es → RepKV K Γ G (ps ++ [(k, d)]) (es ++ [(Sum.inr (tx k), v)])
  | [], es, h => by simp only [RepKV] at h; subst h; exact ⟨_, _, rfl, r, rfl⟩
  | p :: ps, es, h => by
    simp only [RepKV] at h
    obtain ⟨w, es', rfl, h2, h3⟩ := h
    exact ⟨_, _, rfl, h2, RepKV.snoc r k h3⟩
theorem RepKV.put {d : D} {v : V} (r : Rep K Γ G d v) {ps : List (List Nat × D)} {es : List (Key × V)} (k : List Nat) (h : RepKV K Γ G ps es) : RepKV K Γ G (putD ps k d) (putK es (Sum.inr (tx k)) v) := by
  unfold putD putK
  rw [h.any k]
  split
  · exact RepKV.repl r k h
  · exact RepKV.snoc r k h
theorem RepKV.length : ∀ {ps : List (List Nat × D)} {es : List (Key × V)}, RepKV K Γ G ps es → es.length = ps.length
  | [], es, h => by simp only [RepKV] at h; subst h; rfl
  | p :: ps, es, h => by
    simp only [RepKV] at h
    obtain ⟨v, es', rfl, _, h3⟩ := h
    rw [List.length_cons, List.length_cons, RepKV.length h3]
/-- a dict of texts -/
def txtsKV : List (List Nat × D) → Option (List (List Nat × List Nat))
  | [] => some []
  | (k, .str l) :: r => (txtsKV r).map ((k, l) :: ·)
  | _ :: _ => none
theorem RepKV.txts : ∀ {ps : List (List Nat × D)} {es : List (Key × V)} {qs : List (List Nat × List Nat)}, RepKV K Γ G ps es → txtsKV ps = some qs → es = kvT (qs.map fun q => (tx q.1, tx q.2))
  | [], es, qs, h, e => by simp only [RepKV] at h; simp only [txtsKV] at e; cases e; subst h; rfl
  | (k, d) :: ps, es, qs, h, e => by
    simp only [RepKV] at h
    obtain ⟨v, es', rfl, h2, h3⟩ := h
    cases d with
    | str l =>
      simp only [txtsKV] at e
      cases q : txtsKV ps with
      | none => rw [q] at e; cases e
      | some qs' =>
        rw [q] at e
        cases e
        simp only [Rep] at h2
        subst h2
        rw [RepKV.txts h3 q]
        rfl
    | _ => simp only [txtsKV] at e; cases e
theorem Ext.putZ {ob : Addr → Obj} {m m1 : Addr → Prop} {H : Hp} : ∀ (as : List Addr) (kvs : List (Key × V)) {G1 H1 : Hp}, Ext G H m G1 H1 m1 → as.Nodup → (∀ t ∈ as, H1 t = none) → Ext G H m (L2.putZ ob G1 as kvs) (L2.putZ ob H1 as kvs) m1
  | [], _, _, _, x, _, _ => x
  | _ :: _, [], _, _, x, _, _ => x
  | a :: as, p :: kvs, G1, H1, x, hn, h => by
    have hn' := List.nodup_cons.mp hn
    refine Ext.putZ as kvs (x.new (o := .frz (ob a) (.tup [kV p.1, p.2])) (h a List.mem_cons_self)) hn'.2 fun t ht => ?_
    rw [upd_ne (fun z => hn'.1 (by rw [← z]; exact ht))]
    exact h t (List.mem_cons_of_mem _ ht)
end
/-- by keys -/
def insKV (p : List Nat × List Nat) : List (List Nat × List Nat) → List (List Nat × List Nat)
  | [] => [p]
  | q :: r => if p.1 ≤ q.1 then p :: q :: r else q :: insKV p r
def sortKV : List (List Nat × List Nat) → List (List Nat × List Nat)
  | [] => []
  | p :: r => insKV p (sortKV r)
theorem insKV_perm (p : List Nat × List Nat) : ∀ l, (insKV p l).Perm (p :: l)
  | [] => .refl _
  | q :: r => by
    unfold insKV
    split
    · exact .refl _
    · exact ((insKV_perm p r).cons q).trans (.swap p q r)
theorem sortKV_perm : ∀ l, (sortKV l).Perm l
  | [] => .refl _
  | p :: r => (insKV_perm p _).trans ((sortKV_perm r).cons p)
theorem insKV_sorted (p : List Nat × List Nat) : ∀ l, l.Pairwise (fun a b => a.1 ≤ b.1) → (insKV p l).Pairwise (fun a b => a.1 ≤ b.1)
  | [], _ => List.pairwise_singleton _ _
  | q :: r, h => by
    have h' := List.pairwise_cons.mp h
    unfold insKV
    split
    · rename_i hpq
      refine List.pairwise_cons.mpr ⟨fun x hx => ?_, h⟩
      rcases List.mem_cons.mp hx with rfl | hx
      · exact hpq
      · exact List.le_trans hpq (h'.1 x hx)
    · rename_i hpq
      refine List.pairwise_cons.mpr ⟨fun x hx => ?_, insKV_sorted p r h'.2⟩
      rcases List.mem_cons.mp ((insKV_perm p r).mem_iff.mp hx) with rfl | hx
      · exact List.le_of_lt (List.not_le.mp hpq)
      · exact h'.1 x hx
theorem sortKV_sorted : ∀ l, (sortKV l).Pairwise (fun a b => a.1 ≤ b.1)
  | [] => .nil
  | p :: r => insKV_sorted p _ (sortKV_sorted r)
theorem sortKV_eq {l zs : List (List Nat × List Nat)} (hn : (l.map (·.1)).Nodup) (hp : zs.Perm l) (hs : zs.Pairwise (fun a b => a.1 ≤ b.1)) : zs = sortKV l := by
  refine List.Perm.eq_of_pairwise (le := fun a b => a.1 ≤ b.1) (fun a b ha hb h1 h2 => ?_) hs (sortKV_sorted l) (hp.trans (sortKV_perm l).symm)
  have e : a.1 = b.1 := List.le_antisymm h1 h2
  have ma := hp.mem_iff.mp ha
  have mb := (sortKV_perm l).mem_iff.mp hb
  obtain ⟨i, hi⟩ := List.mem_iff_getElem?.mp ma
  obtain ⟨j, hj⟩ := List.mem_iff_getElem?.mp mb
  have ij : i = j := by
    refine (List.getElem?_inj (l := l.map (·.1)) (i := i) (j := j) (by rw [List.length_map]; exact (List.getElem?_eq_some_iff.mp hi).1) hn).mp ?_
    rw [List.getElem?_map, List.getElem?_map, hi, hj]
    simp [e]
  subst ij
  rw [hi] at hj
  cases hj
  rfl
section
variable {S : Type} {Γ : Pm} {w : Wo S} {W : WX} {X : Cx} {pos p2 : Pos} {a b c : Expr} {es : List Expr}
/-- x = {} -/
def sNewK (i : Nat) : Sn → S → SR S := fun ε s => .nx (ε.set i (some (.ow (.k [])))) s
theorem ds_newK (i : Nat) {x : Str} {pos' p3 : Pos} (hN : X.N.Nodup) (hi : X.N[i]? = some x) (hx : Loc X.env.scope x) (hs : swapsWith (.Dict [] [] p3) (some (.Name x pos')) pos.line X.env = pure false := by rfl)
    (hf : X.fn x = true ∨ X.env.scope.names.lookup x = some .local := by first | exact .inl rfl | exact .inr rfl | assumption) : DS Γ w W X (.Assign [.Name x pos'] (.Dict [] [] p3) pos) (sNewK i) := by
  refine ⟨_, ps_set hN hi hx pe_dnewK hs hf, fun ε s σ G0 H0 m0 G H m D x p r hp q hq => ?_⟩
  obtain ⟨x2, r2⟩ := own_new (vs := .dK []) i x r (xs := .k []) ⟨_, rfl, rfl⟩ hq
  refine hp G _ m _ x2 (w.stay p (Sub.refl _) fun y o hy ey => ?_) r2
  rw [upd_ne (ne_of_none ey hq)]
  exact ey
/-- x[k] = e, x an owned dict -/
def sPutK (i : Nat) (fk f : Sn → S → R S D) : Sn → S → SR S := fun ε s => match ε[i]? with
  | some (some (.ow (.k kvs))) => bindS (f ε s) ε fun d s1 => bindS (fk ε s1) ε fun k s2 => match k with
    | .str l => if kvs.length < sizeLine then .nx (ε.set i (some (.ow (.k (putD kvs l d))))) s2 else .no
    | _ => .no
  | _ => .no
theorem ds_putK (i : Nat) {x : Str} {px pos' : Pos} {fk f : Sn → S → R S D} (hu : X.A.units + 64 < cLine) (hk : DN Γ w W X b fk) (he : DN Γ w W X a f) (hN : X.N[i]? = some x) (hv : Vis X.env.scope x) (hd : (x == ("__debug__" : Str)) = false)
    (hcd : (x == ("__classdict__" : Str)) = false) (hs : swapsWith a (some (.Subscript (.Name x px) b pos')) pos.line X.env = pure false := by rfl) : DS Γ w W X (.Assign [.Subscript (.Name x px) b pos'] a pos) (sPutK i fk f) := by
  obtain ⟨t, he, ev⟩ := he
  obtain ⟨u, hk, ek⟩ := hk
  refine ⟨_, ps_dput (by omega) (pe_var hN hv hd hcd) hk he hs, fun ε s σ G0 H0 m0 G H m D x p r hp => ?_⟩
  unfold sPutK at hp
  split at hp
  · rename_i kvs hε
    refine ev ε s σ H0 G H m _ x.toSt3 p r (hp.next x r fun d s1 G1 H1 m1 v x1 p1 r1 hp1 => ?_)
    have xx := x.trans x1
    have rr := r.mono x1
    obtain ⟨q, _, k1, k2, ⟨es, rfl, k3⟩, k4, k5, k6, k7⟩ := rr.ownAt hε
    refine ⟨_, k1, ek ε s1 σ H0 G1 H1 m1 _ xx.toSt3 p1 rr (hp1.next xx rr fun k s2 G2 H2 m2 kv x2 p2 r2 hp2 => ?_)⟩
    split at hp2
    · rename_i l
      split at hp2
      · rename_i hz
        simp only [Rep] at r2
        subst r2
        have e2 := x2.keep q _ k5 k2
        have r3 := rr.mono x2
        obtain ⟨x4, r4, n4⟩ := own_write (xx.trans x2) r3 hε k1 (ws := .dK (putK es (Sum.inr (tx l)) v)) (ys := .k (putD kvs l d)) ⟨_, rfl, (k3.mono x2.gg).put (r1.mono x2.gg) l⟩
        refine ⟨q, _, rfl, DPut.k (k := Sum.inr (tx l)) e2 (by rw [k3.length]; exact hz), hp2 G2 _ m2 σ x4 (w.stay p2 (Sub.refl _) fun y o hy ey => ?_) r4⟩
        rw [upd_ne fun z => by rw [z] at hy; exact n4 hy]
        exact ey
      · exact hp2.elim
    · exact hp2.elim
  · exact hp.elim
theorem repL_map {K : PySem.W.Frag} {G : Hp} {α : Type} (f : α → D) (g : α → V) : ∀ zs : List α, (∀ z ∈ zs, Rep K Γ G (f z) (g z)) → RepL K Γ G (zs.map f) (zs.map g)
  | [], _ => RepL.nil
  | z :: zs, h => RepL.cons (h z List.mem_cons_self) (repL_map f g zs fun y hy => h y (List.mem_cons_of_mem _ hy))
/-- sorted(x.items()), x an owned dict -/
def nSortIt (i : Nat) : Sn → S → R S D := fun ε s => match ε[i]? with
  | some (some (.ow (.k kvs))) => match txtsKV kvs with
    | some qs => if (qs.map (·.1)).Nodup ∧ qs.length < 64 then .ok (.lst ((sortKV qs).map fun q => .tup [.str q.1, .str q.2])) s else .no
    | none => .no
  | _ => .no
theorem tx_nodup {l : List (List Nat)} (h : l.Nodup) : (l.map tx).Nodup := by
  refine List.pairwise_map.mpr (List.Pairwise.imp (fun {a b} hab z => hab (tx_inj z)) h)
theorem sort_go {K : PySem.W.Frag} {G H : Hp} {m : Addr → Prop} {s : S} {Q : VK} {qs : List (List Nat × List Nat)} (h3 : St3 G H m) (p : w.P s G H m) (hz1 : (qs.map (·.1)).Nodup)
    (hp : ∀ G' H' m' v, Ext G H m G' H' m' → w.P s G' H' m' → Rep K Γ G' (.lst ((sortKV qs).map fun q => .tup [.str q.1, .str q.2])) v → Q v H')
    (ob : Addr → Obj) (as : List Addr) (zs : List (Addr × Str × Str)) (l : Addr) (hob : ∀ a, (ob a).dict = none) (pz : zs.Perm (as.zip (qs.map fun q => (tx q.1, tx q.2)))) (hl : as.length = (qs.map fun q => (tx q.1, tx q.2)).length) (nd : as.Nodup) (new : ∀ t ∈ as, H t = none) (hl0 : H l = none) (lna : l ∉ as)
    (hsrt : zs.Pairwise (fun e f => e.2.1.cps.toList ≤ f.2.1.cps.toList)) : Q (.ref l) (upd (putZ ob H as (kvT (qs.map fun q => (tx q.1, tx q.2)))) l (.lst (zs.map fun z => V.ref z.1))) := by
  generalize hps : (qs.map fun q => (tx q.1, tx q.2)) = ps at *
  have gnone : ∀ t, H t = none → G t = none := fun t ht => by
    cases z : G t with
    | none => rfl
    | some o => have := h3.sub t o z; rw [ht] at this; cases this
  have x1 := (Ext.refl h3).putZ (ob := ob) as (kvT ps) nd new
  have hl1 : putZ ob H as (kvT ps) l = none := by rw [putZ_off as _ _ lna]; exact hl0
  have x2 := x1.new (o := .lst (zs.map fun z => V.ref z.1)) hl1
  -- the sorted pairs, as data
  have ez : (zs.map fun z => (z.2.1.cps.toList, z.2.2.cps.toList)) = sortKV qs := by
    refine sortKV_eq hz1 ?_ ?_
    · have e := pz.map (fun z : Addr × Str × Str => (z.2.1.cps.toList, z.2.2.cps.toList))
      have e2 : (as.zip ps).map (fun z : Addr × Str × Str => (z.2.1.cps.toList, z.2.2.cps.toList)) = qs := by
        have e3 : ((as.zip ps).map (·.2)).map (fun z : Str × Str => (z.1.cps.toList, z.2.cps.toList)) = qs := by
          rw [List.map_snd_zip (by rw [hl]; exact Nat.le_refl _), ← hps, List.map_map]
          conv => rhs; rw [← List.map_id qs]
          refine List.map_congr_left fun q _ => ?_
          rfl
        rw [List.map_map] at e3
        exact e3
      rw [e2] at e
      exact e
    · rw [List.pairwise_map]
      exact hsrt
  refine hp _ _ _ _ x2 (w.stay p x2.gg (fun a o ha ea => ?_) (fun a o t e => ?_)) ?_
  · have na : a ∉ as := fun z => by rw [new a z] at ea; cases ea
    rw [upd_ne (ne_of_none ea hl0), putZ_off as _ _ na]
    exact ea
  · have e1 := nt_upd (H := putZ ob H as (kvT ps)) (q := l) (o := .lst (zs.map fun z => V.ref z.1)) rfl a o t e
    by_cases na : a ∈ as
    · obtain ⟨j, pk, _, _, e3⟩ := LiI.paired_ix (putZ_at (ob := ob) as (kvT ps) H (by rw [List.length_map]; exact hl) nd) na
      rw [e3] at e1
      cases e1
      exact absurd t (isPl_tb rfl a)
    · rw [putZ_off as _ _ na] at e1
      exact e1
  · simp only [Rep]
    refine ⟨l, _, rfl, upd_same, ?_⟩
    rw [← ez, List.map_map]
    have at2 := putZ_at (ob := ob) as (kvT ps) G (by rw [List.length_map]; exact hl) nd
    have mem : ∀ z ∈ zs, ∃ j : Nat, as[j]? = some z.1 ∧ ps[j]? = some z.2 := fun z hz' => by
      obtain ⟨j, hj⟩ := List.mem_iff_getElem?.mp (pz.mem_iff.mp hz')
      exact ⟨j, List.getElem?_zip_eq_some.mp hj⟩
    have one : ∀ z ∈ zs, Rep K Γ (upd (putZ ob G as (kvT ps)) l (.lst (zs.map fun z => V.ref z.1))) (.tup [.str z.2.1.cps.toList, .str z.2.2.cps.toList]) (.ref z.1) := fun z hz' => by
      obtain ⟨j, j1, j2⟩ := mem z hz'
      obtain ⟨c, c1, c2⟩ := LiI.paired_get at2 j1
      rw [List.getElem?_map, j2] at c1
      cases c1
      simp only [Rep]
      refine ⟨z.1, [V.str z.2.1, V.str z.2.2], rfl, SqP.of (o := ob z.1) ?_ (hob _), RepL.cons (by simp only [Rep]) (RepL.cons (by simp only [Rep]) RepL.nil)⟩
      rw [upd_ne fun q => lna (by rw [← q]; exact List.mem_of_getElem? j1)]
      exact c2
    exact repL_map _ _ zs one
theorem dn_sortItems (i : Nat) {x : Str} {p apos cpos px : Pos} (hc : X.calm = true) (hu : X.A.units + 64 < cLine) (hg : Gl X "sorted") (hm : X.mg "sorted" = none) (hN : X.N[i]? = some x) (hv : Vis X.env.scope x) (hd : (x == ("__debug__" : Str)) = false)
    (hcd : (x == ("__classdict__" : Str)) = false) (hbase : attributeBase (.Name x px) "items" X.env (eval (.Name x px) X.env) = eval (.Name x px) X.env := by rfl) (hline : (apos.endLine == cpos.line) = true := by rfl)
    (hs : starEach [.Call (.Attribute (.Name x px) "items" apos) [] [] cpos] X.env = (false, eval (.Call (.Attribute (.Name x px) "items" apos) [] [] cpos) X.env) :: starEach [] X.env := by rfl) :
    DN Γ w W X (.Call (.Name "sorted" p) [.Call (.Attribute (.Name x px) "items" apos) [] [] cpos] [] pos) (nSortIt i) := by
  refine ⟨_, pe_sortItems hc hu (pe_var hN hv hd hcd) hg hm hbase hline hs, fun ε s σ H0 G H m Q h3 p r hp => ?_⟩
  unfold nSortIt at hp
  split at hp
  · rename_i kvs hε
    split at hp
    · rename_i qs hqs
      split at hp
      · rename_i hz
        obtain ⟨q, _, k1, k2, ⟨es, rfl, k3⟩, _⟩ := r.ownAt hε
        have := k3.txts hqs
        subst this
        refine ⟨_, k1, q, qs.map fun q => (tx q.1, tx q.2), rfl, .inl k2, ?_, by rw [List.length_map]; exact hz.2, fun ob as zs l hob pz hl nd new hl0 lna hsrt => ?_⟩
        · rw [List.map_map]
          have := tx_nodup hz.1
          rw [List.map_map] at this
          exact this
        · exact sort_go h3 p hz.1 (fun G' H' m' v x p' r' => hp G' H' m' v x p' r') ob as zs l hob pz hl nd new hl0 lna hsrt
      · exact hp.elim
    · exact hp.elim
  · exact hp.elim
/-- tuple(e), over the slots -/
def nArg (g : List D → S → R S D) (f : Sn → S → R S D) : Sn → S → R S D := fun ε s => (f ε s).bind fun d s1 => g [d] s1
theorem dn_callT {x : Str} {p : Pos} {T : String} {g : List D → S → R S D} {f : Sn → S → R S D} (hcl : CallL Γ w W X (.type T) g) (hg : Gl X x) (hm : X.mg x = none) (hv : bootBuiltins x = some (.type T)) (h : DN Γ w W X a f) (hn : x ≠ "__name__") (hdb : (x == ("__debug__" : Str)) = false)
    (he : starEach [a] X.env = (false, eval a X.env) :: starEach [] X.env := by rfl) (hpl : (backTo pos (starEach [] X.env)).any (·.1) = false := by rfl) : DN Γ w W X (.Call (.Name x p) [a] [] pos) (nArg g f) := by
  obtain ⟨t, ha, ea⟩ := h
  obtain ⟨r, hc, hl⟩ := hcl
  exact ⟨_, pe_callTy hc hg hm hv (pa_cons ha pa_nil he) hn hdb he hpl, fun ε s σ H0 G H m Q h3 p e hp => ea ε s σ H0 G H m _ h3 p e (hp.next fun d1 s1 G1 H1 m1 v1 x1 p1 r1 hp1 => hl [d1] [v1] s1 σ G1 H1 m1 Q x1.toSt3 p1 (RepL.cons r1 RepL.nil) hp1)⟩
end
section
variable {S : Type} {P : Program} {wd : World} {K : PySem.W.Frag} {mg : Str → Option Value} {base : Heap} {ca : EK → Addr} {wf : Pm → Wo S}
/-- a def that is never called so -/
theorem fn_never {CX : CXT} {x qual : Str} {st : Stmt} {f : Addr} {fd : FuncData} {N ps : List Str} (F : Fun K x qual st f fd) (Sc : FnScope N ps (defScope st)) : FnOk P wd K mg base CX 0 f fd ps (spW K ca wf fun _ _ => .no) :=
  { run := fun A outer s H args us vs Q E _ _ _ _ h => by
      obtain ⟨_, _, _, _, _, _, _, _, z⟩ := h
      exact (show False from z).elim
    len := fun vs H Q E h => by
      obtain ⟨_, _, _, _, _, _, _, _, z⟩ := h
      exact (show False from z).elim }
end
end Dm
namespace L2
open PySem PySem.Spec PyProof.Rows
theorem takes_len {X : Cx} {W : WX} (t : Takes X W) : Takes X (fun c d σ H => σ.length = X.N.length → W c d σ H) := fun u s' ⟨a, B, sI, pins, σ, H, cls, d, e, I, nb, up, sky, na, os, ag, w⟩ =>
  t u s' ⟨a, B, sI, pins, σ, H, cls, d, e, I, nb, up, sky, na, os, ag, w I.len⟩
/-- xs.count(y), flat values -/
def rCntF (K : PySem.W.Frag) : V → List V → Hp → VK → Prop := fun x xs H Q => ∃ (p : Addr) (ys : List V) (y : V), x = .ref p ∧ xs = [y] ∧ SqL K H p ys ∧ flatV y = true ∧ ys.all flatV = true ∧ Q (.int (ys.countP fun z => eqV z y : Nat)) H
theorem countU {y : V} : ∀ {ys : List V} {us : List Value}, Vals ys us → ys.all flatV = true → us.countP (eqU y) = ys.countP fun z => eqV z y
  | _, _, .nil, _ => rfl
  | x :: xs, u :: us, .cons r t, f => by
    rw [List.all_cons, Bool.and_eq_true] at f
    rw [List.countP_cons, List.countP_cons, countU t f.2, eqU_of r f.1]
section
variable {X : Cx}
theorem mt_countF : MtR X "list.count" (rCntF X.K) := by
  intro pins s σ H x xs v us Q I rx rxs h
  obtain ⟨p, ys, y, rfl, rfl, hs, fy, fys, q⟩ := h
  cases rx
  obtain ⟨u, rfl, ru⟩ := rxs.one
  obtain ⟨its, rv, ⟨⟨cls, dd, data, sl⟩, n, ho, hc, hdn, hd⟩, hlen⟩ := I.list hs
  simp only at hc hd
  subst hc hd
  refine call_meets PySem.F.slot_list_count ⟨_, ho, rfl⟩ PySem.F.entry_list_count (PySem.F.args_list_count_2 _ _)
    (SeqAt.list_countAt p its.toArray n dd sl u (eqU y)) ⟨ho, fun u' hu' => mem_eqAt ru fy rv fys u' (by simpa using hu'), ?_⟩
  refine ⟨.int (ys.countP fun z => eqV z y : Nat), H, I.tok _, ⟨s.toks, ?_⟩, q⟩
  show Value.int ((its.toArray.toList.countP (eqU y) : Nat) : Int) s.toks = Value.int ((ys.countP fun z => eqV z y : Nat) : Int) s.toks
  rw [show its.toArray.toList.countP (eqU y) = ys.countP (fun z => eqV z y) from countU rv fys]
end
/-- what an error's class says, for isinstance and its fields -/
structure EcC (K : PySem.W.Frag) (C : Addr) : Prop where
  cl : (PySem.W.clsIn K C).isSome = true
  ga : PySem.W.findIn K (.ref C) "__getattribute__" = some (some (.builtin "BaseException.__getattribute__"))
  gg : PySem.W.findIn K (.ref C) "__getattr__" = some none
  ex : PySem.W.subIn K (.ref C) (.type "BaseException") = some true
  ca : PySem.W.findIn K (.ref C) "__class__" = some (some (.builtin "object.__class__"))
  mo : PySem.W.mroIn K C (.type "object") = some true
  hd : PySem.W.hasDictIn K C = true
structure EcG (K : PySem.W.Frag) : Prop where
  hn : PySem.W.specialIn K (.builtin "object.__class__") "__get__" = some (some (.builtin "getset_descriptor.__get__"))
  ht : PySem.W.takesIn K (.builtin "object.__class__") = some true
def rIsX (K : PySem.W.Frag) (a : Addr) (cls : Value) (d : Option Addr) : List V → Hp → VK → Prop := fun xs H Q => ∃ (C : Addr) (c : V) (cv : Value) (b : Bool), xs = [.ref a, c] ∧ (∀ u, RelV c u → u = cv) ∧ cls = .ref C ∧ EcC K C ∧ EcG K ∧ (∀ dd, d = some dd → ∃ fs, H dd = some (.xd fs)) ∧
  PySem.W.kitOne K (.ref C) cv = some b ∧ Q (.bl b) H
theorem call_isX {X : Cx} {a : Addr} {oe : Obj} {cls : Value} {d : Option Addr} {pn : List (Addr × Obj)} (hz : Zc cls d oe) (hf : ∃ vs, oe.data = .fields vs) : CallR (X.suite a ((a, oe) :: pn)) (.builtin "isinstance") (rIsX X.K a cls d) := by
  intro pins s σ H xs us Q I r h
  obtain ⟨C, c, cv, b, rfl, hcv, rfl, F, F2, hd, e, q⟩ := h
  cases r with
  | cons rx rr =>
    cases rr with
    | cons rt rr =>
      cases rr
      cases rx
      have ec := hcv _ rt
      subst ec
      obtain ⟨hget, _⟩ := I.pin (a, oe) (List.mem_append.mpr (.inl List.mem_cons_self))
      obtain ⟨vs, hv⟩ := hf
      have hnc : PySem.W.notCls oe := by unfold PySem.W.notCls; rw [hv] <;> rfl
      obtain ⟨od, J⟩ : ∃ od, PySem.W.InstAt s.heap a oe C od := by
        cases hdd : d with
        | none =>
          refine ⟨none, hget, hz.1, hnc, ?_⟩
          rw [hz.2, hdd]
          trivial
        | some dd =>
          obtain ⟨fs, ea⟩ := hd dd hdd
          obtain ⟨mA, hns, _⟩ : ObjOk X.prog X.w H s.heap dd (.xd fs) := I.hok dd _ ea
          obtain ⟨od, ho, _⟩ := lookIn_ns hns
          refine ⟨some od, hget, hz.1, hnc, ?_⟩
          rw [hz.2, hdd]
          exact ho
      exact PySem.W.kia_one (PySem.W.kitx_exc F.cl F.ga F.gg F.ex F.ca F2.hn F2.ht F.mo) I.kIn J e (fun z => nomatch z) fun tk => ⟨.bl b, H, I.kept (t' := tk) fun _ _ z => z, rfl, q⟩
end L2
namespace Dm
open PySem L2 PySem.Spec PyProof.Rows
/-- the error that a suite holds: its class, its dict -/
def wE (cls : Value) (d : Option Addr) (Γ : Pm) : Wo Err where
  P e G H m := cls = .ref (Γ.ca e.k) ∧ (∀ x, m x ↔ d = some x) ∧ match e.fs with
    | [] => d = none
    | f :: fs => ∃ dd, d = some dd ∧ H dd = some (.xd (fieldsV (f :: fs)))
  stay {e G H m G' H'} h sb k _ := ⟨h.1, h.2.1, by
    have h3 := h.2.2
    cases hfs : e.fs with
    | nil => rw [hfs] at h3; exact h3
    | cons f fs =>
      rw [hfs] at h3
      obtain ⟨dd, e1, e2⟩ := h3
      exact ⟨dd, e1, k dd _ ((h.2.1 dd).mpr e1) e2⟩⟩
/-- which fields errors have -/
def okF : EK → Str → Bool
  | .book, f => f == "part" || f == "number"
  | .unsaid, f => f == "place"
  | .samples, f => f == "number"
  | .deed, f => f == "number"
  | .halted, f => f == "number" || f == "done"
  | .text, f => f == "row"
  | _, _ => false
structure ErrF (K : PySem.W.Frag) (ca : EK → Addr) (CS : Addr) : Prop where
  c : ∀ k, k ≠ .say → EcC K (ca k)
  g : EcG K
  i : ∀ k k', k ≠ .say → k' ≠ .say → PySem.W.kitOne K (.ref (ca k)) (.ref (ca k')) = some (decide (k = k'))
  v : ∀ k, k ≠ .say → PySem.W.kitOne K (.ref (ca k)) (.type "ValueError") = some true
  x : ∀ k, k ≠ .say → PySem.W.exmOne K (.ref (ca k)) (.ref CS) = some true
  f : ∀ k f, okF k f = true → PySem.W.findIn K (.ref (ca k)) f = some none
section
variable {Γ : Pm} {W : WX} {X : Cx} {pos p2 : Pos} {a b c : Expr} {es : List Expr} {fa fb : En → Err → R Err D} {xa : Addr} {oe : Obj} {cls : Value} {d : Option Addr} {pn : List (Addr × Obj)} {CS : Addr}
theorem xd_of {e : Err} {G H : Hp} {m : Addr → Prop} (p : (wE cls d Γ).P e G H m) : ∀ dd, d = some dd → ∃ fs, H dd = some (.xd fs) := fun dd h => by
  have h3 := p.2.2
  cases hfs : e.fs with
  | nil => rw [hfs] at h3; rw [h3] at h; cases h
  | cons f fs =>
    rw [hfs] at h3
    obtain ⟨d2, e1, e2⟩ := h3
    rw [h] at e1
    cases e1
    exact ⟨_, e2⟩
def gIsK (k' : EK) : D → Err → R Err D
  | .nm 2, e => if e.k ≠ .say then .ok (.bl (decide (e.k = k'))) e else .no
  | _, _ => .no
theorem de_isK (k' : EK) {p q : Pos} {y : Str} (F : ErrF X.K Γ.ca CS) (hk' : k' ≠ .say) (hz : Zc cls d oe) (hf : ∃ vs, oe.data = .fields vs) (hr : Γ.rho 2 = xa) (hg : Gl (X.suite xa ((xa, oe) :: pn)) "isinstance") (hm : X.mg "isinstance" = none) (hg2 : Gl (X.suite xa ((xa, oe) :: pn)) y) (hm2 : X.mg y = some (.ref (Γ.ca k')))
    (hdb : (y == ("__debug__" : Str)) = false) (ha : DE Γ (wE cls d Γ) W (X.suite xa ((xa, oe) :: pn)) a fa)
    (he : starEach [a, .Name y q] (X.suite xa ((xa, oe) :: pn)).env = (false, eval a (X.suite xa ((xa, oe) :: pn)).env) :: starEach [.Name y q] (X.suite xa ((xa, oe) :: pn)).env := by rfl) (hpl : (backTo pos (starEach [.Name y q] (X.suite xa ((xa, oe) :: pn)).env)).any (·.1) = false := by rfl) :
    DE Γ (wE cls d Γ) W (X.suite xa ((xa, oe) :: pn)) (.Call (.Name "isinstance" p) [a, .Name y q] [] pos) (f1 (gIsK k') fa) := by
  obtain ⟨t, ha, ea⟩ := ha
  refine ⟨_, pe_callB (call_isX hz hf) hg hm PyProof.Rows.boot_isinstance (pa_cons ha (pa_cons (pe_glob (v := .ref (Γ.ca k')) hg2 hm2 rfl hdb) pa_nil) he) (by decide) (by decide) he hpl, fun η s σ G H m Q h3 p e hp => ea η s σ G H m _ h3 p e (hp.next fun d1 s1 G1 H1 m1 v1 x1 p1 r1 hp1 => ?_)⟩
  unfold gIsK at hp1
  split at hp1
  · split at hp1
    · rename_i hk
      simp only [Rep] at r1
      refine ⟨Γ.ca s1.k, .ref (Γ.ca k'), .ref (Γ.ca k'), _, by rw [r1, hr], fun u r => r, p1.1, F.c _ hk, F.g, xd_of p1, F.i _ _ hk hk', hp1.val x1.toSt3 p1 (by simp only [Rep])⟩
    · exact hp1.elim
  · exact hp1.elim
def gIsV : D → Err → R Err D
  | .nm 2, e => if e.k ≠ .say then .ok (.bl true) e else .no
  | _, _ => .no
theorem de_isV {p q : Pos} (F : ErrF X.K Γ.ca CS) (hz : Zc cls d oe) (hf : ∃ vs, oe.data = .fields vs) (hr : Γ.rho 2 = xa) (hg : Gl (X.suite xa ((xa, oe) :: pn)) "isinstance") (hm : X.mg "isinstance" = none) (hg2 : Gl (X.suite xa ((xa, oe) :: pn)) "ValueError") (hm2 : X.mg "ValueError" = none)
    (ha : DE Γ (wE cls d Γ) W (X.suite xa ((xa, oe) :: pn)) a fa)
    (he : starEach [a, .Name "ValueError" q] (X.suite xa ((xa, oe) :: pn)).env = (false, eval a (X.suite xa ((xa, oe) :: pn)).env) :: starEach [.Name "ValueError" q] (X.suite xa ((xa, oe) :: pn)).env := by rfl) (hpl : (backTo pos (starEach [.Name "ValueError" q] (X.suite xa ((xa, oe) :: pn)).env)).any (·.1) = false := by rfl) :
    DE Γ (wE cls d Γ) W (X.suite xa ((xa, oe) :: pn)) (.Call (.Name "isinstance" p) [a, .Name "ValueError" q] [] pos) (f1 gIsV fa) := by
  obtain ⟨t, ha, ea⟩ := ha
  refine ⟨_, pe_callB (call_isX hz hf) hg hm PyProof.Rows.boot_isinstance (pa_cons ha (pa_cons (pe_bltn (v := .ty "ValueError") hg2 hm2 (by decide +kernel) rfl (by decide) (by decide)) pa_nil) he) (by decide) (by decide) he hpl, fun η s σ G H m Q h3 p e hp => ea η s σ G H m _ h3 p e (hp.next fun d1 s1 G1 H1 m1 v1 x1 p1 r1 hp1 => ?_)⟩
  unfold gIsV at hp1
  split at hp1
  · split at hp1
    · rename_i hk
      simp only [Rep] at r1
      refine ⟨Γ.ca s1.k, .ty "ValueError", .type "ValueError", _, by rw [r1, hr], fun u r => r, p1.1, F.c _ hk, F.g, xd_of p1, F.v _ hk, hp1.val x1.toSt3 p1 (by simp only [Rep])⟩
    · exact hp1.elim
  · exact hp1.elim
def gFld (f : Str) : D → Err → R Err D
  | .nm 2, e => match e.fs.lookup f with
    | some n => .ok (.int n) e
    | none => .no
  | _, _ => .no
def fFld (f : Str) (fa : En → Err → R Err D) : En → Err → R Err D := fun η s => if okF s.k f = true then f1 (gFld f) fa η s else .no
theorem okF_say {k : EK} {f : Str} (h : okF k f = true) : k ≠ .say := by
  rintro rfl
  cases h
theorem lookup_fieldsV (f : Str) : ∀ fs : List (Str × Int), (fieldsV fs).lookup f = (fs.lookup f).map V.int
  | [] => rfl
  | (g, n) :: fs => by
    show List.lookup f ((g, V.int n) :: fieldsV fs) = (List.lookup f ((g, n) :: fs)).map V.int
    rw [List.lookup_cons, List.lookup_cons]
    cases f == g with
    | true => rfl
    | false => exact lookup_fieldsV f fs
theorem de_fld (f : Str) (F : ErrF X.K Γ.ca CS) (hz : Zc cls d oe) (hf : ∃ vs, oe.data = .fields vs) (hr : Γ.rho 2 = xa) (ha : DE Γ (wE cls d Γ) W (X.suite xa ((xa, oe) :: pn)) a fa) (hb : attributeBase a f X.env (eval a X.env) = eval a X.env := by rfl) :
    DE Γ (wE cls d Γ) W (X.suite xa ((xa, oe) :: pn)) (.Attribute a f pos) (fFld f fa) := by
  obtain ⟨t, ha, ea⟩ := ha
  -- the class's address, told of the class itself
  refine ⟨fun σ H Q => ∃ C, XfC X.K C ∧ PySem.W.findIn X.K (.ref C) f = some none ∧ tXf xa cls d C f t σ H Q, ⟨fun pins s σ H Q I h => ?_⟩, fun η s σ G H m Q h3 p e hp => ?_⟩
  · obtain ⟨C, hC, hno, h⟩ := h
    exact (pe_xf hC hno hz hf ha hb).run pins s σ H Q I h
  · unfold fFld at hp
    split at hp
    · rename_i hk
      unfold f1 at hp
      have hns := okF_say hk
      have ec := F.c _ hns
      refine ⟨Γ.ca s.k, ⟨ec.ga, ec.gg, ec.ex, ec.hd⟩, F.f _ _ hk, ea η s σ G H m _ h3 p e (hp.next fun d1 s1 G1 H1 m1 v1 x1 p1 r1 hp1 => ?_)⟩
      unfold gFld at hp1
      split at hp1
      · split at hp1
        · rename_i n hn
          simp only [Rep] at r1
          have h4 := p1.2.2
          cases hfs : s1.fs with
          | nil => rw [hfs] at hn; cases hn
          | cons g gs =>
            rw [hfs] at h4
            obtain ⟨dd, e1, e2⟩ := h4
            refine ⟨by rw [r1, hr], p.1, dd, _, .int n, e1, e2, ?_, hp1.val x1.toSt3 p1 (by simp only [Rep])⟩
            rw [lookup_fieldsV, ← hfs, hn]
            rfl
        · exact hp1.elim
      · exact hp1.elim
    · exact hp.elim
/-! xs.count(y), xs.index(y) -/
def firstAt (x : D) : List D → Nat → Option Nat
  | [], _ => none
  | y :: ys, i => if eqD y x = true then some i else firstAt x ys (i + 1)
def gCnt {S : Type} : List D → D → S → R S D := fun xs x s => if flD x = true ∧ xs.all flD = true then .ok (.int (xs.countP fun y => eqD y x : Nat)) s else .no
def gInx {S : Type} : List D → D → S → R S D := fun xs x s => if flD x = true ∧ xs.all flD = true then match firstAt x xs 0 with
    | some i => .ok (.int i) s
    | none => .no
    else .no
def fMeth {S : Type} (g : List D → D → S → R S D) (fa fb : En → S → R S D) : En → S → R S D := fun η s => (fa η s).bind fun x s1 => match x with
  | .lst xs => (fb η s1).bind fun y s2 => g xs y s2
  | _ => .no
end
theorem count_rep {K : PySem.W.Frag} {Γ : Pm} {G : Hp} {x : D} {u : V} (k : Rep K Γ G x u) (g : flD x = true) : ∀ {ds : List D} {vs : List V}, RepL K Γ G ds vs → ds.all flD = true → (vs.countP fun z => eqV z u) = ds.countP fun y => eqD y x
  | [], vs, h, _ => by simp only [RepL] at h; subst h; rfl
  | d :: ds, vs, h, f => by
    simp only [RepL] at h
    obtain ⟨v, vs', rfl, h1, h2⟩ := h
    rw [List.all_cons, Bool.and_eq_true] at f
    rw [List.countP_cons, List.countP_cons, count_rep k g h2 f.2, eqV_of h1 k f.1 g]
theorem first_rep {K : PySem.W.Frag} {Γ : Pm} {G : Hp} {x : D} {u : V} (k : Rep K Γ G x u) (g : flD x = true) : ∀ {ds : List D} {vs : List V} {i n : Nat}, RepL K Γ G ds vs → ds.all flD = true → firstAt x ds i = some n → ∃ j z, n = i + j ∧ vs[j]? = some z ∧ eqV z u = true ∧ ∀ (m : Nat) (z' : V), m < j → vs[m]? = some z' → eqV z' u = false
  | [], vs, i, n, h, _, e => by simp only [firstAt] at e; cases e
  | d :: ds, vs, i, n, h, f, e => by
    simp only [RepL] at h
    obtain ⟨v, vs', rfl, h1, h2⟩ := h
    rw [List.all_cons, Bool.and_eq_true] at f
    have ev := eqV_of h1 k f.1 g
    simp only [firstAt] at e
    split at e
    · rename_i hd
      cases e
      exact ⟨0, v, rfl, rfl, by rw [ev]; exact hd, fun m z' hm => absurd hm (Nat.not_lt_zero m)⟩
    · rename_i hd
      obtain ⟨j, z, e1, e2, e3, e4⟩ := first_rep k g h2 f.2 e
      refine ⟨j + 1, z, by omega, by simpa using e2, e3, fun m z' hm hz => ?_⟩
      cases m with
      | zero =>
        have : v = z' := by simpa using hz
        rw [← this, ev]
        exact Bool.eq_false_iff.mpr hd
      | succ m => exact e4 m z' (by omega) (by simpa using hz)
section
variable {S : Type} {Γ : Pm} {w : Wo S} {W : WX} {X : Cx} {a b : Expr} {fa fb : En → S → R S D}
theorem de_count {apos cpos : Pos} (ha : DE Γ w W X a fa) (hb : DE Γ w W X b fb) (hbase : attributeBase a "count" X.env (eval a X.env) = eval a X.env := by rfl)
    (hfew : ((backTo cpos (starEach [b] X.env)).all (fun x => !x.1) && (backToKw cpos (keywordEach [] X.env)).all (fun x => x.1.isSome)
      && decide (([b]).length + ([] : List Keyword).length + (if ([] : List Keyword).isEmpty then 0 else 1) < 30)) = true := by rfl) (hline : (apos.endLine == cpos.line) = true := by rfl)
    (h1 : starEach [b] X.env = (false, eval b X.env) :: starEach [] X.env := by rfl) : DE Γ w W X (.Call (.Attribute a "count" apos) [b] [] cpos) (fMeth gCnt fa fb) := by
  obtain ⟨t, ha, ea⟩ := ha
  obtain ⟨u, hb, eb⟩ := hb
  refine ⟨_, pe_bm PySem.F.plainAttrs_list PySem.F.slot_list_count PySem.F.type_list_count mt_countF ha (pa_cons hb pa_nil h1) hbase hfew hline h1 (by rfl), fun η s σ G H m Q h3 p e hp => ?_⟩
  refine ea η s σ G H m _ h3 p e (hp.next fun d1 s1 G1 H1 m1 v1 x1 p1 r1 hp1 => ?_)
  split at hp1
  · simp only [Rep] at r1
    obtain ⟨q, vs, rfl, t1, l1⟩ := r1
    refine ⟨.inl ⟨rfl, vs, SqL.of (x1.sub _ _ t1)⟩, eb η s1 σ G1 H1 m1 _ x1.toSt3 p1 (e.mono x1.gg) (hp1.next fun d2 s2 G2 H2 m2 v2 x2 p2 r2 hp2 => ?_)⟩
    unfold gCnt at hp2
    split at hp2
    · rename_i hz
      have l2 := l1.mono x2.gg
      refine ⟨q, vs, v2, rfl, rfl, SqL.of (x2.sub _ _ (x2.gg _ _ t1)), flat_of r2 hz.1, all_flat l2 hz.2, ?_⟩
      rw [count_rep r2 hz.1 l2 hz.2]
      exact hp2.val x2.toSt3 p2 (by simp only [Rep])
    · exact hp2.elim
  · exact hp1.elim
theorem de_index {apos cpos : Pos} (ha : DE Γ w W X a fa) (hb : DE Γ w W X b fb) (hbase : attributeBase a "index" X.env (eval a X.env) = eval a X.env := by rfl)
    (hfew : ((backTo cpos (starEach [b] X.env)).all (fun x => !x.1) && (backToKw cpos (keywordEach [] X.env)).all (fun x => x.1.isSome)
      && decide (([b]).length + ([] : List Keyword).length + (if ([] : List Keyword).isEmpty then 0 else 1) < 30)) = true := by rfl) (hline : (apos.endLine == cpos.line) = true := by rfl)
    (h1 : starEach [b] X.env = (false, eval b X.env) :: starEach [] X.env := by rfl) : DE Γ w W X (.Call (.Attribute a "index" apos) [b] [] cpos) (fMeth gInx fa fb) := by
  obtain ⟨t, ha, ea⟩ := ha
  obtain ⟨u, hb, eb⟩ := hb
  refine ⟨_, pe_bm PySem.F.plainAttrs_list PySem.F.slot_list_index PySem.F.type_list_index mt_index ha (pa_cons hb pa_nil h1) hbase hfew hline h1 (by rfl), fun η s σ G H m Q h3 p e hp => ?_⟩
  refine ea η s σ G H m _ h3 p e (hp.next fun d1 s1 G1 H1 m1 v1 x1 p1 r1 hp1 => ?_)
  split at hp1
  · simp only [Rep] at r1
    obtain ⟨q, vs, rfl, t1, l1⟩ := r1
    refine ⟨.inl ⟨rfl, vs, SqL.of (x1.sub _ _ t1)⟩, eb η s1 σ G1 H1 m1 _ x1.toSt3 p1 (e.mono x1.gg) (hp1.next fun d2 s2 G2 H2 m2 v2 x2 p2 r2 hp2 => ?_)⟩
    unfold gInx at hp2
    split at hp2
    · rename_i hz
      split at hp2
      · rename_i n hn
        have l2 := l1.mono x2.gg
        obtain ⟨j, z, e1, e2, e3, e4⟩ := first_rep r2 hz.1 l2 hz.2 hn
        have ej : n = j := by omega
        subst ej
        exact ⟨q, vs, v2, n, z, rfl, rfl, SqL.of (x2.sub _ _ (x2.gg _ _ t1)), flat_of r2 hz.1, all_flat l2 hz.2, e2, e3, e4, hp2.val x2.toSt3 p2 (by simp only [Rep])⟩
      · exact hp2.elim
    · exact hp2.elim
  · exact hp1.elim
end
def suiteOf (st : Stmt) : List Stmt := match defBody st with
  | [_, .Try _ [.ExceptHandler _ _ b _] _ _ _, _] => b
  | _ => []
end Dm
/-! A lambda made and handed on, the heap behind its making told exactly. -/
namespace LamD
open PySem PySem.Spec PyProof.Rows L2 LamX
/-- behind the making of a lambda: nothing tracked is new, or the table P tells a new code object -/
def MadeP (P : Addr) (q : Str) (H H1 : Hp) : Prop := H1 = H ∨ ∃ (ps more : Array Value) (c : Addr), H P = some (.tbl ps) ∧ H c = none ∧ H1 = upd (upd H P (.tbl (ps ++ more))) c (CodeO c q)
section
variable {X : Cx} {pins : List (Addr × Obj)} {σ : L2.St} {H : Hp} {s : Shared}
/-- a function object's address: untracked, no frame's -/
theorem high_ok (I : Inv X pins σ H s) {a : Addr} (h : s.heap.objs.size ≤ a) : a ∉ frs X.stack := fun z => by
  rcases List.mem_cons.mp (I.stkSub _ z) with e | e
  · have lt := I.lt
    rw [← e] at lt
    exact Nat.lt_irrefl _ (Nat.lt_of_lt_of_le lt h)
  · exact I.nofs h e
theorem lam_at {T : List (Addr × Str)} {c P : Addr} {params : Arguments} {body : Expr} {scope : Scope} {pos : Pos} {E : Value → Shared → Prop} {Q : Value → Shared → Prop} (I : Inv X pins σ H s) (TB : TabB X.base X.mg c P) (hcode : X.env.code = .ref c)
    (hm : (P, X.env.qual ++ "<lambda>") ∈ T) (hu : ∀ p ∈ T, p.1 = P → p.2 = X.env.qual ++ "<lambda>") (hT : Tabs T H) (hdef : defaultsOf params X.env = ([], [])) (hfree : ∀ y ∈ scope.names, y.2 = .free → ∃ c, X.env.cells.lookup y.1 = some c)
    (h : ∀ (f c' : Addr) (pm ctv : Value) (H1 : Hp) (s' : Shared), Inv X pins σ H1 s' → MadeP P (X.env.qual ++ "<lambda>") H H1 → Tabs T H1 →
      s'.heap.get? f = some (PySem.W.kla_obj "<lambda>" (X.env.qual ++ "<lambda>") params body scope (cloFrom X.env.cells scope.names []) pm c' ctv) → H1 f = none → f ∉ frs X.stack → H1 c' = some (CodeO c' (X.env.qual ++ "<lambda>")) → Q (.ref f) s') :
    wpAny (model X.prog X.w) X.A (eval (.Lambda params body scope pos) X.env) Q E s := by
  obtain ⟨ps, hP, ht, ha⟩ := hT _ hm
  have tabAt : s.heap.get? P = some { cls := .none, data := .fields ps } := I.hok P _ hP
  have bP : s.heap.BuiltinsAt X.mg P := TB.bm.keeps I.bk
  refine PySem.W.kla_eval hdef ?_
  cases found : codeAmong pos ps.toList with
  | some cv =>
    obtain ⟨c', rfl, hco⟩ := ha pos cv found
    refine PySem.W.kla_makeFunctionHit (mg := X.mg) (c := c) (P := P) (ps := ps) (closure_ok hfree) I.ok.glob (I.mod.glob.keeps I.bk) hcode (TB.code.keeps I.bk) tabAt ht found bP fun ctv h' tk keep grown => ?_
    exact h _ c' _ ctv H _ (I.kept fun b o e => Heap.get?_push_of_some _ (keep b o e)) (.inl rfl) hT (Heap.get?_push_size _ rfl) (I.hok.fresh grown) (high_ok I grown) hco
  | none =>
    refine PySem.W.kla_makeFunction (mg := X.mg) (c := c) (P := P) (ps := ps) (closure_ok hfree) I.ok.glob (I.mod.glob.keeps I.bk) hcode (TB.code.keeps I.bk) tabAt ht found TB.gP bP fun c' ctv h' tk keep low lt rec tab => ?_
    obtain ⟨c2, oc, vs, t, e2, hoc, hd, hv⟩ := rec
    cases e2
    have new : H c' = none := I.hok.fresh low
    have grown : s.heap.objs.size ≤ h'.objs.size := by omega
    have J := inv_table (t' := tk) (q := X.env.qual ++ "<lambda>") (more := #[rawInt pos.line, rawInt pos.col, .ref c']) (h' := h'.push (PySem.W.kla_obj "<lambda>" (X.env.qual ++ "<lambda>") params body scope (cloFrom X.env.cells scope.names []) ((X.mg "__name__").getD .none) c' ctv)) I hP
      (fun b o hb e => Heap.get?_push_of_some _ (keep b o hb e)) (Heap.get?_push_of_some _ tab) low ⟨oc, vs, t, Heap.get?_push_of_some _ hoc, hd, hv⟩
    have nPc : P ≠ c' := ne_of_none hP new
    have othr : ∀ b, b ≠ P → b ≠ c' → upd (upd H P (.tbl (ps ++ #[rawInt pos.line, rawInt pos.col, .ref c']))) c' (CodeO c' (X.env.qual ++ "<lambda>")) b = H b := fun b h1 h2 => by rw [upd_ne h2, upd_ne h1]
    have codes : ∀ c0, H c0 = some (CodeO c0 (X.env.qual ++ "<lambda>")) → upd (upd H P (.tbl (ps ++ #[rawInt pos.line, rawInt pos.col, .ref c']))) c' (CodeO c' (X.env.qual ++ "<lambda>")) c0 = some (CodeO c0 (X.env.qual ++ "<lambda>")) := fun c0 e => by
      by_cases e1 : c0 = c'
      · rw [e1, upd_same]
      · rw [othr c0 (fun z => by rw [z, hP] at e; exact codeO_ne ps (Option.some.inj e).symm) e1]
        exact e
    refine h h'.objs.size c' _ ctv _ _ J (.inr ⟨ps, _, c', hP, new, rfl⟩) (fun p hp => ?_) (Heap.get?_push_size _ rfl) ?_ (high_ok I grown) upd_same
    · by_cases hb : p.1 = P
      · rw [hu p hp hb, hb]
        have el : (ps ++ #[rawInt pos.line, rawInt pos.col, .ref c']).toList = ps.toList ++ [rawInt pos.line, rawInt pos.col, .ref c'] := by simp
        refine ⟨_, by rw [upd_ne nPc, upd_same], by rw [el]; exact PySem.TriplesOk_snoc _ _ _ _ ht, fun p' cv hcv => ?_⟩
        rw [el] at hcv
        rcases among_app _ ht hcv with z | z
        · obtain ⟨c0, e1, e2⟩ := ha p' cv z
          exact ⟨c0, e1, codes c0 e2⟩
        · exact ⟨c', z, upd_same⟩
      · obtain ⟨qs, a1, a2, a3⟩ := hT p hp
        refine ⟨qs, by rw [othr _ hb (fun z => by rw [z, new] at a1; cases a1)]; exact a1, a2, fun p' cv hcv => ?_⟩
        obtain ⟨c0, e1, e2⟩ := a3 p' cv hcv
        refine ⟨c0, e1, ?_⟩
        rw [othr c0 (fun z => by rw [z, hP] at e2; exact codeO_ne ps (Option.some.inj e2).symm) (fun z => by rw [z, new] at e2; cases e2)]
        exact e2
    · have n1 : h'.objs.size ≠ c' := Nat.ne_of_gt lt
      have n2 : h'.objs.size ≠ P := fun z => by
        have q := Heap.lt_size tabAt
        rw [← z] at q
        exact Nat.lt_irrefl _ (Nat.lt_of_lt_of_le q grown)
      rw [othr _ n2 n1]
      exact I.hok.fresh grown
end
def tLamP (P : Addr) (q : Str) (T : List (Addr × Str)) (TT : (XK → Hp → VK → Prop) → Hp → VK → Prop) (t : XK → TE) : TE := fun σ H Q => Tabs T H ∧ ∀ H1, MadeP P q H H1 → Tabs T H1 → TT (fun E H' Q' => t E σ H' Q') H1 Q
section
variable {X : Cx}
theorem pe_lamP {T : List (Addr × Str)} {TT : (XK → Hp → VK → Prop) → Hp → VK → Prop} {x a : Str} {g c P : Addr} {k : Nat} {pg : Arguments} {bg : List Stmt} {sg : Scope} {dV kV doc pm cdv ct oc : Value} {an od : Option Addr} {osl : Array (Option Value)} {Ng : List Str}
    {params : Arguments} {body : Expr} {scope : Scope} {t : XK → TE} {p lpos pos : Pos} (hg : Gl X x) (hm : X.mg x = some (.ref g)) (hk : PySem.W.keepIn X.K (.ref g) = true)
    (lk : X.K.lookup g = some ⟨oc, od, .func (PySem.W.fnOf x x pg bg sg dV kV doc pm an cdv ct), osl⟩) (hcg : PySem.W.codeIn X.K cdv x = true) (hb : L2.Binds X.K (PySem.W.fnOf x x pg bg sg dV kV doc pm an cdv ct) [a] []) (Sg : FnScope Ng [a] sg) (hNg : Ng[0]? = some a) (hva : Vis sg a)
    (hG : Room (k + 1) X.A → GivesTo X Ng x sg g cdv bg a (X.env.qual ++ "<lambda>") TT)
    (TB : TabB X.base X.mg c P) (hcode : X.env.code = .ref c) (hmT : (P, X.env.qual ++ "<lambda>") ∈ T) (hu : ∀ p ∈ T, p.1 = P → p.2 = X.env.qual ++ "<lambda>") (hr : Room (k + 2) X.A) (L : LamS X.env.scope scope) (hdef : defaultsOf params X.env = ([], []))
    (hbind : ∀ (q : Str) (cl : List (Str × Addr)) (pm cv ctv : Value), bindArgs (PySem.W.kla_fn "<lambda>" q params body scope cl pm cv ctv) ⟨[], []⟩ = pure [])
    (hbody : ∀ (A : Around) (outer : List Env) (s : Shared) (H : Hp) (E : XK) (f c' : Addr), Room k (A.deeper (lamEnv X scope s.heap.objs.size f c')) → PE (lamCx X A outer s H E scope f c') body (t E))
    (hdb : (x == ("__debug__" : Str)) = false) (hd : (a == ("__debug__" : Str)) = false) (hcd : (a == ("__classdict__" : Str)) = false) :
    PE X (.Call (.Name x p) [.Lambda params body scope lpos] [] pos) (tLamP P (X.env.qual ++ "<lambda>") T TT t) := by
  refine ⟨fun pins s σ H Q I ⟨hT, h⟩ => ?_⟩
  refine wpAny_Call_Name_kw (ld_glob I hg hm ?_ hdb)
  refine PySem.W.callWith_K (h₀ := X.base) I.ok.mod.kin hk ?_ (by rfl) (by rfl)
  show wpAny _ _ (spliced ((false, eval (.Lambda params body scope lpos) X.env) :: backTo pos (starEach [] X.env))) _ _ s
  refine Calls.spliced_cons (lam_at I TB hcode hmT hu hT hdef (L.has I.ok) fun f c' pm' ctv H1 s' I1 eN T1 hf hfn hfr hco => ?_)
  refine Calls.spliced_nil ⟨I1.kIn, ?_⟩
  have rc : codeAny (model X.prog X.w) X.A (.call (.ref g) ⟨[.ref f], []⟩) (CR C8.CX0 X.stack X.prog X.w H1 s' Q C8.E0) s' := by
    refine run_ofS (N := Ng) (ps := [a]) (us := [.ref f]) (vs := [.ref f]) lk hcg Sg hr I1.env0 (hb s' [.ref f] I1.kIn rfl) (.cons rfl .nil) rfl fun hr' => ?_
    obtain ⟨t', ht', hq'⟩ := hG (hr.mono (by omega)) f c' s' H1 Q (fun E H' Q' => t E σ H' Q') (fun W pn xe E p1 p2 tk hW => pe_act (i := 0) I1 L hf hfn hfr (hbind _ _ _ _ _) tk hW hr' (fun A outer s H hr2 => hbody A outer s H E f c' hr2) hNg hva hd hcd) hco (h H1 eN T1)
    exact ⟨t', ht'.nox, hq'⟩
  refine wpAny_call (codeAny_mono rc fun r s2 hq => ?_)
  cases r with
  | ok fl =>
    cases fl with
    | ret u => exact I1.after hq
    | next => exact (show False from hq).elim
    | brk => exact (show False from hq).elim
    | cont => exact (show False from hq).elim
  | error e => exact (show False from hq).elim
end
end LamD
namespace Dm
open PySem L2 PySem.Spec PyProof.Rows LamX
/-- one reading over a family of contexts -/
theorem dss_fam {S ι : Type} {Γ : Pm} {w : Wo S} {W : WX} {Xc : ι → Cx} {K : PySem.W.Frag} {st : List Stmt} {f : Sn → S → SR S} (hK : ∀ i, (Xc i).K = K) (h : ∀ i, DSs Γ w W (Xc i) st f) : ∃ t, (∀ i, PSs (Xc i) st t) ∧ EvS K Γ w W t f := by
  have h' : ∀ i, ∃ t, PSs (Xc i) st t ∧ EvS (Xc i).K Γ w W t f := fun i => (h i).ex
  have ht : ∃ t : ι → TS, (∀ i, PSs (Xc i) st (t i)) ∧ ∀ i, EvS (Xc i).K Γ w W (t i) f := ⟨fun i => Classical.choose (h' i), fun i => (Classical.choose_spec (h' i)).1, fun i => (Classical.choose_spec (h' i)).2⟩
  obtain ⟨t, h1, h2⟩ := ht
  -- := fun i => (Classical.choose_spec (h' i)).1
  -- := fun i => (Classical.choose_spec (h' i)).2
  refine ⟨fun D σ H => ∀ i, t i D σ H, fun i => ⟨fun pins s σ H D I q => (h1 i).run pins s σ H D I (q i)⟩, fun ε s σ G0 H0 m0 G H m D x p r hp i => ?_⟩
  have e := h2 i
  rw [hK i] at e
  exact e ε s σ G0 H0 m0 G H m D x p r hp
def εE (n iE : Nat) : Sn := (List.replicate n none).set iE (some (.d (.nm 2)))
/-- an error out of the lambda: what the suite tells of it -/
def WErr (K : PySem.W.Frag) (ca : EK → Addr) (n iE : Nat) (gs : Sn → Err → SR Err) (Q : VK) : XK := fun cls dx H2 => ∃ (e : Err) (d : D), e.k ≠ .say ∧ ErrAt ⟨fun _ => 0, ca⟩ e cls dx H2 ∧ gs (εE n iE) e = .rt d e ∧
  ∀ (G' H3 : Hp) (rho : Nat → Addr) (v : V), (∀ b o, H2 b = some o → H3 b = some o) → NTabs H2 H3 → (∀ b, G' b ≠ none → H2 b = none) → Sub G' H3 → Rep K ⟨rho, ca⟩ G' d v → Q v H3
/-- a value out of it -/
def WVal (L : Addr) (Q : VK) : VK := fun v H2 => H2 L = some (.lst []) ∧ ∀ (t : Addr) (o : Obj), upd H2 L (.lst [v]) t = none → o.dict = none → Q (.ref t) (upd (upd H2 L (.lst [v])) t (.frz o (.tup [.str (tx []), v])))
/-- what _law_word makes of its lambda's reading -/
def TW (K : PySem.W.Frag) (ca : EK → Addr) (n iE : Nat) (gs : Sn → Err → SR Err) : (XK → Hp → VK → Prop) → Hp → VK → Prop := fun tl H Q => ∀ L, H L = none → ∀ (Ec : XK) (Qc : VK), (∀ cls dx H2, WErr K ca n iE gs Q cls dx H2 → Ec cls dx H2) → (∀ v H2, WVal L Q v H2 → Qc v H2) → tl Ec (upd H L (.lst [])) Qc
section
variable {X : Cx} {Ng : List Str} {sg : Scope} {g CS : Addr} {cdg : Value} {b0 : Stmt} {suite : List Stmt} {ca : EK → Addr} {gs : Sn → Err → SR Err} {iE : Nat} {q : Str}
theorem word_gives {p1 p2 p3 p4 p5 p6 p7 p8 p9 p10 p11 p12 p13 p14 p15 p16 p17 p18 : Pos} {j1 j2 j3 : Nat} (hN : Ng.Nodup) (h0 : Ng[0]? = some ("_law_work" : Str)) (h1 : Ng[1]? = some ("_law_found" : Str)) (hE : Ng[iE]? = some ("e" : Str)) (h0E : iE ≠ 0) (h1E : iE ≠ 1)
    (l1 : sg.names.lookup ("_law_found" : Str) = some .local) (lE : sg.names.lookup ("e" : Str) = some .local) (gS : sg.names.lookup ("SayError" : Str) = some .globalImplicit) (mS : X.mg "SayError" = some (.ref CS)) (F : ErrF X.K ca CS)
    (hsu : ∀ (s : Shared) (H : Hp) (xa : Addr) (oe : Obj) (cls : Value) (d : Option Addr) (pn : List (Addr × Obj)) (rho : Nat → Addr), Zc cls d oe → (∃ vs, oe.data = .fields vs) → rho 2 = xa →
      DSs ⟨rho, ca⟩ (wE cls d ⟨rho, ca⟩) WF ((cxOf C8.CX0 X.prog X.w X.K X.mg X.base Ng "_law_word" sg g cdg X.A X.stack s H C8.E0).nox.suite xa ((xa, oe) :: pn)) (b0 :: suite) gs)
    (sh0 : ∀ f : Addr, L2.start Ng [V.ref f] = (some (V.ref f)) :: List.replicate (Ng.length - 1) none) (hk : sg.kind = .function) (hline : (p5.endLine == p8.line) = true) :
    GivesTo X Ng "_law_word" sg g cdg [.Assign [.Name "_law_found" p1] (.List [] p2) p3,
      .Try [.Expr (.Call (.Attribute (.Name "_law_found" p4) "append" p5) [.Call (.Name "_law_work" p6) [] [] p7] [] p8) p9] [.ExceptHandler (some (.Name "SayError" p10)) (some "e") (b0 :: suite) p11] [] [] p12,
      .Return (some (.Tuple [.Constant (.str "") j1 p13, .Subscript (.Name "_law_found" p14) (.Constant (.int 0) j2 p15) p16] j3 p17)) p18] "_law_work" q (TW X.K ca Ng.length iE gs) := by
  intro f c' s H Q tl act hc h
  have hEl : iE < Ng.length := (List.getElem?_eq_some_iff.mp hE).1
  have h1l : 1 < Ng.length := (List.getElem?_eq_some_iff.mp h1).1
  -- the suite's reading, for each exception
  have hs' : ∀ (xa : Addr) (cls : Value) (d : Option Addr), ∃ t : TS, (∀ (oe : Obj) (pn : List (Addr × Obj)), Zc cls d oe → (∃ vs, oe.data = .fields vs) →
      PSs ((cxOf C8.CX0 X.prog X.w X.K X.mg X.base Ng "_law_word" sg g cdg X.A X.stack s H C8.E0).nox.suite xa ((xa, oe) :: pn)) (b0 :: suite) t) ∧ EvS X.K ⟨fun _ => xa, ca⟩ (wE cls d ⟨fun _ => xa, ca⟩) WF t gs := fun xa cls d => by
    obtain ⟨t, e1, e2⟩ := dss_fam (ι := { i : Obj × List (Addr × Obj) // Zc cls d i.1 ∧ ∃ vs, i.1.data = .fields vs }) (K := X.K)
      (Xc := fun i => (cxOf C8.CX0 X.prog X.w X.K X.mg X.base Ng "_law_word" sg g cdg X.A X.stack s H C8.E0).nox.suite xa ((xa, i.1.1) :: i.1.2)) (fun _ => rfl)
      fun i => hsu s H xa i.1.1 cls d i.1.2 (fun _ => xa) i.2.1 i.2.2 rfl
    exact ⟨t, fun oe pn hz hf => e1 ⟨(oe, pn), hz, hf⟩, e2⟩
  have hts' : ∃ ts : Addr → Value → Option Addr → TS, (∀ xa cls d oe pn, Zc cls d oe → (∃ vs, oe.data = .fields vs) → PSs ((cxOf C8.CX0 X.prog X.w X.K X.mg X.base Ng "_law_word" sg g cdg X.A X.stack s H C8.E0).nox.suite xa ((xa, oe) :: pn)) (b0 :: suite) (ts xa cls d)) ∧ ∀ xa cls d, EvS X.K ⟨fun _ => xa, ca⟩ (wE cls d ⟨fun _ => xa, ca⟩) WF (ts xa cls d) gs :=
    ⟨fun xa cls d => Classical.choose (hs' xa cls d), fun xa cls d => (Classical.choose_spec (hs' xa cls d)).1, fun xa cls d => (Classical.choose_spec (hs' xa cls d)).2⟩
  obtain ⟨ts, hts, hev⟩ := hts'
  refine ⟨_, pss_cons (ps_set (i := 1) hN h1 (.inl l1) (pe_lst pa_nil)) (pss_cons (ps_try_as (X := (cxOf C8.CX0 X.prog X.w X.K X.mg X.base Ng "_law_word" sg g cdg X.A X.stack s H C8.E0).nox) (c := .ref CS) (i := iE) (Wout := fun _ _ _ _ => False)
      (tb := fun W D σ H' => ∃ Ech : XK, (∀ cls d σ' H', Ech cls d H' → σ'.length = Ng.length → W cls d σ' H') ∧ ∃ L, σ[1]? = some (some (V.ref L)) ∧ H' L = some (.lst []) ∧ σ[0]? = some (some (V.ref f)) ∧ H' c' = some (CodeO c' q) ∧ tl Ech H' fun v H2 => rAppend (.ref L) [v] H2 fun _ H3 => D.nx σ H3)
      (ts := ts) rfl rfl hN hE lE ⟨gS, by decide +kernel, .inl mS⟩ LamX.takes0 (fun W pn xe tk _ => ?_) (fun a oe cls d pn hz hf => hts a cls d oe pn hz hf))
      (pss_one (ps_ret (Dm.pe_tupP (pa_cons pe_str (pa_cons (pe_ix ix_seq (pe_var (i := 1) h1 (.inl l1) (by decide +kernel) (by decide +kernel)) pe_int (fun _ _ => rfl)) pa_nil)))))), ?_⟩
  · refine ⟨fun pins s' σ H' D I h' => ?_⟩
    obtain ⟨Ech, hW, L, e1, e2, e3, e4, e5⟩ := h'
    have hp := act (fun c d σ H => σ.length = Ng.length → W c d σ H) pn xe Ech p6 p7 (takes_len tk) (fun cls d σ' H' hE hl => hW cls d σ' H' hE hl)
    have hq := pss_one (ps_expr (pos := p9) (pe_bm (apos := p5) (cpos := p8) PySem.F.plainAttrs_list PySem.F.slot_list_append PySem.F.type_list_append mt_append (pe_var (pos := p4) (i := 1) h1 (.inl l1) (by decide +kernel) (by decide +kernel)) (pa_cons hp pa_nil (by rfl)) (by rfl) (by rfl) hline (by rfl) (by rfl)) (by rfl))
    exact hq.run pins s' σ H' D I ⟨.ref L, e1, .inl ⟨rfl, _, SqL.of e2⟩, e3, e4, e5⟩
  · refine ⟨by show 0 ≤ sizeLine; decide, fun L hL => ?_⟩
    have nL : H L = none := hL
    have cL : c' ≠ L := fun z => by rw [z, nL] at hc; cases hc
    have sl : (L2.start Ng [V.ref f]).length = Ng.length := by
      rw [sh0 f, List.length_cons, List.length_replicate]
      omega
    have s1 : ((L2.start Ng [V.ref f]).set 1 (some (V.ref L)))[1]? = some (some (V.ref L)) := List.getElem?_set_self (by rw [sl]; exact h1l)
    have s0 : ((L2.start Ng [V.ref f]).set 1 (some (V.ref L)))[0]? = some (some (V.ref f)) := by
      rw [List.getElem?_set_ne (by decide), sh0 f]
      rfl
    refine ⟨WErr X.K ca Ng.length iE gs Q, ?_, L, s1, upd_same, s0, ?_, h L nL _ _ (fun _ _ _ z => z) ?_⟩
    · -- an error: the suite
      rintro cls dx σ' H2 ⟨e, d, hk', ⟨hcls, hdx⟩, hg, hq⟩ hl'
      refine ⟨true, by rw [hcls]; exact F.x _ hk', fun _ xa hxa => ?_, fun z => Bool.noConfusion z⟩
      have ev := hev xa cls dx
      -- the suite's world: the error's dict alone
      have hm : ∀ x, dx = some x → H2 x ≠ none := fun x hx => by
        cases hfs : e.fs with
        | nil => rw [hfs] at hdx; rw [hdx] at hx; cases hx
        | cons a as =>
          rw [hfs] at hdx
          obtain ⟨dd, e1, e2⟩ := hdx
          rw [e1] at hx
          cases hx
          exact ne_some e2
      have h3 : St3 (fun _ => none) H2 (fun x => dx = some x) := ⟨fun _ _ z => (nomatch z), fun _ _ => rfl, hm⟩
      have hP : (wE cls dx ⟨fun _ => xa, ca⟩).P e (fun _ => none) H2 (fun x => dx = some x) := by
        refine ⟨hcls, fun _ => Iff.rfl, ?_⟩
        cases hfs : e.fs with
        | nil => rw [hfs] at hdx; exact hdx
        | cons a as =>
          rw [hfs] at hdx
          exact hdx
      have hR : RepS X.K ⟨fun _ => xa, ca⟩ (fun _ => none) H2 H2 (fun x => dx = some x) (σ'.set iE (some (V.ref xa))) (εE Ng.length iE) := by
        unfold εE
        refine ⟨by rw [List.length_set, List.length_set, List.length_replicate, hl'], fun i x hx => ?_, fun _ => 0, fun i o ho => ?_, fun i j o o' ho _ _ => ?_⟩
        · by_cases hi : iE = i
          · subst hi
            rw [List.getElem?_set_self (by rw [List.length_replicate]; exact hEl)] at hx
            cases hx
            refine ⟨.ref xa, List.getElem?_set_self (by rw [hl']; exact hEl), ?_⟩
            simp only [Rep]
          · rw [List.getElem?_set_ne hi, List.getElem?_replicate] at hx
            split at hx <;> cases hx
        · exfalso
          by_cases hi : iE = i
          · subst hi
            rw [List.getElem?_set_self (by rw [List.length_replicate]; exact hEl)] at ho
            cases ho
          · rw [List.getElem?_set_ne hi, List.getElem?_replicate] at ho
            split at ho <;> cases ho
        · exfalso
          by_cases hi : iE = i
          · subst hi
            rw [List.getElem?_set_self (by rw [List.length_replicate]; exact hEl)] at ho
            cases ho
          · rw [List.getElem?_set_ne hi, List.getElem?_replicate] at ho
            split at ho <;> cases ho
      refine ev (εE Ng.length iE) e _ (fun _ => none) H2 _ (fun _ => none) H2 _ _ (Ext.refl h3) hP hR ?_
      rw [hg]
      intro G3 H3 m3 v x3 p3 r3
      have dsame : ∀ o x, dx = some x → H2 x = some o → H3 x = some o := fun o x hx e2 => by
        -- the dict is what it was: both worlds tell it
        have q1 := hP.2.2
        have q2 := p3.2.2
        cases hfs : e.fs with
        | nil => rw [hfs] at q1; rw [q1] at hx; cases hx
        | cons a as =>
          rw [hfs] at q1 q2
          obtain ⟨d1, e3, e4⟩ := q1
          obtain ⟨d2, e5, e6⟩ := q2
          rw [hx] at e3 e5
          cases e3
          cases e5
          rw [e6, ← e2, e4]
      refine hq G3 H3 (fun _ => xa) v (fun b o hb => ?_) (fun b o t hb => ?_) (fun b hb => x3.newG b hb rfl) x3.sub r3
      · by_cases hbd : dx = some b
        · exact dsame o b hbd hb
        · exact x3.keep b o hbd hb
      · by_cases hbd : m3 b
        · exfalso
          have := (p3.2.1 b).mp hbd
          have q2 := p3.2.2
          cases hfs : e.fs with
          | nil => rw [hfs] at q2; rw [q2] at this; cases this
          | cons a as =>
            rw [hfs] at q2
            obtain ⟨dd, e1, e2⟩ := q2
            rw [this] at e1
            cases e1
            rw [e2] at hb
            cases hb
            exact isPl_tb rfl b t
        · exact x3.nt b o hbd t hb
    · show upd H L (.lst []) c' = _
      rw [upd_ne cL]
      exact hc
    · rintro v H2 ⟨hL2, hret⟩
      refine ⟨L, [], v, rfl, rfl, hL2, by decide, ?_⟩
      refine ⟨.ref L, s1, .inl ⟨L, [v], 0, v, rfl, rfl, SqL.of upd_same, rfl, ?_⟩⟩
      refine ⟨by show 2 ≤ sizeLine; decide, fun t o ht hod => ?_⟩
      have es : ("" : Str) = tx [] := by decide +kernel
      show Q (.ref t) (upd (upd H2 L (.lst ([] ++ [v]))) t (.frz o (.tup [.str ("" : Str), v])))
      rw [es]
      exact hret t o ht hod
end
mutual
def noNm : D → Bool
  | .nm _ => false
  | .dct _ _ => false
  | .tup xs => noNms xs
  | .lst xs => noNms xs
  | _ => true
def noNms : List D → Bool
  | [] => true
  | d :: ds => noNm d && noNms ds
end
mutual
theorem Rep.rho {K : PySem.W.Frag} {Γ Γ' : Pm} {G : Hp} : ∀ {d : D} {v : V}, noNm d = true → Rep K Γ G d v → Rep K Γ' G d v
  | .non, _, _, h => h
  | .bl _, _, _, h => h
  | .int _, _, _, h => h
  | .str _, _, _, h => h
  | .nm _, _, n, _ => by simp only [noNm] at n; cases n
  | .dct _ _, _, n, _ => by simp only [noNm] at n; cases n
  | .tup xs, v, n, h => by
    simp only [Rep] at h ⊢
    obtain ⟨a, vs, h1, h2, h3⟩ := h
    exact ⟨a, vs, h1, h2, RepL.rho (by simpa only [noNm] using n) h3⟩
  | .lst xs, v, n, h => by
    simp only [Rep] at h ⊢
    obtain ⟨a, vs, h1, h2, h3⟩ := h
    exact ⟨a, vs, h1, h2, RepL.rho (by simpa only [noNm] using n) h3⟩
theorem RepL.rho {K : PySem.W.Frag} {Γ Γ' : Pm} {G : Hp} : ∀ {ds : List D} {vs : List V}, noNms ds = true → RepL K Γ G ds vs → RepL K Γ' G ds vs
  | [], _, _, h => h
  | d :: ds, vs, n, h => by
    simp only [RepL] at h ⊢
    obtain ⟨v, vs', h1, h2, h3⟩ := h
    simp only [noNms, Bool.and_eq_true] at n
    exact ⟨v, vs', h1, Rep.rho n.1 h2, RepL.rho n.2 h3⟩
end
theorem tab_mem {P : Addr} {q : Str} : (P, q) ∈ [(P, q)] := List.mem_singleton.mpr rfl
theorem tab_u {P : Addr} {q : Str} : ∀ p ∈ [(P, q)], p.1 = P → p.2 = q := fun p hp _ => by rw [List.mem_singleton.mp hp]
open Classical in
/-- _law_word(lambda: ..) -/
noncomputable def fWord (n iE : Nat) (gs : Sn → Err → SR Err) (fb : En → RS → R RS D) : En → RS → R RS D := fun η s => match fb η s with
  | .ok d s' => .ok (.tup [.str [], d]) s'
  | .er e s' => match gs (εE n iE) e with
    | .rt d e' => if e' = e ∧ e.k ≠ .say ∧ noNm d = true then .ok d s' else .no
    | _ => .no
  | .no => .no
theorem lam_ext {K : PySem.W.Frag} {Γ : Pm} {T : List (Addr × Str)} {s : RS} {G H H1 : Hp} {m : Addr → Prop} {P : Addr} {q : Str} (h3 : St3 G H m) (p : (rowT K T Γ).P s G H m) (hM : LamD.MadeP P q H H1) (hT : Tabs T H1) : ∃ m1, Ext G H m G H1 m1 ∧ (rowT K T Γ).P s G H1 m1 := by
  rcases hM with rfl | ⟨ps, more, c, hP, hc, rfl⟩
  · exact ⟨m, Ext.refl h3, p⟩
  · have mP : m P := p.2.2.1 P _ (.inl ⟨ps, rfl⟩) hP
    have nPc : P ≠ c := ne_of_none hP hc
    have atP : upd (upd H P (.tbl (ps ++ more))) c (CodeO c q) P = some (.tbl (ps ++ more)) := by rw [upd_ne nPc, upd_same]
    have oth : ∀ b, b ≠ P → b ≠ c → upd (upd H P (.tbl (ps ++ more))) c (CodeO c q) b = H b := fun b h1 h2 => by rw [upd_ne h2, upd_ne h1]
    have gc : G c = none := by
      cases z : G c with
      | none => rfl
      | some o => have := h3.sub c o z; rw [hc] at this; cases this
    have ne_c : ∀ b o, H b = some o → b ≠ c := fun b o e => ne_of_none e hc
    have r0P : Γ.rho 0 ≠ P := fun z => by
      have := p.1.row
      rw [z, hP] at this
      cases this
    refine ⟨fun a => m a ∨ a = c, ⟨⟨fun a o e => ?_, fun a ha => ?_, fun a ha => ?_⟩, fun _ h => .inl h, fun a o na t e => ?_, Sub.refl _, fun a o na e => ?_, fun a h1 h2 => absurd h2 h1, fun a ha => ?_, fun a ha => ?_⟩, ⟨?_, p.1.scr⟩, .inl p.2.1, fun a o t e => ?_, hT⟩
    · rw [oth a (fun z => by rw [z, h3.dis P mP] at e; cases e) (ne_c a o (h3.sub a o e))]
      exact h3.sub a o e
    · rcases ha with ha | rfl
      · exact h3.dis a ha
      · exact gc
    · rcases ha with ha | rfl
      · by_cases e1 : a = P
        · rw [e1, atP]; exact fun z => nomatch z
        · by_cases e2 : a = c
          · rw [e2, upd_same]; exact fun z => nomatch z
          · rw [oth a e1 e2]; exact h3.own a ha
      · rw [upd_same]; exact fun z => nomatch z
    · have e1 : a ≠ P := fun z => na (.inl (by rw [z]; exact mP))
      have e2 : a ≠ c := fun z => na (.inr z)
      rw [oth a e1 e2] at e
      exact e
    · rw [oth a (fun z => na (by rw [z]; exact mP)) (ne_c a o e)]
      exact e
    · rcases ha with ha | rfl
      · exact .inl ha
      · exact .inr hc
    · by_cases e1 : a = P
      · rw [e1, atP]; exact fun z => nomatch z
      · by_cases e2 : a = c
        · rw [e2, upd_same]; exact fun z => nomatch z
        · rw [oth a e1 e2]; exact ha
    · rw [oth _ r0P (ne_c _ _ p.1.row)]
      exact p.1.row
    · by_cases e2 : a = c
      · exact .inr e2
      · by_cases e1 : a = P
        · exact .inl (by rw [e1]; exact mP)
        · rw [oth a e1 e2] at e
          exact .inl (p.2.2.1 a o t e)
/-- what the suite told, beside what there is -/
theorem ext_join {G H G1 H1 G3 H3 : Hp} {m m1 : Addr → Prop} (x : Ext G H m G1 H1 m1) (keep : ∀ b o, H1 b = some o → H3 b = some o) (nt : NTabs H1 H3) (new : ∀ b, G3 b ≠ none → H1 b = none) (sub : Sub G3 H3) :
    Ext G H m (fun b => (G3 b).or (G1 b)) H3 m1 ∧ Sub G3 (fun b => (G3 b).or (G1 b)) ∧ Sub G1 (fun b => (G3 b).or (G1 b)) := by
  have n3 : ∀ b o, G1 b = some o → G3 b = none := fun b o e => by
    cases z : G3 b with
    | none => rfl
    | some u => have := new b (ne_some z); rw [x.sub b o e] at this; cases this
  have s1 : Sub G1 (fun b => (G3 b).or (G1 b)) := fun b o e => by
    show (G3 b).or (G1 b) = some o
    rw [n3 b o e, e]
    rfl
  refine ⟨⟨⟨fun a o e => ?_, fun a ha => ?_, fun a ha => ?_⟩, x.mm, fun a o na t e => x.nt a o na t (nt a o t e), x.gg.trans s1, fun a o na e => keep a o (x.keep a o na e), fun a h1 h2 => ?_, x.newM, fun a ha => ?_⟩, fun b o e => ?_, s1⟩
  · have e : (G3 a).or (G1 a) = some o := e
    cases z : G3 a with
    | none => rw [z] at e; exact keep a o (x.sub a o e)
    | some u => rw [z] at e; exact sub a o (z.trans e)
  · show (G3 a).or (G1 a) = none
    cases z : G3 a with
    | none => rw [x.dis a ha]; rfl
    | some u => exact absurd (new a (ne_some z)) (x.own a ha)
  · cases z : H1 a with
    | none => exact absurd z (x.own a ha)
    | some o => rw [keep a o z]; exact fun q => nomatch q
  · have h1 : (G3 a).or (G1 a) ≠ none := h1
    cases z : G3 a with
    | none => rw [z] at h1; exact x.newG a h1 h2
    | some u =>
      have e := new a (ne_some z)
      cases q : H a with
      | none => rfl
      | some o => exact absurd e (x.there a (ne_some q))
  · cases z : H1 a with
    | none => exact absurd z (x.there a ha)
    | some o => rw [keep a o z]; exact fun q => nomatch q
  · show (G3 b).or (G1 b) = some o
    rw [e]
    rfl
section
variable {X : Cx} {Γ : Pm} {T : List (Addr × Str)} {W : WX} {Ng : List Str} {st : Stmt} {gs : Sn → Err → SR Err} {iE n k : Nat} {params : Arguments} {body : Expr} {scope : Scope} {p lpos pos : Pos} {fb : En → RS → R RS D} {c P : Addr} {K : PySem.W.Frag}
theorem de_lam (hK : X.K = K) (dW : DefAt X.K X.mg "_law_word" st ["_law_work"]) (Sg : FnScope Ng ["_law_work"] (defScope st)) (hNg : Ng[0]? = some ("_law_work" : Str)) (hva : Vis (defScope st) "_law_work")
    (hG : ∀ (g : Addr) (cdv : Value), Room (k + 1) X.A → GivesTo X Ng "_law_word" (defScope st) g cdv (defBody st) "_law_work" (X.env.qual ++ "<lambda>") (TW X.K Γ.ca n iE gs))
    (TB : TabB X.base X.mg c P) (hcode : X.env.code = .ref c) {q0 : Str} (hq : X.env.qual = q0) (hmT : (P, q0 ++ "<lambda>") ∈ T) (hu : ∀ p ∈ T, p.1 = P → p.2 = q0 ++ "<lambda>") (hr : Room (k + 2) X.A) (hg : Gl X "_law_word") (L : LamS X.env.scope scope) (hdef : defaultsOf params X.env = ([], []))
    (hbind : ∀ (q : Str) (cl : List (Str × Addr)) (pm cv ctv : Value), bindArgs (PySem.W.kla_fn "<lambda>" q params body scope cl pm cv ctv) ⟨[], []⟩ = pure [])
    (hbody : ∀ (A : Around) (outer : List Env) (s : Shared) (H : Hp) (E : XK) (f c' : Addr), Room k (A.deeper (lamEnv X scope s.heap.objs.size f c')) → DE Γ (rowT K T Γ) (fun c d _ H' => E c d H') (lamCx X A outer s H E scope f c') body fb) :
    DE Γ (rowT K T Γ) W X (.Call (.Name "_law_word" p) [.Lambda params body scope lpos] [] pos) (fWord n iE gs fb) := by
  subst hK
  subst hq
  have fam : ∀ E : XK, ∃ t : TE, (∀ (A : Around) (outer : List Env) (s : Shared) (H : Hp) (f c' : Addr), Room k (A.deeper (lamEnv X scope s.heap.objs.size f c')) → PE (lamCx X A outer s H E scope f c') body t) ∧ Ev X.K Γ (rowT X.K T Γ) (fun c d _ H' => E c d H') (Rep X.K Γ) t fb := fun E => by
    obtain ⟨t, e1, e2⟩ := de_fam (ι := { i : Around × List Env × Shared × Hp × Addr × Addr // Room k (i.1.deeper (lamEnv X scope i.2.2.1.heap.objs.size i.2.2.2.2.1 i.2.2.2.2.2)) }) (K := X.K)
      (Xc := fun i => lamCx X i.1.1 i.1.2.1 i.1.2.2.1 i.1.2.2.2.1 E scope i.1.2.2.2.2.1 i.1.2.2.2.2.2) (fun _ => rfl) fun i => hbody _ _ _ _ E _ _ i.2
    exact ⟨t, fun A outer s H f c' hr => e1 ⟨(A, outer, s, H, f, c'), hr⟩, e2⟩
  have ht : ∃ t : XK → TE, (∀ (A : Around) (outer : List Env) (s : Shared) (H : Hp) (E : XK) (f c' : Addr), Room k (A.deeper (lamEnv X scope s.heap.objs.size f c')) → PE (lamCx X A outer s H E scope f c') body (t E)) ∧ ∀ E, Ev X.K Γ (rowT X.K T Γ) (fun c d _ H' => E c d H') (Rep X.K Γ) (t E) fb :=
    ⟨fun E => Classical.choose (fam E), fun A outer s H E f c' hr => (Classical.choose_spec (fam E)).1 A outer s H f c' hr, fun E => (Classical.choose_spec (fam E)).2⟩
  obtain ⟨t, hp', hev⟩ := ht
  obtain ⟨g, fd, FF, bb, gg⟩ := dW
  obtain ⟨⟨oc, od, kV, doc, pm, an, cdv, ct, osl, rfl, lk, hcd⟩, kp⟩ := FF
  refine ⟨_, LamD.pe_lamP hg gg kp lk hcd bb Sg hNg hva (hG g cdv) TB hcode hmT hu hr L hdef hbind hp' (by decide +kernel) (by decide +kernel) (by decide +kernel), fun η s σ G H m Q h3 pp e hp => ⟨pp.2.2.2, fun H1 hM hT1 L0 hL Ec Qc hE hV => ?_⟩⟩
  obtain ⟨m1, x1, p1⟩ := lam_ext h3 pp hM hT1
  have x2 := x1.newO (o := .lst []) hL
  have p2 : (rowT X.K T Γ).P s G (upd H1 L0 (.lst [])) m1 := (rowT X.K T Γ).stay p1 (Sub.refl _) fun y o hy ey => by
    rw [upd_ne (ne_of_none ey hL)]
    exact ey
  have nm : ¬ m1 L0 := fun z => x1.own L0 z hL
  have hL0 : H L0 = none := there_none x1 hL
  have gL : G L0 = none := by
    cases z : G L0 with
    | none => rfl
    | some o => have := h3.sub L0 o z; rw [hL0] at this; cases this
  have lN : upd H1 L0 (.lst []) L0 ≠ none := by rw [upd_same]; exact fun z => nomatch z
  refine hev Ec η s σ G (upd H1 L0 (.lst [])) m1 Qc x2.toSt3 p2 e ?_
  unfold fWord at hp
  cases q : fb η s with
  | no => rw [q] at hp; exact hp
  | ok d s' =>
    rw [q] at hp
    intro G' H' m' v x p' r'
    refine hV v H' ⟨x.keep L0 _ nm upd_same, fun tt oo htt hoo => ?_⟩
    have gL' := x.addr_g lN gL
    have nL' := x.addr_m lN nm
    have xx := x2.trans x
    have xm := xx.mut (o := .lst [v]) hL0 gL' nL'
    have xn := xm.new (o := .frz oo (.tup [.str (tx []), v])) htt
    have gt : G' tt = none := by
      cases z : G' tt with
      | none => rfl
      | some o => have := xm.sub tt o z; rw [htt] at this; cases this
    have sb := upd_sub (o := .frz oo (.tup [.str (tx []), v])) gt
    refine hp _ _ m' _ xn ((rowT X.K T Γ).stay ((rowT X.K T Γ).stay (H' := upd H' L0 (.lst [v])) p' (Sub.refl _) fun y o hy ey => ?_) sb fun y o hy ey => ?_) ?_
    · rw [upd_ne fun z => nL' (by rw [← z]; exact hy)]
      exact ey
    · rw [upd_ne (ne_of_none ey htt)]
      exact ey
    · simp only [Rep]
      exact ⟨tt, _, rfl, SqP.of upd_same hoo, RepL.cons (by simp only [Rep]) (RepL.cons (r'.mono sb) RepL.nil)⟩
  | er e1 s' =>
    rw [q] at hp
    simp only at hp
    intro G' H' m' cls dx x p' he
    cases hg' : gs (εE n iE) e1 with
    | rt d e' =>
      rw [hg'] at hp
      simp only at hp
      split at hp
      · rename_i hc
        obtain ⟨rfl, hk, hn⟩ := hc
        refine hE cls dx H' ⟨e', d, hk, he, hg', fun G3 H3 rho v kp' nt' new' sub' rep' => ?_⟩
        obtain ⟨xj, s3, s1⟩ := ext_join (x2.trans x) kp' nt' new' sub'
        exact hp _ H3 m' v xj ((rowT X.K T Γ).stay p' s1 (fun y o _ ey => kp' y o ey) nt') ((rep'.mono s3).rho hn)
      · exact hp.elim
    | _ => rw [hg'] at hp; exact hp.elim
end
end Dm
namespace Dm
open PySem L2 PySem.Spec PyProof.Rows LamX
/-! ### the script, and the law's own def -/
/-- the script alone, at rho 1 -/
def scW (K : PySem.W.Frag) (Γ : Pm) : Wo (List Int) where
  P s G H m := SqL K G (Γ.rho 1) (s.map V.int) ∧ ∀ a, ¬ m a
  stay h sb _ _ := ⟨sb.seqL h.1, h.2⟩
theorem wk_seqL {K : PySem.W.Frag} {Γ : Pm} {G : Hp} {q : Addr} {ns : List Int} (h : SqL K G q (ns.map V.int)) : Wk K Γ (Itl K q) G (ns.map D.int) where
  stop H' hs := ⟨_, hs.seqL h, by simp⟩
  go i H' hs hi := by
    rw [List.length_map] at hi
    exact ⟨_, .int ns[i], hs.seqL h, by rw [List.getElem?_map, List.getElem?_eq_getElem hi]; rfl⟩
  yld i H' x Hx d hs hd hy := by
    obtain ⟨e1, y⟩ := hy
    have hx := y _ (hs.seqL h)
    rw [List.getElem?_map] at hx hd
    cases q : ns[i]? with
    | none => rw [q] at hd; cases hd
    | some n =>
      rw [q] at hd hx
      cases hd
      cases hx
      exact .inl ⟨e1, by simp only [Rep]⟩
section
variable {K : PySem.W.Frag} {Γ : Pm} {W : WX} {X : Cx} {pos p2 : Pos} {a : Expr} {fa : En → List Int → R (List Int) D}
/-- for x in script -/
def fScr (f : En → List Int → R (List Int) D) : En → List Int → R (List Int) (List D) := fun η s => (f η s).bind fun x s1 => match x with
  | .nm 1 => .ok (s1.map D.int) s1
  | _ => .no
theorem di_scr {tg : Expr} (h : DE Γ (scW K Γ) W X a fa) (hK : X.K = K := by rfl) : DI Γ (scW K Γ) W X tg a (fScr fa) := by
  subst hK
  obtain ⟨t, ha, ea⟩ := h
  refine ⟨_, pi_any ha, fun η s σ G H m Q h3 p e hp => ea η s σ G H m _ h3 p e (hp.next fun d1 s1 G1 H1 m1 v1 x1 p1 r1 hp1 => ?_)⟩
  split at hp1
  · simp only [Rep] at r1
    exact .inl ⟨_, r1, ⟨_, x1.sub.seqL p1.1⟩, hp1 G1 H1 m1 _ (Ext.refl x1.toSt3) p1 (wk_seqL p1.1)⟩
  · exact hp1.elim
end
def εLaw (n : Nat) : Sn := ((List.replicate n none).set 0 (some (.d (.nm 1)))).set 1 (some (.d (.nm 0)))
/-- the law's promise -/
def spLaw (K : PySem.W.Frag) (cs : List (Addr × Addr)) : Sp := fun vs H Q _ => ∃ (a : Addr) (ns : List Int), vs = [.ref a] ∧ SqL K H a (ns.map V.int) ∧ ns.length ≤ 63 ∧ (∀ z ∈ ns, Builtin.Int.intBits z ≤ 1048576) ∧ (∀ p ∈ cs, H p.2 = some (.tbl #[])) ∧ ∀ H', Q (.bl true) H'
/-- what may be a mutable: a table of code objects, or a code object -/
theorem law_fn {P : Program} {wd : World} {K : PySem.W.Frag} {mg : Str → Option Value} {base : Heap} {ca : EK → Addr} {T : List (Addr × Str)} {cs : List (Addr × Addr)} {N : List Str} {st : Stmt} {rest : List Stmt} {g : Sn → RS → SR RS} {k kr : Nat} {f fr : Addr} {fdr : FuncData}
    {kV doc pm cdv ct oc : Value} {an od : Option Addr} {osl : Array (Option Value)} {p1 p2 p3 p4 p5 : Pos} {FL : List D → List Int → R (List Int) (List D)} {mix : List Int → Int}
    (lk : K.lookup f = some ⟨oc, od, .func (PySem.W.fnOf "law" "law" (defArgs st) (defBody st) (defScope st) .none kV doc pm an cdv ct), osl⟩) (hcd : PySem.W.codeIn K cdv "law" = true) (Sc : FnScope N ["_law_script"] (defScope st)) (hN0 : N[0]? = some ("_law_script" : Str)) (hN1 : N[1]? = some ("_law_row_here" : Str))
    (vS : Vis (defScope st) "_law_script") (lR : Loc (defScope st) "_law_row_here") (gR : (defScope st).names.lookup ("_law_row" : Str) = some .globalImplicit)
    (hbody : defBody st = .Assign [.Name "_law_row_here" p1] (.Call (.Name "_law_row" p2) [.Name "_law_script" p3] [] p4) p5 :: rest)
    (okrow : FnOk P wd K mg base (L2.CX P wd) kr fr fdr ["_law_script"] (spL K ca (scW K) FL)) (gr : mg "_law_row" = some (.ref fr)) (kp : PySem.W.keepIn K (.ref fr) = true) (br : Binds K fdr ["_law_script"] []) (hkr : kr ≤ k)
    (hrow : ∀ ns : List Int, ns.length ≤ 63 → (∀ z ∈ ns, Builtin.Int.intBits z ≤ 1048576) → FL [.nm 1] ns = .ok [.nm 1, .int 0, .int 0, .int (mix ns)] ns)
    (hT : ∀ p ∈ T, ∃ c, (c, p.1) ∈ cs)
    (hrest : ∀ (A : Around) (outer : List Env) (s : Shared) (H : Hp) (E : XK) (rho : Nat → Addr), Room k (A.deeper (envOfC "law" (defScope st) s.heap.objs.size f cdv)) →
      DSs ⟨rho, ca⟩ (rowT K T ⟨rho, ca⟩) (fun c d _ H' => E c d H') (cxOf (L2.CX P wd) P wd K mg base N "law" (defScope st) f cdv A outer s H E) rest g)
    (hmath : ∀ ns : List Int, ns.length ≤ 63 → (∀ z ∈ ns, Builtin.Int.intBits z ≤ 1048576) → ∃ s', g (εLaw N.length) ⟨ns, 0, 0, mix ns⟩ = .rt (.bl true) s')
    (hsw : ∀ (A : Around) (outer : List Env) (s : Shared) (H : Hp) (E : XK), swapsWith (.Call (.Name "_law_row" p2) [.Name "_law_script" p3] [] p4) (some (.Name "_law_row_here" p1)) p5.line (cxOf (L2.CX P wd) P wd K mg base N "law" (defScope st) f cdv A outer s H E).env = pure false := by intros; rfl) :
    FnOk P wd K mg base (L2.CX P wd) (k + 1) f (PySem.W.fnOf "law" "law" (defArgs st) (defBody st) (defScope st) .none kV doc pm an cdv ct) ["_law_script"] (spLaw K cs) := by
  refine fn_of lk hcd Sc (fun vs H Q E h => ?_) (fun A outer s H vs Q E hr h => ?_)
  · obtain ⟨a, ns, rfl, _⟩ := h
    rfl
  obtain ⟨a, ns, rfl, hS, hlen, hbits, htab, hQ⟩ := h
  have tk : Takes (cxOf (L2.CX P wd) P wd K mg base N "law" (defScope st) f cdv A outer s H E) (fun c d _ H => E c d H) := takes_of rfl rfl rfl rfl
  -- the rest's reading, for each row
  have fam : ∃ t : (Nat → Addr) → TS, (∀ rho, PSs (cxOf (L2.CX P wd) P wd K mg base N "law" (defScope st) f cdv A outer s H E) rest (t rho)) ∧ ∀ rho, EvS K ⟨rho, ca⟩ (rowT K T ⟨rho, ca⟩) (fun c d _ H' => E c d H') (t rho) g :=
    ⟨fun rho => Classical.choose (hrest A outer s H E rho hr).ex, fun rho => (Classical.choose_spec (hrest A outer s H E rho hr).ex).1, fun rho => (Classical.choose_spec (hrest A outer s H E rho hr).ex).2⟩
  obtain ⟨t, ht, hev⟩ := fam
  have htall : PSs (cxOf (L2.CX P wd) P wd K mg base N "law" (defScope st) f cdv A outer s H E) rest (fun D σ H => ∃ rho, t rho D σ H) := ⟨fun pins s' σ H' D I ⟨rho, q⟩ => (ht rho).run pins s' σ H' D I q⟩
  rw [hbody]
  refine ⟨_, pss_cons (ps_set (i := 1) Sc.nd hN1 lR (pe_callS (E := WE fun c d _ H => E c d H) okrow (hr.mono hkr) gR gr kp br (fun σ => passAt tk σ) (pa_cons (pe_var (i := 0) hN0 vS (by decide +kernel) (by decide +kernel)) pa_nil (by rfl)) (by decide +kernel) (by rfl) (by rfl)) (hsw A outer s H E) (.inl rfl)) htall, ?_⟩
  -- the script in a heap of ours
  obtain ⟨G0, hG0, hGS, hGa⟩ : ∃ G0 : Hp, Sub G0 H ∧ SqL K G0 a (ns.map V.int) ∧ ∀ b o, G0 b = some o → ¬ Tb b o := by
    rcases hS with (h1 | ⟨o, h1⟩) | h1
    · refine ⟨fun b => if b = a then H a else none, fun b o e => ?_, .inl (.inl ((if_pos rfl).trans h1)), fun b o e => ?_⟩
      · by_cases hb : b = a
        · rw [hb] at e ⊢; exact (if_pos rfl).symm.trans e
        · exact nomatch (if_neg hb).symm.trans e
      · by_cases hb : b = a
        · have e2 := (if_pos hb).symm.trans e
          rw [h1] at e2
          cases e2
          exact isPl_tb rfl b
        · exact nomatch (if_neg hb).symm.trans e
    · refine ⟨fun b => if b = a then H a else none, fun b o e => ?_, .inl (.inr ⟨o, (if_pos rfl).trans h1⟩), fun b u e => ?_⟩
      · by_cases hb : b = a
        · rw [hb] at e ⊢; exact (if_pos rfl).symm.trans e
        · exact nomatch (if_neg hb).symm.trans e
      · by_cases hb : b = a
        · have e2 := (if_pos hb).symm.trans e
          rw [h1] at e2
          cases e2
          rintro (⟨ps, z⟩ | ⟨q, z⟩)
          · cases z
          · unfold CodeO at z; cases z
        · exact nomatch (if_neg hb).symm.trans e
    · exact ⟨fun _ => none, fun _ _ z => (nomatch z), .inr h1, fun _ _ z => (nomatch z)⟩
  have h3 : St3 G0 H (fun _ => False) := ⟨hG0, fun _ z => z.elim, fun _ z => z.elim⟩
  refine ⟨.ref a, ?_, ?_⟩
  · show (L2.start N [V.ref a])[0]? = _
    unfold L2.start
    rfl
  refine ⟨fun _ => a, G0, fun _ => False, [.nm 1], ns, h3, ⟨hGS, fun _ z => z⟩, RepL.cons (by simp only [Rep]) RepL.nil, ?_⟩
  rw [hrow ns hlen hbits]
  intro G' H' m' q vs x p' hq0 hgq hmq hq r
  simp only [RepL, Rep] at r
  obtain ⟨v0, _, rfl, rfl, v1, _, rfl, rfl, v2, _, rfl, rfl, v3, _, rfl, rfl, rfl⟩ := r
  refine ⟨fun i => if i = 0 then q else a, hev _ (εLaw N.length) ⟨ns, 0, 0, mix ns⟩ _ G' H' (fun b => b = q ∨ ∃ o, Tb b o ∧ H' b = some o) G' H' (fun b => b = q ∨ ∃ o, Tb b o ∧ H' b = some o) _ (Ext.refl ?_) ⟨⟨?_, ?_⟩, .inl rfl, fun b o t' e => .inr ⟨o, t', e⟩, fun p hp => ?_⟩ ⟨?_, fun i d hd => ?_, fun _ => 0, fun i o ho => ?_, fun i j o o' ho _ _ => ?_⟩ ?_⟩
  · refine ⟨x.sub, fun b hb => ?_, fun b hb => ?_⟩
    · rcases hb with rfl | ⟨o, t', e⟩
      · exact hgq
      · cases z : G' b with
        | none => rfl
        | some u =>
          have eu : u = o := Option.some.inj ((x.sub b u z).symm.trans e)
          subst eu
          have hb := x.nt b u (p'.2 b) t' e
          cases z0 : G0 b with
          | none => have := x.newG b (ne_some z) z0; rw [hb] at this; cases this
          | some u2 =>
            have := hG0 b u2 z0
            rw [hb] at this
            cases this
            exact absurd t' (hGa b u z0)
    · rcases hb with rfl | ⟨o, _, e⟩
      · rw [hq]; exact fun z => nomatch z
      · rw [e]; exact fun z => nomatch z
  · show H' q = some (.lst [.ref a, .int 0, .int 0, .int (mix ns)])
    exact hq
  · exact x.gg.seqL hGS
  · obtain ⟨c, hc⟩ := hT p hp
    exact TabS.nil (x.keep p.1 _ (fun z => z) (htab _ hc))
  · show ((L2.start N [V.ref a]).set 1 (some (V.ref q))).length = (εLaw N.length).length
    unfold εLaw
    rw [List.length_set, List.length_set, List.length_set, List.length_replicate]
    unfold L2.start
    rw [List.length_append, List.length_map, List.length_replicate]
    have := (List.getElem?_eq_some_iff.mp hN0).1
    simp only [List.length_cons, List.length_nil]
    omega
  · have h1l := (List.getElem?_eq_some_iff.mp hN1).1
    have sl : (L2.start N [V.ref a]).length = N.length := by
      unfold L2.start
      rw [List.length_append, List.length_map, List.length_replicate]
      simp only [List.length_cons, List.length_nil]
      omega
    unfold εLaw at hd
    by_cases h1 : 1 = i
    · subst h1
      rw [List.getElem?_set_self (by rw [List.length_set, List.length_replicate]; exact h1l)] at hd
      cases hd
      exact ⟨.ref q, List.getElem?_set_self (by rw [sl]; exact h1l), by simp only [Rep]; rfl⟩
    · rw [List.getElem?_set_ne h1] at hd
      by_cases h0 : 0 = i
      · subst h0
        rw [List.getElem?_set_self (by rw [List.length_replicate]; omega)] at hd
        cases hd
        refine ⟨.ref a, ?_, by simp only [Rep]; rfl⟩
        rw [List.getElem?_set_ne (by decide)]
        unfold L2.start
        rfl
      · rw [List.getElem?_set_ne h0, List.getElem?_replicate] at hd
        split at hd <;> cases hd
  · exfalso
    unfold εLaw at ho
    by_cases h1 : 1 = i
    · subst h1
      rw [List.getElem?_set] at ho
      split at ho
      · split at ho <;> cases ho
      · exact absurd rfl ‹_›
    · rw [List.getElem?_set_ne h1] at ho
      by_cases h0 : 0 = i
      · subst h0
        rw [List.getElem?_set] at ho
        split at ho
        · split at ho <;> cases ho
        · exact absurd rfl ‹_›
      · rw [List.getElem?_set_ne h0, List.getElem?_replicate] at ho
        split at ho <;> cases ho
  · exfalso
    unfold εLaw at ho
    by_cases h1 : 1 = i
    · subst h1
      rw [List.getElem?_set] at ho
      split at ho
      · split at ho <;> cases ho
      · exact absurd rfl ‹_›
    · rw [List.getElem?_set_ne h1] at ho
      by_cases h0 : 0 = i
      · subst h0
        rw [List.getElem?_set] at ho
        split at ho
        · split at ho <;> cases ho
        · exact absurd rfl ‹_›
      · rw [List.getElem?_set_ne h0, List.getElem?_replicate] at ho
        split at ho <;> cases ho
  · obtain ⟨s', hs'⟩ := hmath ns hlen hbits
    rw [hs']
    intro G2 H2 m2 v _ _ rv
    simp only [Rep] at rv
    subst rv
    exact hQ H2
end Dm
namespace Dm
open PySem L2 PySem.Spec PyProof.Rows LamX
/-! ### a list told is changed behind: found = _law_word(lambda: ..); if c: ..; if found[0] == '': found[1].append(()) -/
theorem dl_fam {S ι : Type} {Γ : Pm} {w : Wo S} {W : WX} {Xc : ι → Cx} {K : PySem.W.Frag} {e : Expr} {f : En → S → R S (List D)} (hK : ∀ i, (Xc i).K = K) (h : ∀ i, DL Γ w W (Xc i) e f) : ∃ t, (∀ i, PE (Xc i) e t) ∧ EvL K Γ w W t f := by
  have ht : ∃ t : ι → TE, (∀ i, PE (Xc i) e (t i)) ∧ ∀ i, EvL (Xc i).K Γ w W (t i) f := ⟨fun i => Classical.choose (h i).ex, fun i => (Classical.choose_spec (h i).ex).1, fun i => (Classical.choose_spec (h i).ex).2⟩
  obtain ⟨t, h1, h2⟩ := ht
  refine ⟨fun σ H Q => ∀ i, t i σ H Q, fun i => ⟨fun pins s σ H Q I q => (h1 i).run pins s σ H Q I (q i)⟩, fun η s σ G H m Q h3 p e' hp i => ?_⟩
  have e := h2 i
  rw [hK i] at e
  exact e η s σ G H m Q h3 p e' hp
def PostT (K : PySem.W.Frag) (Γ : Pm) (w : Wo RS) (W : WX) (σ : L2.St) (G H : Hp) (m : Addr → Prop) (r : R RS (List D ⊕ D)) (Q : VK) : Prop := match r with
  | .ok (.inl xs) s' => ∀ G' H' m' t q vs (oo : Obj), Ext G H m G' H' m' → w.P s' G' H' m' → H t = none → H q = none → t ≠ q → G' t = none → G' q = none → ¬ m' t → ¬ m' q → oo.dict = none → H' t = some (.frz oo (.tup [.str (tx []), .ref q])) → H' q = some (.lst vs) → RepL K Γ G' xs vs → Q (.ref t) H'
  | .ok (.inr d) s' => ∀ G' H' m' v, Ext G H m G' H' m' → w.P s' G' H' m' → Rep K Γ G' d v → Q v H'
  | .er e s' => ∀ G' H' m' cls dx, Ext G H m G' H' m' → w.P s' G' H' m' → ErrAt Γ e cls dx H' → W cls dx σ H'
  | .no => False
open Classical in
noncomputable def fWordL (n iE : Nat) (gs : Sn → Err → SR Err) (fb : En → RS → R RS (List D)) : En → RS → R RS (List D ⊕ D) := fun η s => match fb η s with
  | .ok xs s' => .ok (.inl xs) s'
  | .er e s' => match gs (εE n iE) e with
    | .rt d e' => if e' = e ∧ e.k ≠ .say ∧ noNm d = true then .ok (.inr d) s' else .no
    | _ => .no
  | .no => .no
structure DT (Γ : Pm) (w : Wo RS) (W : WX) (X : Cx) (e : Expr) (f : En → RS → R RS (List D ⊕ D)) : Prop where
  ex : ∃ t, PE X e t ∧ ∀ (η : En) (s : RS) (σ : L2.St) (G H : Hp) (m : Addr → Prop) (Q : VK), St3 G H m → w.P s G H m → RepE X.K Γ G σ η → PostT X.K Γ w W σ G H m (f η s) Q → t σ H Q
section
variable {X : Cx} {Γ : Pm} {T : List (Addr × Str)} {W : WX} {Ng : List Str} {st : Stmt} {gs : Sn → Err → SR Err} {iE n k : Nat} {params : Arguments} {body : Expr} {scope : Scope} {p lpos pos : Pos} {fb : En → RS → R RS (List D)} {c P : Addr} {K : PySem.W.Frag}
theorem dt_lam (hK : X.K = K) (dW : DefAt X.K X.mg "_law_word" st ["_law_work"]) (Sg : FnScope Ng ["_law_work"] (defScope st)) (hNg : Ng[0]? = some ("_law_work" : Str)) (hva : Vis (defScope st) "_law_work")
    (hG : ∀ (g : Addr) (cdv : Value), Room (k + 1) X.A → GivesTo X Ng "_law_word" (defScope st) g cdv (defBody st) "_law_work" (X.env.qual ++ "<lambda>") (TW X.K Γ.ca n iE gs))
    (TB : TabB X.base X.mg c P) (hcode : X.env.code = .ref c) {q0 : Str} (hq : X.env.qual = q0) (hmT : (P, q0 ++ "<lambda>") ∈ T) (hu : ∀ p ∈ T, p.1 = P → p.2 = q0 ++ "<lambda>") (hr : Room (k + 2) X.A) (hg : Gl X "_law_word") (L : LamS X.env.scope scope) (hdef : defaultsOf params X.env = ([], []))
    (hbind : ∀ (q : Str) (cl : List (Str × Addr)) (pm cv ctv : Value), bindArgs (PySem.W.kla_fn "<lambda>" q params body scope cl pm cv ctv) ⟨[], []⟩ = pure [])
    (hbody : ∀ (A : Around) (outer : List Env) (s : Shared) (H : Hp) (E : XK) (f c' : Addr), Room k (A.deeper (lamEnv X scope s.heap.objs.size f c')) → DL Γ (rowT K T Γ) (fun c d _ H' => E c d H') (lamCx X A outer s H E scope f c') body fb) :
    DT Γ (rowT K T Γ) W X (.Call (.Name "_law_word" p) [.Lambda params body scope lpos] [] pos) (fWordL n iE gs fb) := by
  subst hK
  subst hq
  have fam : ∀ E : XK, ∃ t : TE, (∀ (A : Around) (outer : List Env) (s : Shared) (H : Hp) (f c' : Addr), Room k (A.deeper (lamEnv X scope s.heap.objs.size f c')) → PE (lamCx X A outer s H E scope f c') body t) ∧ EvL X.K Γ (rowT X.K T Γ) (fun c d _ H' => E c d H') t fb := fun E => by
    obtain ⟨t, e1, e2⟩ := dl_fam (ι := { i : Around × List Env × Shared × Hp × Addr × Addr // Room k (i.1.deeper (lamEnv X scope i.2.2.1.heap.objs.size i.2.2.2.2.1 i.2.2.2.2.2)) }) (K := X.K)
      (Xc := fun i => lamCx X i.1.1 i.1.2.1 i.1.2.2.1 i.1.2.2.2.1 E scope i.1.2.2.2.2.1 i.1.2.2.2.2.2) (fun _ => rfl) fun i => hbody _ _ _ _ E _ _ i.2
    exact ⟨t, fun A outer s H f c' hr => e1 ⟨(A, outer, s, H, f, c'), hr⟩, e2⟩
  have ht : ∃ t : XK → TE, (∀ (A : Around) (outer : List Env) (s : Shared) (H : Hp) (E : XK) (f c' : Addr), Room k (A.deeper (lamEnv X scope s.heap.objs.size f c')) → PE (lamCx X A outer s H E scope f c') body (t E)) ∧ ∀ E, EvL X.K Γ (rowT X.K T Γ) (fun c d _ H' => E c d H') (t E) fb :=
    ⟨fun E => Classical.choose (fam E), fun A outer s H E f c' hr => (Classical.choose_spec (fam E)).1 A outer s H f c' hr, fun E => (Classical.choose_spec (fam E)).2⟩
  obtain ⟨t, hp', hev⟩ := ht
  obtain ⟨g, fd, FF, bb, gg⟩ := dW
  obtain ⟨⟨oc, od, kV, doc, pm, an, cdv, ct, osl, rfl, lk, hcd⟩, kp⟩ := FF
  refine ⟨_, LamD.pe_lamP hg gg kp lk hcd bb Sg hNg hva (hG g cdv) TB hcode hmT hu hr L hdef hbind hp' (by decide +kernel) (by decide +kernel) (by decide +kernel), fun η s σ G H m Q h3 pp e hp => ⟨pp.2.2.2, fun H1 hM hT1 L0 hL Ec Qc hE hV => ?_⟩⟩
  obtain ⟨m1, x1, p1⟩ := lam_ext h3 pp hM hT1
  have x2 := x1.newO (o := .lst []) hL
  have p2 : (rowT X.K T Γ).P s G (upd H1 L0 (.lst [])) m1 := (rowT X.K T Γ).stay p1 (Sub.refl _) fun y o hy ey => by
    rw [upd_ne (ne_of_none ey hL)]
    exact ey
  have nm : ¬ m1 L0 := fun z => x1.own L0 z hL
  have hL0 : H L0 = none := there_none x1 hL
  have gL : G L0 = none := by
    cases z : G L0 with
    | none => rfl
    | some o => have := h3.sub L0 o z; rw [hL0] at this; cases this
  have lN : upd H1 L0 (.lst []) L0 ≠ none := by rw [upd_same]; exact fun z => nomatch z
  refine hev Ec η s σ G (upd H1 L0 (.lst [])) m1 Qc x2.toSt3 p2 e ?_
  unfold fWordL at hp
  cases q : fb η s with
  | no => rw [q] at hp; exact hp
  | ok xs s' =>
    rw [q] at hp
    intro G' H' m' a vs x p' ha0 hga hma ha r'
    refine hV _ H' ⟨x.keep L0 _ nm upd_same, fun tt oo htt hoo => ?_⟩
    have gL' := x.addr_g lN gL
    have nL' := x.addr_m lN nm
    have xx := x2.trans x
    have aL : a ≠ L0 := fun z => by rw [z, upd_same] at ha0; cases ha0
    have ta : tt ≠ a := fun z => by rw [z, upd_ne aL, ha] at htt; cases htt
    have xm := xx.mut (o := .lst [.ref a]) hL0 gL' nL'
    have xn := xm.newO (o := .frz oo (.tup [.str (tx []), .ref a])) htt
    have gt : G' tt = none := by
      cases z : G' tt with
      | none => rfl
      | some o => have := xm.sub tt o z; rw [htt] at this; cases this
    refine hp G' _ m' tt a vs oo xn ((rowT X.K T Γ).stay ((rowT X.K T Γ).stay (H' := upd H' L0 (.lst [.ref a])) p' (Sub.refl _) fun y o hy ey => ?_) (Sub.refl _) fun y o hy ey => ?_) (there_none xm htt) (there_none x2 ha0) ta gt hga (fun z => xm.own tt z htt) hma hoo upd_same ?_ r'
    · rw [upd_ne fun z => nL' (by rw [← z]; exact hy)]
      exact ey
    · rw [upd_ne (ne_of_none ey htt)]
      exact ey
    · rw [upd_ne ta.symm, upd_ne aL]
      exact ha
  | er e1 s' =>
    rw [q] at hp
    simp only at hp
    intro G' H' m' cls dx x p' he
    cases hg' : gs (εE n iE) e1 with
    | rt d e' =>
      rw [hg'] at hp
      simp only at hp
      split at hp
      · rename_i hc
        obtain ⟨rfl, hk, hn⟩ := hc
        refine hE cls dx H' ⟨e', d, hk, he, hg', fun G3 H3 rho v kp' nt' new' sub' rep' => ?_⟩
        obtain ⟨xj, s3, s1⟩ := ext_join (x2.trans x) kp' nt' new' sub'
        exact hp _ H3 m' v xj ((rowT X.K T Γ).stay p' s1 (fun y o _ ey => kp' y o ey) nt') ((rep'.mono s3).rho hn)
      · exact hp.elim
    | _ => rw [hg'] at hp; exact hp.elim
end
def noOw (ε : Sn) : Bool := ε.all fun o => match o with
  | some (.ow _) => false
  | _ => true
theorem noOw_at {ε : Sn} (h : noOw ε = true) {i : Nat} {o : Ow} (e : ε[i]? = some (some (.ow o))) : False := by
  unfold noOw at h
  rw [List.all_eq_true] at h
  exact Bool.noConfusion (h _ (List.mem_of_getElem? e))
/-- the three statements -/
def sTold (i : Nat) (f : En → RS → R RS (List D ⊕ D)) (gc : En → RS → R RS Bool) (g2 : Sn → RS → SR RS) : Sn → RS → SR RS := fun ε s => if noOw ε = true ∧ i < ε.length then match f (hide ε) s with
  | .ok (.inl xs) s1 => match gc (hide (ε.set i (some (.d (.tup [.str [], .lst xs]))))) s1 with
    | .ok true s2 => match g2 (ε.set i (some (.d (.tup [.str [], .lst xs])))) s2 with
      | .rt d s3 => .rt d s3
      | _ => .no
    | .ok false s2 => if xs.length < sizeLine ∧ s2.sc = s.sc then .nx (ε.set i none) s2 else .no
    | _ => .no
  | .ok (.inr d) s1 => match d with
    | .tup (.str l :: ds) => if l = [] ∨ ¬ l.all (· < 0x110000) = true then .no else match gc (hide (ε.set i (some (.d d)))) s1 with
      | .ok true s2 => match g2 (ε.set i (some (.d d))) s2 with
        | .rt d s3 => .rt d s3
        | _ => .no
      | .ok false s2 => .nx (ε.set i (some (.d d))) s2
      | _ => .no
    | _ => .no
  | _ => .no
  else .no
theorem hide_at {ε : Sn} {i : Nat} {d : D} (hi : i < ε.length) : (hide (ε.set i (some (.d d))))[i]? = some (some d) := by
  unfold hide
  rw [List.getElem?_map, List.getElem?_set_self hi]
  rfl
theorem sub_back {K : PySem.W.Frag} {Γ : Pm} {T : List (Addr × Str)} {s s3 : RS} {G H G3 H3 : Hp} {m m3 : Addr → Prop} {q a : Addr} {vs ws : List V} (h3 : St3 G H m) (p : (rowT K T Γ).P s G H m) (x : Ext G H m G3 H3 m3) (p3 : (rowT K T Γ).P s3 G3 H3 m3) (hq : H q = none) (hq3 : H3 q = some (.lst vs)) (nq : ¬ m3 q) (ha : H3 a = none) (hsc : s3.sc = s.sc) :
    Ext G H m G (upd (upd H3 a (.tup [])) q (.lst ws)) m3 ∧ (rowT K T Γ).P s3 G (upd (upd H3 a (.tup [])) q (.lst ws)) m3 := by
  have oth : ∀ b, b ≠ q → b ≠ a → upd (upd H3 a (.tup [])) q (.lst ws) b = H3 b := fun b h1 h2 => by rw [upd_ne h1, upd_ne h2]
  have nqa : q ≠ a := ne_of_none hq3 ha
  have atq : upd (upd H3 a (.tup [])) q (.lst ws) q = some (.lst ws) := upd_same
  have ata : upd (upd H3 a (.tup [])) q (.lst ws) a = some (.tup []) := by rw [upd_ne nqa.symm, upd_same]
  have nt : NTabs H3 (upd (upd H3 a (.tup [])) q (.lst ws)) := fun b o t e => nt_upd (H := H3) (q := a) (o := .tup []) rfl b o t (nt_upd (q := q) (o := .lst ws) rfl b o t e)
  have stay3 : ∀ b o, m3 b → H3 b = some o → upd (upd H3 a (.tup [])) q (.lst ws) b = some o := fun b o hb e => by
    rw [oth b (fun z => nq (by rw [← z]; exact hb)) (ne_of_none e ha)]
    exact e
  have q3 := (rowT K T Γ).stay p3 (Sub.refl _) stay3 nt
  refine ⟨⟨⟨fun b o e => ?_, fun b hb => ?_, fun b hb => ?_⟩, x.mm, fun b o nb t e => x.nt b o nb t (nt b o t e), Sub.refl _, fun b o nb e => ?_, fun b h1 h2 => absurd h2 h1, x.newM, fun b hb => ?_⟩, ⟨q3.1.row, by rw [hsc]; exact p.1.scr⟩, q3.2⟩
  · have e1 := h3.sub b o e
    have e3 := x.sub b o (x.gg b o e)
    rw [oth b (ne_of_none e1 hq) (ne_of_none e3 ha)]
    exact e3
  · cases z : G b with
    | none => rfl
    | some o => have := x.gg b o z; rw [x.dis b hb] at this; cases this
  · cases z : H3 b with
    | none => exact absurd z (x.own b hb)
    | some o => rw [stay3 b o hb z]; exact fun q => nomatch q
  · have e3 := x.keep b o nb e
    rw [oth b (ne_of_none e hq) (ne_of_none e3 ha)]
    exact e3
  · cases z : H3 b with
    | none => exact absurd z (x.there b hb)
    | some o =>
      by_cases h1 : b = q
      · rw [h1, atq]; exact fun q => nomatch q
      · by_cases h2 : b = a
        · rw [h2, ata]; exact fun q => nomatch q
        · rw [oth b h1 h2, z]; exact fun q => nomatch q
theorem atI_zero {α : Type} {x : α} {xs : List α} : L2.atI (x :: xs) 0 = some x := by
  unfold L2.atI L2.ixN
  simp
abbrev f3T {S : Type} (i : Nat) : En → S → R S Bool := asB (f2 (gEq id) (f2 gIx (fVar i) (fC (.int 0))) (fC (.str [])))
theorem f3T_true {S : Type} {i : Nat} {η : En} {s : S} {xs : List D} (h : η[i]? = some (some (.tup [.str [], .lst xs]))) : f3T i η s = .ok true s := by
  have e : fVar i η s = (.ok (.tup [.str [], .lst xs]) s : R S D) := by unfold fVar; rw [h]
  unfold f3T asB f2
  rw [e]
  rfl
theorem f3T_false {S : Type} {i : Nat} {η : En} {s : S} {l : List Nat} {ds : List D} (h : η[i]? = some (some (.tup (.str l :: ds)))) (hl : ¬ l = []) (hk : l.all (· < 0x110000) = true) : f3T i η s = .ok false s := by
  have e : fVar i η s = (.ok (.tup (.str l :: ds)) s : R S D) := by unfold fVar; rw [h]
  have e1 : L2.atI (D.str l :: ds) 0 = some (.str l) := atI_zero
  unfold f3T asB f2
  rw [e]
  simp only [R.bind, fC, gIx, e1, gEq]
  have e2 : okE (.str l) = true := by
    unfold okE
    rw [show okD (.str l) = true by simp only [okD]; exact hk]
    rfl
  rw [if_pos ⟨e2, rfl⟩]
  have e3 : eqD (.str l) (.str []) = false := by simp only [eqD]; exact decide_eq_false hl
  rw [e3]
  rfl
section
variable {K : PySem.W.Frag} {Γ : Pm} {T : List (Addr × Str)} {W : WX} {X : Cx} {e1 c2 : Expr} {body2 : List Stmt} {f : En → RS → R RS (List D ⊕ D)} {gc : En → RS → R RS Bool} {g2 : Sn → RS → SR RS} {x : Str}
theorem dss_told (i : Nat) {p1 p2 p3 p4 p5 p6 p7 p8 p9 p10 p11 p12 p13 p14 p15 p16 : Pos} {j1 j2 j3 j4 : Nat} (hK : X.K = K) (hN : X.N.Nodup) (hi : X.N[i]? = some x) (hx : Loc X.env.scope x) (hv : Vis X.env.scope x) (hd : (x == ("__debug__" : Str)) = false) (hcd : (x == ("__classdict__" : Str)) = false)
    (he : DT Γ (rowT K T Γ) W X e1 f) (hc : DB Γ (rowT K T Γ) W X c2 gc) (hb : DSs Γ (rowT K T Γ) W X body2 g2)
    (h3 : DB Γ (rowT K T Γ) W X (.Compare (.Subscript (.Name x p5) (.Constant (.int 0) j1 p6) p7) [.Eq] [.Constant (.str "") j2 p8] p9) (f3T i))
    (hline : (p13.endLine == p15.line) = true) (hs : swapsWith e1 (some (.Name x p1)) p2.line X.env = pure false := by rfl)
    (hf : X.fn x = true ∨ X.env.scope.names.lookup x = some .local := by first | exact .inl rfl | exact .inr rfl | assumption) :
    DSs Γ (rowT K T Γ) W X [.Assign [.Name x p1] e1 p2, .If c2 body2 [] p3, .If (.Compare (.Subscript (.Name x p5) (.Constant (.int 0) j1 p6) p7) [.Eq] [.Constant (.str "") j2 p8] p9)
      [.Expr (.Call (.Attribute (.Subscript (.Name x p10) (.Constant (.int 1) j3 p11) p12) "append" p13) [.Tuple [] j4 p14] [] p15) p16] [] p4] (sTold i f gc g2) := by
  subst hK
  obtain ⟨te, he, ev⟩ := he
  obtain ⟨tc, hc, ec⟩ := hc
  obtain ⟨tb, hb, eb⟩ := hb
  obtain ⟨t3, h3', e3⟩ := h3
  refine ⟨_, pss_cons (ps_set hN hi hx he hs hf) (pss_cons (ps_if hc hb pss_nil) (pss_one (ps_if h3' (pss_one (ps_expr (pos := p16) (pe_bm (apos := p13) (cpos := p15) PySem.F.plainAttrs_list PySem.F.slot_list_append PySem.F.type_list_append mt_append
      (pe_ix ix_seq (pe_var (pos := p10) (i := i) hi hv hd hcd) pe_int (fun _ _ => rfl)) (pa_cons (pe_tup pa_nil) pa_nil (by rfl)) (by rfl) (by rfl) hline (by rfl) (by rfl)) (by rfl))) pss_nil))), fun ε s σ G0 H0 m0 G H m D x p r hp => ?_⟩
  unfold sTold at hp
  split at hp
  · rename_i hno'
    obtain ⟨hno, hil⟩ := hno'
    cases q1 : f (hide ε) s with
    | no => rw [q1] at hp; exact hp.elim
    | er e s1 => rw [q1] at hp; exact hp.elim
    | ok v s1 =>
      rw [q1] at hp
      refine ev (hide ε) s σ G H m _ x.toSt3 p r.hide ?_
      rw [q1]
      cases v with
      | inl xs =>
        simp only at hp
        intro G1 H1 m1 t q vs oo x1 p1 ht0 hq0 htq hgt hgq hmt hmq hoo ht hq rl
        have xb := x1.freeze hq0 hq hgq hmq
        have hgt' : upd G1 q (.lst vs) t = none := by rw [upd_ne htq]; exact hgt
        have xc := xb.freeze ht0 ht hgt' hmt
        have sq := upd_sub (o := .lst vs) hgq
        have st := upd_sub (o := .frz oo (.tup [.str (tx []), .ref q])) hgt'
        have pc : (rowT X.K T Γ).P s1 (upd (upd G1 q (.lst vs)) t (.frz oo (.tup [.str (tx []), .ref q]))) H1 m1 := (rowT X.K T Γ).stay p1 (sq.trans st) fun _ _ _ e => e
        have rt : Rep X.K Γ (upd (upd G1 q (.lst vs)) t (.frz oo (.tup [.str (tx []), .ref q]))) (.tup [.str [], .lst xs]) (.ref t) := by
          simp only [Rep]
          refine ⟨t, _, rfl, SqP.of upd_same hoo, RepL.cons (by simp only [Rep]) (RepL.cons ?_ RepL.nil)⟩
          simp only [Rep]
          exact ⟨q, vs, rfl, by rw [upd_ne htq.symm, upd_same], (rl.mono sq).mono st⟩
        have gt : upd (upd G1 q (.lst vs)) t (.frz oo (.tup [.str (tx []), .ref q])) t = some (.frz oo (.tup [.str (tx []), .ref q])) := upd_same
        have gq : upd (upd G1 q (.lst vs)) t (.frz oo (.tup [.str (tx []), .ref q])) q = some (.lst vs) := by rw [upd_ne htq.symm, upd_same]
        generalize upd (upd G1 q (.lst vs)) t (.frz oo (.tup [.str (tx []), .ref q])) = G2 at xc pc rt gt gq
        have r2 := (r.mono xc).setD i rt
        have hl : i < ε.length := hil
        have σi : (σ.set i (some (.ref t)))[i]? = some (some (V.ref t)) := List.getElem?_set_self (by rw [r.len]; exact hl)
        refine ec _ s1 (σ.set i (some (.ref t))) G2 H1 m1 _ xc.toSt3 pc r2.hide ?_
        cases q2 : gc (hide (ε.set i (some (.d (.tup [.str [], .lst xs]))))) s1 with
        | no => rw [q2] at hp; exact hp.elim
        | er e s2 => rw [q2] at hp; exact hp.elim
        | ok b s2 =>
          rw [q2] at hp
          intro G3 H2 m2 b' x3 p3 hbb
          subst hbb
          have x03 := (x.trans xc).trans x3
          cases b with
          | true =>
            rw [if_pos rfl]
            refine eb _ s2 (σ.set i (some (.ref t))) G0 H0 m0 G3 H2 m2 _ x03 p3 (r2.mono x3) ?_
            simp only at hp
            cases q3 : g2 (ε.set i (some (.d (.tup [.str [], .lst xs])))) s2 with
            | rt d s3 => rw [q3] at hp; exact hp
            | _ => rw [q3] at hp; exact hp.elim
          | false =>
            rw [if_neg Bool.false_ne_true]
            simp only at hp
            split at hp
            · rename_i hz
              refine e3 _ s2 (σ.set i (some (.ref t))) G3 H2 m2 _ x3.toSt3 p3 (r2.mono x3).hide ?_
              rw [f3T_true (hide_at hl)]
              intro G4 H3 m3 b' x4 p4 hbb
              subst hbb
              rw [if_pos rfl]
              have x34 := x3.trans x4
              have t4 : H3 t = some (.frz oo (.tup [.str (tx []), .ref q])) := x4.sub _ _ (x34.gg _ _ gt)
              have q4 : H3 q = some (.lst vs) := x4.sub _ _ (x34.gg _ _ gq)
              have nq : ¬ m3 q := x34.addr_m (ne_some hq) hmq
              refine ⟨_, σi, .inr (.inl ⟨t, _, 1, .ref q, rfl, rfl, (SqP.of (K := X.K) t4 hoo).t, rfl, .inl ⟨rfl, vs, SqL.of q4⟩, by show 0 ≤ sizeLine; decide, fun a ha => ?_⟩)⟩
              have qa : q ≠ a := ne_of_none q4 ha
              refine ⟨q, vs, .ref a, rfl, rfl, by rw [upd_ne qa]; exact q4, by rw [rl.length]; exact hz.1, ?_⟩
              obtain ⟨xf, pf⟩ := sub_back (ws := vs ++ [.ref a]) x.toSt3 p (xc.trans x34) p4 hq0 q4 nq ha hz.2
              have rf := r.mono xf
              refine hp G _ m3 _ (x.trans xf) pf ⟨by rw [List.length_set, List.length_set]; exact r.len, fun j d hj => ?_, fun _ => 0, fun j o ho => ?_, fun j j' o o' ho _ _ => ?_⟩
              · by_cases hji : i = j
                · subst hji
                  rw [List.getElem?_set_self hl] at hj
                  cases hj
                · rw [List.getElem?_set_ne hji] at hj ⊢
                  exact r.dat j d hj
              · exfalso
                by_cases hji : i = j
                · subst hji
                  rw [List.getElem?_set_self hl] at ho
                  cases ho
                · rw [List.getElem?_set_ne hji] at ho
                  exact noOw_at hno ho
              · exfalso
                by_cases hji : i = j
                · subst hji
                  rw [List.getElem?_set_self hl] at ho
                  cases ho
                · rw [List.getElem?_set_ne hji] at ho
                  exact noOw_at hno ho
            · exact hp.elim
      | inr d =>
        simp only at hp
        intro G1 H1 m1 v x1 p1 r1
        split at hp
        · rename_i l ds
          split at hp
          · exact hp.elim
          · rename_i hz
            have hz1 : ¬ l = [] := fun z => hz (.inl z)
            have hz2 : l.all (· < 0x110000) = true := Classical.byContradiction fun z => hz (.inr z)
            have r2 := (r.mono x1).setD i r1
            have hl : i < ε.length := hil
            refine ec _ s1 (σ.set i (some v)) G1 H1 m1 _ x1.toSt3 p1 r2.hide ?_
            cases q2 : gc (hide (ε.set i (some (.d (.tup (.str l :: ds)))))) s1 with
            | no => rw [q2] at hp; exact hp.elim
            | er e s2 => rw [q2] at hp; exact hp.elim
            | ok b s2 =>
              rw [q2] at hp
              intro G3 H2 m2 b' x3 p3 hbb
              subst hbb
              have x03 := (x.trans x1).trans x3
              cases b with
              | true =>
                rw [if_pos rfl]
                refine eb _ s2 (σ.set i (some v)) G0 H0 m0 G3 H2 m2 _ x03 p3 (r2.mono x3) ?_
                simp only at hp
                cases q3 : g2 (ε.set i (some (.d (.tup (.str l :: ds))))) s2 with
                | rt d s3 => rw [q3] at hp; exact hp
                | _ => rw [q3] at hp; exact hp.elim
              | false =>
                rw [if_neg Bool.false_ne_true]
                simp only at hp
                refine e3 _ s2 (σ.set i (some v)) G3 H2 m2 _ x3.toSt3 p3 (r2.mono x3).hide ?_
                rw [f3T_false (hide_at hl) hz1 hz2]
                intro G4 H3 m3 b' x4 p4 hbb
                subst hbb
                rw [if_neg Bool.false_ne_true]
                exact hp G4 H3 m3 _ (x03.trans x4) p4 ((r2.mono x3).mono x4)
        · exact hp.elim
  · exact hp.elim
end
end Dm
/-! The facts of the head about the errors' classes, as one look. -/
namespace Dm
open PySem L2 PySem.Spec PyProof.Rows
/-- how a script is mixed -/
def mixL (ns : List Int) : Int := ns.foldl (fun m c => (m * 48271 + c + 11) % 2147483647) 7
def ecOk (K : PySem.W.Frag) (C : Addr) : Bool := (PySem.W.clsIn K C).isSome && (PySem.W.findIn K (.ref C) "__getattribute__" == some (some (.builtin "BaseException.__getattribute__")) && (PySem.W.findIn K (.ref C) "__getattr__" == some none &&
  (PySem.W.subIn K (.ref C) (.type "BaseException") == some true && (PySem.W.findIn K (.ref C) "__class__" == some (some (.builtin "object.__class__")) && (PySem.W.mroIn K C (.type "object") == some true && PySem.W.hasDictIn K C)))))
theorem ecOk_of {K : PySem.W.Frag} {C : Addr} (h : ecOk K C = true) : EcC K C := by
  unfold ecOk at h
  simp only [Bool.and_eq_true, beq_iff_eq] at h
  exact ⟨h.1, h.2.1, h.2.2.1, h.2.2.2.1, h.2.2.2.2.1, h.2.2.2.2.2.1, h.2.2.2.2.2.2⟩
def egOk (K : PySem.W.Frag) : Bool := PySem.W.specialIn K (.builtin "object.__class__") "__get__" == some (some (.builtin "getset_descriptor.__get__")) && PySem.W.takesIn K (.builtin "object.__class__") == some true
theorem egOk_of {K : PySem.W.Frag} (h : egOk K = true) : EcG K := by
  unfold egOk at h
  simp only [Bool.and_eq_true, beq_iff_eq] at h
  exact ⟨h.1, h.2⟩
def ekI : EK → Nat
  | .book => 0 | .word => 1 | .sounds => 2 | .count => 3 | .unsaid => 4 | .letter => 5 | .exception => 6 | .others => 7 | .samples => 8 | .deed => 9 | .halted => 10 | .text => 11 | .say => 12
def ekF : List (Nat × Str) := [(0, "part"), (0, "number"), (4, "place"), (8, "number"), (9, "number"), (10, "number"), (10, "done"), (11, "row")]
def errOk (K : PySem.W.Frag) (cs : List Addr) (CS : Addr) : Bool := cs.length == 12 && (cs.all (ecOk K) && (egOk K && ((List.range 12).all (fun i => (List.range 12).all fun j => PySem.W.kitOne K (.ref (cs.getD i 0)) (.ref (cs.getD j 0)) == some (i == j)) &&
  (cs.all (fun C => PySem.W.kitOne K (.ref C) (.type "ValueError") == some true) && (cs.all (fun C => PySem.W.exmOne K (.ref C) (.ref CS) == some true) && ekF.all fun p => PySem.W.findIn K (.ref (cs.getD p.1 0)) p.2 == some none)))))
theorem errOk_of {K : PySem.W.Frag} {cs : List Addr} {CS : Addr} {ca : EK → Addr} (h : errOk K cs CS = true) (hc : ∀ k, k ≠ .say → ca k = cs.getD (ekI k) 0) : ErrF K ca CS := by
  unfold errOk at h
  simp only [Bool.and_eq_true, List.all_eq_true, beq_iff_eq, List.mem_range] at h
  obtain ⟨h0, h1, h2, h3, h4, h5, h6⟩ := h
  have lt : ∀ k, k ≠ EK.say → ekI k < 12 := by intro k hk; cases k <;> first | decide | exact absurd rfl hk
  have mem : ∀ k, k ≠ EK.say → ca k ∈ cs := fun k hk => by
    rw [hc k hk]
    have := lt k hk
    rw [List.getD_eq_getElem?_getD, List.getElem?_eq_getElem (by omega)]
    exact List.getElem_mem _
  refine ⟨fun k hk => ecOk_of (h1 _ (mem k hk)), egOk_of h2, fun k k' hk hk' => ?_, fun k hk => h4 _ (mem k hk), fun k hk => h5 _ (mem k hk), fun k f hf => ?_⟩
  · rw [hc k hk, hc k' hk', h3 _ (lt k hk) _ (lt k' hk')]
    congr 1
    cases k <;> cases k' <;> rfl
  · have go : ∀ k f, okF k f = true → k ≠ .say ∧ (ekI k, f) ∈ ekF := by
      intro k f hf
      cases k <;> simp only [okF, Bool.or_eq_true, beq_iff_eq] at hf <;> first | cases hf; done | skip
      all_goals first | (rcases hf with rfl | rfl <;> exact ⟨by decide, by decide⟩) | (subst hf; exact ⟨by decide, by decide⟩)
    obtain ⟨a, b⟩ := go k f hf
    rw [hc k a]
    exact h6 _ b
end Dm
/-! Dicts with texts as keys, as data: made of pairs, read, walked. -/
namespace L2
open PySem PySem.Spec PyProof.Rows
theorem skolem_list {α β : Type} (R : α → β → Prop) : ∀ l : List α, (∀ x ∈ l, ∃ y, R x y) → ∃ ys : List β, ys.length = l.length ∧ ∀ (j : Nat) (x : α), l[j]? = some x → ∃ y, ys[j]? = some y ∧ R x y
  | [], _ => ⟨[], rfl, fun j x h => by simp at h⟩
  | x :: l, h => by
    obtain ⟨y, hy⟩ := h x List.mem_cons_self
    obtain ⟨ys, h1, h2⟩ := skolem_list R l fun z hz => h z (List.mem_cons_of_mem _ hz)
    refine ⟨y :: ys, by simp [h1], fun j z hj => ?_⟩
    cases j with
    | zero => cases hj; exact ⟨y, rfl, hy⟩
    | succ j => simpa using h2 j z (by simpa using hj)
/-- dict(t) of a tuple of pairs; the object is told -/
theorem call_dictF {X : Cx} (hcalm : X.calm = true) : CallR X (.type "dict") (fun xs H Q => ∃ (a : Addr) (ps : List Addr) (kvs : List (Key × V)), xs = [.ref a] ∧ Dm.SqP X.K H a (ps.map V.ref) ∧ Paired (fun p kv => SqT X.K H p [kV kv.1, kv.2]) ps kvs ∧
    ∀ (p : Addr) (o : Obj), H p = none → Q (.ref p) (upd H p (.frz o (.dK (mergeK [] kvs))))) := by
  intro pins s σ H xs us Q I r q
  obtain ⟨a, ps, kvs, rfl, hq, hp, q⟩ := q
  obtain ⟨u, rfl, rx⟩ := vals1 r
  cases rx
  obtain ⟨its, rv, ⟨o, ho, hc, n, hdat⟩, hz⟩ := I.tuple hq.t
  have hd : o.dict = none := by
    rcases hq with ⟨o', e, e2⟩ | ⟨o', _, _, e, _, e2, _⟩
    · have z := (I.hok a _ e).1
      rw [ho] at z
      cases z
      exact e2
    · have z := I.kIn a o' e
      rw [ho] at z
      cases z
      exact e2
  have ei := refs_at rv
  subst ei
  rw [List.length_map] at hz
  obtain ⟨prs, rel, hl, hpr⟩ := pairs_of I hp
  -- the keys' own values
  obtain ⟨us, u1, u2⟩ := skolem_list (fun (j : Nat) (u : Value) => ∀ q, prs[j]? = some q → ∃ b, ps[j]? = some b ∧ IsTup s.heap b #[u, q.2] ∧ keyIs q.1 u = true) (List.range prs.length) fun j hj => by
    rw [List.mem_range] at hj
    obtain ⟨b, u, e1, e2, e3⟩ := hpr j _ (List.getElem?_eq_getElem hj)
    exact ⟨u, fun q hq' => by rw [List.getElem?_eq_getElem hj] at hq'; cases hq'; exact ⟨b, e1, e2, e3⟩⟩
  rw [List.length_range] at u1
  have key : ∀ (j : Nat) (q : Key × Value), prs[j]? = some q → ∃ (b : Addr) (u : Value), us[j]? = some u ∧ ps[j]? = some b ∧ IsTup s.heap b #[u, q.2] ∧ keyIs q.1 u = true := fun j q hj => by
    have hlt := (List.getElem?_eq_some_iff.mp hj).1
    obtain ⟨u, e1, e2⟩ := u2 j j (by rw [List.getElem?_range hlt])
    obtain ⟨b, e3, e4, e5⟩ := e2 q hj
    exact ⟨b, u, e1, e3, e4, e5⟩
  have lz : (us.zip (prs.map (·.2))).length = prs.length := by rw [List.length_zip, List.length_map, u1, Nat.min_self]
  have at_z : ∀ (j : Nat) (k v : Value), (us.zip (prs.map (·.2)))[j]? = some (k, v) → ∃ q, prs[j]? = some q ∧ q.2 = v ∧ us[j]? = some k := fun j k v e => by
    obtain ⟨e1, e2⟩ := List.getElem?_zip_eq_some.mp e
    rw [List.getElem?_map] at e2
    obtain ⟨q, h1, h2⟩ := Option.map_eq_some_iff.mp e2
    exact ⟨q, h1, h2, e1⟩
  refine PySem.call_dict_pairs (knd := mixKind X.prog X.w) (PairArg.tuple a ((ps.map Value.ref).toArray) (fun j => ps.getD j 0) (us.zip (prs.map (·.2)))) (kvs := prs) (I.ok.hd hcalm) ⟨⟨o, n, ho, hc, hd, hdat⟩, by rw [lz, hl]; simp, fun j k v e => ?_⟩ ⟨lz.symm, fun j k v e => ?_⟩ (by rw [lz, hl]; exact hz) fun h' tk hd' kp => ?_
  · obtain ⟨q', e1, e2, e3⟩ := at_z j k v e
    obtain ⟨b, u, f1, f2, f3, f4⟩ := key j q' e1
    rw [e3] at f1
    cases f1
    have hb : ps.getD j 0 = b := by rw [List.getD_eq_getElem?_getD, f2]; rfl
    dsimp only
    rw [hb, ← e2]
    exact ⟨by simp [f2], .inl f3⟩
  · obtain ⟨q', e1, e2, e3⟩ := at_z j k v e
    obtain ⟨b, u, f1, f2, f3, f4⟩ := key j q' e1
    rw [e3] at f1
    cases f1
    exact ⟨q'.1, by rw [e1, ← e2], f4⟩
  · have hm : (s.heap.objs.size == sysModules) = false := beq_eq_false_iff_ne.mpr (Nat.ne_of_gt I.big)
    have hlen : (mergeK [] kvs).length ≤ sizeLine := by
      refine Nat.le_trans (length_mergeK kvs []) ?_
      rw [List.length_nil, Nat.zero_add, rel.length, hl]
      exact hz
    obtain ⟨od, _, _, hod, _⟩ := id hd'
    exact ⟨.ref s.heap.objs.size, upd H s.heap.objs.size (.frz od (.dK (mergeK [] kvs))), I.laid (t' := tk) (fun b ob e => kp b ob (fun z => by cases z) e) (Nat.le_refl _) ⟨hod, hlen, hm, merged [] prs, KV.merge rel .nil, hd'⟩, rfl, q _ od (I.hok.fresh (Nat.le_refl _))⟩
end L2
namespace Dm
open PySem L2
section
variable {K : PySem.W.Frag} {Γ : Pm} {G : Hp}
def dctOf (kvs : List (List Nat × D)) : D := .dct (kvs.map fun p => .str p.1) (kvs.map (·.2))
theorem RepKV.dct : ∀ {kvs : List (List Nat × D)} {es : List (Key × V)}, RepKV K Γ G kvs es → ∃ vs, es = ((kvs.map (·.1)).map fun k : List Nat => (Sum.inr ⟨k.toArray⟩ : Key)).zip vs ∧ kvs.length = vs.length ∧ RepL K Γ G (kvs.map (·.2)) vs
  | [], es, h => by simp only [RepKV] at h; subst h; exact ⟨[], rfl, rfl, RepL.nil⟩
  | p :: kvs, es, h => by
    simp only [RepKV] at h
    obtain ⟨v, es', rfl, r, h'⟩ := h
    obtain ⟨vs, rfl, e2, e3⟩ := RepKV.dct h'
    exact ⟨v :: vs, rfl, by simp [e2], RepL.cons r e3⟩
theorem rep_dct {kvs : List (List Nat × D)} {es : List (Key × V)} {a : Addr} {o : Obj} (h : RepKV K Γ G kvs es) (ha : G a = some (.frz o (.dK es))) : Rep K Γ G (dctOf kvs) (.ref a) := by
  obtain ⟨vs, rfl, e2, e3⟩ := h.dct
  unfold dctOf
  simp only [Rep]
  exact ⟨a, o, vs, kvs.map (·.1), rfl, by rw [List.map_map]; rfl, by rw [List.length_map]; exact e2, ha, e3⟩
/-- what a dict holds at a text -/
def lookK : List D → List D → List Nat → Option D
  | .str k :: ks, x :: xs, y => if k = y then some x else lookK ks xs y
  | _ :: ks, _ :: xs, y => lookK ks xs y
  | _, _, _ => none
theorem lookK_rep : ∀ {kk : List (List Nat)} {xs : List D} {vs : List V} (y : List Nat), kk.length = vs.length → RepL K Γ G xs vs →
    match lookK (kk.map D.str) xs y with
    | some d => ∃ v, valV ((kk.map fun k : List Nat => (Sum.inr ⟨k.toArray⟩ : Key)).zip vs) (Sum.inr (tx y)) = some v ∧ Rep K Γ G d v
    | none => valV ((kk.map fun k : List Nat => (Sum.inr ⟨k.toArray⟩ : Key)).zip vs) (Sum.inr (tx y)) = none
  | [], xs, vs, y, hl, r => by
    simp only [List.map_nil, lookK, List.zip_nil_left]
    exact valV_nil
  | k :: kk, xs, vs, y, hl, r => by
    cases vs with
    | nil => simp at hl
    | cons v vs =>
      cases xs with
      | nil => simp only [RepL] at r; cases r
      | cons x xs =>
        simp only [RepL] at r
        obtain ⟨v', vs', e, r1, r2⟩ := r
        cases e
        simp only [List.map_cons, lookK, List.zip_cons_cons]
        by_cases h : k = y
        · subst h
          rw [if_pos rfl]
          exact ⟨v, valV_pos rfl, r1⟩
        · rw [if_neg h]
          have hne : ¬ ((Sum.inr ⟨k.toArray⟩ : Key) = Sum.inr (tx y)) := fun z => h (key_iff.mp z)
          have := lookK_rep y (by simpa using hl) r2
          have e2 : valV (((Sum.inr ⟨k.toArray⟩ : Key), v) :: (kk.map fun k : List Nat => (Sum.inr ⟨k.toArray⟩ : Key)).zip vs) (Sum.inr (tx y)) = valV ((kk.map fun k : List Nat => (Sum.inr ⟨k.toArray⟩ : Key)).zip vs) (Sum.inr (tx y)) := by
            unfold valV
            rw [List.find?_cons_of_neg (by simpa using hne)]
          rw [e2]
          exact this
end
section
variable {S : Type} {Γ : Pm} {w : Wo S} {W : WX} {X : Cx} {pos : Pos} {a b : Expr} {fa fb : En → S → R S D}
/-- pairs of texts and values -/
def prsD : List D → Option (List (List Nat × D))
  | [] => some []
  | .tup [.str k, x] :: r => (prsD r).map ((k, x) :: ·)
  | _ :: _ => none
theorem prsD_rep {K : PySem.W.Frag} {G H : Hp} (hs : Sub G H) : ∀ {ds : List D} {vs : List V} {ps : List (List Nat × D)}, RepL K Γ G ds vs → prsD ds = some ps →
    ∃ (as : List Addr) (es : List (Key × V)), vs = as.map V.ref ∧ RepKV K Γ G ps es ∧ Paired (fun p kv => SqT K H p [kV kv.1, kv.2]) as es
  | [], vs, ps, h, e => by simp only [RepL] at h; simp only [prsD] at e; cases e; subst h; exact ⟨[], [], rfl, by simp only [RepKV], .nil⟩
  | d :: ds, vs, ps, h, e => by
    simp only [RepL] at h
    obtain ⟨v, vs', rfl, h1, h2⟩ := h
    unfold prsD at e
    split at e
    · cases ‹_ :: _ = []›
    · rename_i k x r heq
      cases heq
      cases q : prsD ds with
      | none => rw [q] at e; cases e
      | some ps' =>
        rw [q] at e
        cases e
        obtain ⟨as, es, rfl, k1, k2⟩ := prsD_rep hs h2 q
        simp only [Rep, RepL] at h1
        obtain ⟨t, ws, rfl, t1, v1, _, rfl, rfl, v2, _, rfl, r2, rfl⟩ := h1
        refine ⟨t :: as, (Sum.inr (tx k), v2) :: es, rfl, ?_, .cons (hs.seqT t1.t) k2⟩
        simp only [RepKV]
        exact ⟨v2, es, rfl, r2, k1⟩
    · cases e
theorem RepKV.merge {K : PySem.W.Frag} {G : Hp} : ∀ {more acc : List (List Nat × D)} {es fs : List (Key × V)}, RepKV K Γ G more es → RepKV K Γ G acc fs → RepKV K Γ G (more.foldl (fun acc p => putD acc p.1 p.2) acc) (mergeK fs es)
  | [], acc, es, fs, h, k => by simp only [RepKV] at h; subst h; exact k
  | p :: more, acc, es, fs, h, k => by
    simp only [RepKV] at h
    obtain ⟨v, es', rfl, r, h'⟩ := h
    show RepKV K Γ G (more.foldl (fun acc p => putD acc p.1 p.2) (putD acc p.1 p.2)) (mergeK (putK fs (Sum.inr (tx p.1)) v) es')
    exact RepKV.merge h' (RepKV.put r p.1 k)
def mergeD (ps : List (List Nat × D)) : List (List Nat × D) := ps.foldl (fun acc p => putD acc p.1 p.2) []
/-- dict(t) -/
def gDct : List D → S → R S D
  | [.tup xs], s => match prsD xs with
    | some ps => .ok (dctOf (mergeD ps)) s
    | none => .no
  | _, _ => .no
theorem cl_dct (hc : X.calm = true) : CallL Γ w W X (.type "dict") gDct := by
  refine ⟨_, call_dictF hc, fun ds vs s σ G H m Q h3 p r hp => ?_⟩
  unfold gDct at hp
  split at hp
  · split at hp
    · rename_i xs ps hps
      obtain ⟨v, rfl, r1⟩ := r.one
      simp only [Rep] at r1
      obtain ⟨a, ws, rfl, t, l⟩ := r1
      obtain ⟨as, es, rfl, k1, k2⟩ := prsD_rep h3.sub l hps
      refine ⟨a, as, es, rfl, h3.sub.seqP t, k2, fun q o hq => ?_⟩
      have x := (Ext.refl h3).new (o := .frz o (.dK (mergeK [] es))) hq
      refine hp _ _ _ _ x (w.stay p x.gg fun b u hb e => ?_) ?_
      · rw [upd_ne (ne_of_none e hq)]; exact e
      · exact rep_dct ((RepKV.merge k1 (by simp only [RepKV])).mono x.gg) upd_same
    · exact hp.elim
  · exact hp.elim
/-- d[k] -/
def gGet : D → D → S → R S D
  | .dct ks xs, .str y, s => match lookK ks xs y with
    | some d => .ok d s
    | none => .no
  | _, _, _ => .no
theorem de_dget (hu : X.A.units + 64 < cLine) (ha : DE Γ w W X a fa) (hb : DE Γ w W X b fb) (hs : NoSl b := by exact fun _ _ => rfl) : DE Γ w W X (.Subscript a b pos) (f2 gGet fa fb) := by
  obtain ⟨ta, ha, ea⟩ := ha
  obtain ⟨tb, hb, eb⟩ := hb
  refine ⟨_, pe_dget (Nat.lt_of_le_of_lt (Nat.add_le_add_left (by decide) _) hu) ha hb hs, fun η s σ G H m Q h3 p e hp => ea η s σ G H m _ h3 p e (hp.next fun d1 s1 G1 H1 m1 v1 x1 p1 r1 hp1 =>
    eb η s1 σ G1 H1 m1 _ x1.toSt3 p1 (e.mono x1.gg) (hp1.next fun d2 s2 G2 H2 m2 v2 x2 p2 r2 hp2 => ?_))⟩
  replace r1 := r1.mono x2.gg
  unfold gGet at hp2
  split at hp2
  · split at hp2
    · rename_i ks xs y _ d hd
      simp only [Rep] at r1 r2
      obtain ⟨q, o, vs, kk, rfl, rfl, e1, e2, l⟩ := r1
      have := lookK_rep (K := X.K) y e1 l
      rw [hd] at this
      obtain ⟨v, g1, g2⟩ := this
      exact ⟨q, v, rfl, .inl ⟨_, Sum.inr (tx y), .inr ⟨o, x2.sub _ _ e2⟩, r2, g1.symm⟩, hp2.val x2.toSt3 p2 g2⟩
    · exact hp2.elim
  · exact hp2.elim
/-- k in d -/
def gInK (f : Bool → Bool) : D → D → S → R S D
  | .str y, .dct ks xs, s => .ok (.bl (f (lookK ks xs y).isSome)) s
  | _, _, _ => .no
theorem look_some {K : PySem.W.Frag} {G : Hp} {kk : List (List Nat)} {xs : List D} {vs : List V} (y : List Nat) (e : kk.length = vs.length) (l : RepL K Γ G xs vs) :
    (valV ((kk.map fun k : List Nat => (Sum.inr ⟨k.toArray⟩ : Key)).zip vs) (Sum.inr (tx y))).isSome = (lookK (kk.map D.str) xs y).isSome := by
  have := lookK_rep (K := K) y e l
  cases q : lookK (kk.map D.str) xs y with
  | none => rw [q] at this; rw [this]; rfl
  | some d => rw [q] at this; obtain ⟨v, g1, _⟩ := this; rw [g1]; rfl
theorem ev_din {K : PySem.W.Frag} {ta tb : TE} (ha : Ev K Γ w W (Rep K Γ) ta fa) (hb : Ev K Γ w W (Rep K Γ) tb fb) : Ev K Γ w W (Rep K Γ) (tDIn ta tb) (f2 (gInK id) fa fb) := fun η s σ G H m Q h3 p e hp =>
  ha η s σ G H m _ h3 p e (hp.next fun d1 s1 G1 H1 m1 v1 x1 p1 r1 hp1 => hb η s1 σ G1 H1 m1 _ x1.toSt3 p1 (e.mono x1.gg) (hp1.next fun d2 s2 G2 H2 m2 v2 x2 p2 r2 hp2 => by
    replace r1 := r1.mono x2.gg
    unfold gInK at hp2
    split at hp2
    · rename_i y ks xs
      simp only [Rep] at r1 r2
      obtain ⟨q, o, vs, kk, rfl, rfl, e1, e2, l⟩ := r2
      exact ⟨q, _, rfl, .inl ⟨_, Sum.inr (tx y), .inr ⟨o, x2.sub _ _ e2⟩, r1, rfl⟩, hp2.val x2.toSt3 p2 (by simp only [Rep]; rw [look_some y e1 l]; rfl)⟩
    · exact hp2.elim))
theorem ev_dnin {K : PySem.W.Frag} {ta tb : TE} (ha : Ev K Γ w W (Rep K Γ) ta fa) (hb : Ev K Γ w W (Rep K Γ) tb fb) : Ev K Γ w W (Rep K Γ) (tDNotIn ta tb) (f2 (gInK not) fa fb) := fun η s σ G H m Q h3 p e hp =>
  ha η s σ G H m _ h3 p e (hp.next fun d1 s1 G1 H1 m1 v1 x1 p1 r1 hp1 => hb η s1 σ G1 H1 m1 _ x1.toSt3 p1 (e.mono x1.gg) (hp1.next fun d2 s2 G2 H2 m2 v2 x2 p2 r2 hp2 => by
    replace r1 := r1.mono x2.gg
    unfold gInK at hp2
    split at hp2
    · rename_i y ks xs
      simp only [Rep] at r1 r2
      obtain ⟨q, o, vs, kk, rfl, rfl, e1, e2, l⟩ := r2
      exact ⟨q, _, rfl, .inl ⟨_, Sum.inr (tx y), .inr ⟨o, x2.sub _ _ e2⟩, r1, rfl⟩, hp2.val x2.toSt3 p2 (by simp only [Rep]; rw [look_some y e1 l])⟩
    · exact hp2.elim))
theorem units1 (hu : X.A.units + 64 < cLine) : X.A.units + 1 < cLine := Nat.lt_of_le_of_lt (Nat.add_le_add_left (by decide) _) hu
theorem de_din (hu : X.A.units + 64 < cLine) (ha : DE Γ w W X a fa) (hb : DE Γ w W X b fb) (hm : behindInMarks .In b = false := by first | exact nobehind _ (by decide) (by decide) | rfl) : DE Γ w W X (.Compare a [.In] [b] pos) (f2 (gInK id) fa fb) := by
  obtain ⟨ta, ha, ea⟩ := ha
  obtain ⟨tb, hb, eb⟩ := hb
  exact ⟨_, pe_cmp (pc_din (units1 hu) ha hb) hm, ev_din ea eb⟩
theorem de_dnin (hu : X.A.units + 64 < cLine) (ha : DE Γ w W X a fa) (hb : DE Γ w W X b fb) (hm : behindInMarks .NotIn b = false := by first | exact nobehind _ (by decide) (by decide) | rfl) : DE Γ w W X (.Compare a [.NotIn] [b] pos) (f2 (gInK not) fa fb) := by
  obtain ⟨ta, ha, ea⟩ := ha
  obtain ⟨tb, hb, eb⟩ := hb
  exact ⟨_, pe_cmp (pc_dnotin (units1 hu) ha hb) hm, ev_dnin ea eb⟩
theorem db_din (hu : X.A.units + 64 < cLine) (ha : DE Γ w W X a fa) (hb : DE Γ w W X b fb) (hm : behindInMarks .In b = false := by first | exact nobehind _ (by decide) (by decide) | rfl) : DB Γ w W X (.Compare a [.In] [b] pos) (asB (f2 (gInK id) fa fb)) := by
  obtain ⟨ta, ha, ea⟩ := ha
  obtain ⟨tb, hb, eb⟩ := hb
  exact ⟨_, pt_cmp (pc_din (units1 hu) ha hb) hm, ev_test (ev_din ea eb)⟩
theorem db_dnin (hu : X.A.units + 64 < cLine) (ha : DE Γ w W X a fa) (hb : DE Γ w W X b fb) (hm : behindInMarks .NotIn b = false := by first | exact nobehind _ (by decide) (by decide) | rfl) : DB Γ w W X (.Compare a [.NotIn] [b] pos) (asB (f2 (gInK not) fa fb)) := by
  obtain ⟨ta, ha, ea⟩ := ha
  obtain ⟨tb, hb, eb⟩ := hb
  exact ⟨_, pt_cmp (pc_dnotin (units1 hu) ha hb) hm, ev_test (ev_dnin ea eb)⟩
/-- for k in d -/
def fKeys (f : En → S → R S D) : En → S → R S (List D) := fun η s => (f η s).bind fun x s1 => match x with
  | .dct ks _ => .ok ks s1
  | _ => .no
theorem zip_fst {kk : List (List Nat)} {vs : List V} (e : kk.length = vs.length) (i : Nat) (k : Key) (v : V) (h : ((kk.map fun k : List Nat => (Sum.inr ⟨k.toArray⟩ : Key)).zip vs)[i]? = some (k, v)) : ∃ y, kk[i]? = some y ∧ k = Sum.inr (tx y) := by
  obtain ⟨h1, h2⟩ := List.getElem?_zip_eq_some.mp h
  rw [List.getElem?_map] at h1
  obtain ⟨y, e1, e2⟩ := Option.map_eq_some_iff.mp h1
  exact ⟨y, e1, e2.symm⟩
theorem wk_keys {K : PySem.W.Frag} {G : Hp} {q : Addr} {o : Obj} {kk : List (List Nat)} {vs : List V} (e1 : kk.length = vs.length) (h : G q = some (.frz o (.dK ((kk.map fun k : List Nat => (Sum.inr ⟨k.toArray⟩ : Key)).zip vs)))) :
    Wk K Γ (Itk q o ((kk.map fun k : List Nat => (Sum.inr ⟨k.toArray⟩ : Key)).zip vs)) G (kk.map D.str) where
  go := fun i H e hi => ⟨e _ _ h, by rw [List.length_zip, List.length_map, ← e1, Nat.min_self]; simpa using hi⟩
  stop := fun H e => ⟨e _ _ h, by rw [List.length_zip, List.length_map, ← e1, Nat.min_self, List.length_map]; exact Nat.le_refl _⟩
  yld := fun i H x H' d e hd hy => by
    obtain ⟨rfl, k, v, hk, rfl⟩ := hy
    obtain ⟨y, h1, rfl⟩ := zip_fst e1 i k v hk
    rw [List.getElem?_map, h1] at hd
    cases hd
    exact .inl ⟨rfl, by simp only [Rep]; rfl⟩
theorem di_keys {tg : Expr} (h : DE Γ w W X a fa) : DI Γ w W X tg a (fKeys fa) := by
  obtain ⟨t, h, ev⟩ := h
  refine ⟨_, pi_keys h, fun η s σ G H m Q h3 p e hp => ev η s σ G H m _ h3 p e (hp.next fun d1 s1 G1 H1 m1 v1 x1 p1 r1 hp1 => ?_)⟩
  split at hp1
  · simp only [Rep] at r1
    obtain ⟨q, o, vs, kk, rfl, rfl, e1, e2, l⟩ := r1
    exact ⟨q, o, rfl, .inl ⟨_, x1.sub _ _ e2, hp1 G1 H1 m1 _ (Ext.refl x1.toSt3) p1 (wk_keys e1 e2)⟩⟩
  · exact hp1.elim
end
end Dm
namespace Dm
open PySem L2 PySem.Spec PyProof.Rows
/-- try: .. except x: .. -/
def SR.quiet {S : Type} : SR S → SR S
  | .er _ _ _ => .no
  | r => r
def sTry {S : Type} (ct : EK → Option Bool) (f g : Sn → S → SR S) : Sn → S → SR S := fun ε s => match f ε s with
  | .er e ε' s' => match ct e.k with
    | some true => (g ε' s').quiet
    | some false => .er e ε' s'
    | none => .no
  | r => r
abbrev W0 : WX := fun _ _ _ _ => False
section
variable {S : Type} {Γ : Pm} {w : Wo S} {W : WX} {X : Cx} {pos pos' np : Pos} {body suite : List Stmt} {b₀ : Stmt} {x : Str} {C : Addr} {f g : Sn → S → SR S}
theorem PostS.quiet {K : PySem.W.Frag} {G0 H0 : Hp} {m0 : Addr → Prop} {r : SR S} {D : Ends} (h : PostS K Γ w W G0 H0 m0 r.quiet D) : PostS K Γ w W0 G0 H0 m0 r D := by
  cases r with
  | er e ε s => exact h.elim
  | _ => exact h
theorem ds_try (ct : EK → Option Bool) (hs : X.stack = X.env :: X.outer) (hf : X.env.frame = some X.env.locals) (hc : Names X x (.ref C)) (hx : ∀ k b, ct k = some b → PySem.W.exmOne X.K (.ref (Γ.ca k)) (.ref C) = some b) (tk : Takes X W)
    (hb : ∀ (W : WX) (pn : List (Addr × Obj)) (xe : Value → Shared → Prop), Takes (X.tr pn xe) W → PassesOwn (model X.prog X.w) X.A X.env xe → DSs Γ w W (X.tr pn xe) body f)
    (hsu : ∀ (a : Addr) (pn : List (Addr × Obj)), DSs Γ w W0 (X.suite a pn) (b₀ :: suite) g) :
    DS Γ w W X (.Try body [.ExceptHandler (some (.Name x np)) none (b₀ :: suite) pos'] [] [] pos) (sTry ct f g) := by
  refine ⟨_, ps_try_only (c := .ref C) (Wout := W)
    (tb := fun W D σ H => ∀ (pn : List (Addr × Obj)) (xe : Value → Shared → Prop), Takes (X.tr pn xe) W → PassesOwn (model X.prog X.w) X.A X.env xe → ∃ t, PSs (X.tr pn xe) body t ∧ t D σ H)
    (ts := fun a cls d D σ H => ∀ pn : List (Addr × Obj), ∃ t, PSs (X.suite a pn) (b₀ :: suite) t ∧ t D σ H)
    hs hf hc tk (fun W pn xe tk hp => ⟨fun pins s σ H D I h => ?_⟩) (fun a oe cls d pn _ _ => ⟨fun pins s σ H D I h => ?_⟩), fun ε s σ G0 H0 m0 G H m D x p r hp => ?_⟩
  · obtain ⟨t, h1, h2⟩ := h pn xe tk hp
    exact h1.run pins s σ H D I h2
  · obtain ⟨t, h1, h2⟩ := h ((a, oe) :: pn)
    exact h1.run pins s σ H D I h2
  · intro pn xe tk hpo
    obtain ⟨t, h1, ev⟩ := hb _ pn xe tk hpo
    refine ⟨t, h1, ev ε s σ G0 H0 m0 G H m D x p r ?_⟩
    unfold sTry at hp
    cases q : f ε s with
    | er e ε1 s1 =>
      rw [q] at hp
      intro G' H' m' σ' cls dx x' p' r' ea
      simp only at hp
      cases hb : ct e.k with
      | none => rw [hb] at hp; exact hp.elim
      | some b =>
        rw [hb] at hp
        refine ⟨b, by rw [ea.1]; exact hx e.k b hb, fun hb2 a ha pn => ?_, fun hb2 => ?_⟩
        · subst hb2
          obtain ⟨t2, h2, ev2⟩ := hsu a pn
          exact ⟨t2, h2, ev2 ε1 s1 σ' G0 H0 m0 G' H' m' D x' p' r' hp.quiet⟩
        · subst hb2
          exact hp G' H' m' σ' cls dx x' p' r' ea
    | nx _ _ => rw [q] at hp; exact hp
    | rt _ _ => rw [q] at hp; exact hp
    | rl _ _ => rw [q] at hp; exact hp
    | bk _ _ => rw [q] at hp; exact hp
    | ct _ _ => rw [q] at hp; exact hp
    | no => rw [q] at hp; exact hp
end
end Dm
namespace Dm
open PySem L2
/-! a list owned is looked at, and goes on being owned -/
def frzs (is : List Nat) (ε : Sn) : Sn := is.foldl (fun ε i => frz i ε) ε
structure Bk {S : Type} (w : Wo S) (sm : S → S → Bool) : Prop where
  back : ∀ {s s1 G G1 H H1 m m1}, w.P s G H m → w.P s1 G1 H1 m1 → sm s s1 = true → Sub G H1 → w.P s1 G H1 m1
def smU : Unit → Unit → Bool := fun _ _ => true
def smR : RS → RS → Bool := fun s s1 => decide (s1.sc = s.sc)
theorem bkU : Bk w0 smU := ⟨fun _ p _ _ => p⟩
theorem bkW {K : PySem.W.Frag} {Γ : Pm} : Bk (rowW K Γ) smR := ⟨fun p p1 h _ => ⟨⟨p1.1.row, by rw [of_decide_eq_true h]; exact p.1.scr⟩, p1.2⟩⟩
theorem bkT {K : PySem.W.Frag} {Γ : Pm} {T : List (Addr × Str)} : Bk (rowT K T Γ) smR := ⟨fun p p1 h _ => ⟨⟨p1.1.row, by rw [of_decide_eq_true h]; exact p.1.scr⟩, p1.2⟩⟩
section
variable {S : Type} {Γ : Pm} {w : Wo S} {W : WX} {X : Cx} {pos : Pos} {a b : Expr} {K : PySem.W.Frag} {sm : S → S → Bool}
theorem frz_3 {G H H0 : Hp} {m : Addr → Prop} {σ : L2.St} {ε : Sn} (i : Nat) (h3 : St3 G H m) (r : RepS K Γ G H0 H m σ ε) : ∃ G', Sub G G' ∧ St3 G' H m ∧ RepS K Γ G' H0 H m σ (frz i ε) := by
  unfold Dm.frz
  split
  · rename_i xs he
    obtain ⟨a, _, k1, k2, ⟨vs, rfl, k3⟩, k4, k5, k6, k7⟩ := r.ownAt he
    have sb := upd_sub (o := .lst vs) k4
    have hl : i < σ.length := (List.getElem?_eq_some_iff.mp k1).1
    refine ⟨_, sb, ⟨fun b o hb => ?_, fun b hb => ?_, h3.own⟩, ⟨by rw [List.length_set]; exact r.len, fun j d hj => ?_, ?_⟩⟩
    · by_cases hba : b = a
      · subst hba; rw [upd_same] at hb; rw [← hb]; exact k2
      · rw [upd_ne hba] at hb; exact h3.sub b o hb
    · have hba : b ≠ a := fun z => k5 (by rw [← z]; exact hb)
      rw [upd_ne hba]; exact h3.dis b hb
    · by_cases hji : i = j
      · subst hji
        rw [List.getElem?_set_self (by rw [← r.len]; exact hl)] at hj
        cases hj
        refine ⟨_, k1, ?_⟩
        simp only [Rep]
        exact ⟨a, vs, rfl, upd_same, k3.mono sb⟩
      · rw [List.getElem?_set_ne hji] at hj
        obtain ⟨v, h1, h2⟩ := r.dat j d hj
        exact ⟨v, h1, h2.mono sb⟩
    · obtain ⟨ad, q1, q2⟩ := r.own
      have back : ∀ (j : Nat) (ys : Ow), (ε.set i (some (.d (.lst xs))))[j]? = some (some (.ow ys)) → i ≠ j ∧ ε[j]? = some (some (.ow ys)) := fun j ys hj => by
        by_cases hji : i = j
        · subst hji
          rw [List.getElem?_set_self (by rw [← r.len]; exact hl)] at hj; cases hj
        · rw [List.getElem?_set_ne hji] at hj
          exact ⟨hji, hj⟩
      refine ⟨ad, fun j ys hj => ?_, fun j k ys zs hj hk e => q2 j k ys zs (back j ys hj).2 (back k zs hk).2 e⟩
      obtain ⟨hji, hj⟩ := back j ys hj
      obtain ⟨u, a1, a2, a3, a4, a5, a6⟩ := q1 j ys hj
      exact ⟨u, a1, a2, a3.mono sb, by rw [upd_ne (k7 j _ ys hj a1 hji)]; exact a4, a5, a6⟩
  · exact ⟨G, Sub.refl _, h3, r⟩
theorem frzs_3 {G H H0 : Hp} {m : Addr → Prop} {σ : L2.St} : ∀ (is : List Nat) {ε : Sn} {G : Hp}, St3 G H m → RepS K Γ G H0 H m σ ε → ∃ G', Sub G G' ∧ St3 G' H m ∧ RepS K Γ G' H0 H m σ (frzs is ε)
  | [], ε, G, h3, r => ⟨G, Sub.refl _, h3, r⟩
  | i :: is, ε, G, h3, r => by
    obtain ⟨G1, s1, t1, r1⟩ := frz_3 i h3 r
    obtain ⟨G2, s2, t2, r2⟩ := frzs_3 (G := G) (H := H) (H0 := H0) (m := m) is t1 r1
    exact ⟨G2, s1.trans s2, t2, r2⟩
/-- what was shown for a while is owned again -/
theorem ext_back {G G1 H G2 H2 : Hp} {m m2 : Addr → Prop} (h3 : St3 G H m) (sb : Sub G G1) (x : Ext G1 H m G2 H2 m2) : Ext G H m G H2 m2 where
  sub := fun a o h => x.sub a o (x.gg a o (sb a o h))
  dis := fun a h => by
    cases z : G a with
    | none => rfl
    | some o => have := x.gg a o (sb a o z); rw [x.dis a h] at this; cases this
  own := x.own
  mm := x.mm
  nt := x.nt
  gg := Sub.refl _
  keep := x.keep
  newG := fun a h1 h2 => absurd h2 h1
  newM := x.newM
  there := x.there
def pB (sm : S → S → Bool) (is : List Nat) (gc : En → S → R S Bool) : Sn → S → R S Bool := fun ε s => match gc (hide (frzs is ε)) s with
  | .ok b s1 => if sm s s1 = true then .ok b s1 else .no
  | _ => .no
theorem DB.peek (bk : Bk w sm) (is : List Nat) {gc : En → S → R S Bool} (h : DB Γ w W X a gc) : DNB Γ w W X a (pB sm is gc) := by
  obtain ⟨t, h, ev⟩ := h
  refine ⟨t, h, fun ε s σ H0 G H m Q h3 p r hp => ?_⟩
  obtain ⟨G1, sb, t1, r1⟩ := frzs_3 (G := G) is h3 r
  refine ev (hide (frzs is ε)) s σ G1 H m Q t1 (w.stay p sb fun _ _ _ e => e) r1.hide ?_
  unfold pB at hp
  cases q : gc (hide (frzs is ε)) s with
  | no => rw [q] at hp; exact hp
  | er e s1 => rw [q] at hp; exact hp.elim
  | ok b s1 =>
    rw [q] at hp
    simp only at hp
    intro G2 H2 m2 v x2 p2 rl
    split at hp
    · rename_i hs
      have xb := ext_back h3 sb x2
      exact hp G H2 m2 v xb (bk.back p p2 hs xb.sub) rl
    · exact hp.elim
/-- what needs no heap -/
def isAt : D → Bool
  | .non | .bl _ | .int _ | .str _ => true
  | _ => false
theorem rep_at {G G' : Hp} {v : V} : ∀ {d : D}, isAt d = true → Rep K Γ G d v → Rep K Γ G' d v
  | .non, _, h => by simp only [Rep] at h ⊢; exact h
  | .bl _, _, h => by simp only [Rep] at h ⊢; exact h
  | .int _, _, h => by simp only [Rep] at h ⊢; exact h
  | .str _, _, h => by simp only [Rep] at h ⊢; exact h
def pN (sm : S → S → Bool) (is : List Nat) (f : En → S → R S D) : Sn → S → R S D := fun ε s => match f (hide (frzs is ε)) s with
  | .ok d s1 => if sm s s1 = true ∧ isAt d = true then .ok d s1 else .no
  | _ => .no
theorem DE.peek (bk : Bk w sm) (is : List Nat) {f : En → S → R S D} (h : DE Γ w W X a f) : DN Γ w W X a (pN sm is f) := by
  obtain ⟨t, h, ev⟩ := h
  refine ⟨t, h, fun ε s σ H0 G H m Q h3 p r hp => ?_⟩
  obtain ⟨G1, sb, t1, r1⟩ := frzs_3 (G := G) is h3 r
  refine ev (hide (frzs is ε)) s σ G1 H m Q t1 (w.stay p sb fun _ _ _ e => e) r1.hide ?_
  unfold pN at hp
  cases q : f (hide (frzs is ε)) s with
  | no => rw [q] at hp; exact hp
  | er e s1 => rw [q] at hp; exact hp.elim
  | ok b s1 =>
    rw [q] at hp
    simp only at hp
    intro G2 H2 m2 v x2 p2 rl
    split at hp
    · rename_i hs
      have xb := ext_back h3 sb x2
      exact hp G H2 m2 v xb (bk.back p p2 hs.1 xb.sub) (rep_at hs.2 rl)
    · exact hp.elim
/-- a, b = [new list], x -/
def sParLR (i j : Nat) (g : Sn → S → R S (List D)) (f : Sn → S → R S D) : Sn → S → SR S := fun ε s => bindS (g ε s) ε fun xs s1 => bindS (f ε s1) ε fun d s2 => .nx ((ε.set i (some (.ow (.l xs)))).set j (some (.d d))) s2
theorem ds_parLR (i j : Nat) {x y : Str} {px py pt : Pos} {kt k2 pt2} {g : En → S → R S (List D)} {fa : En → S → R S D} (hc : X.calm = true) (hN : X.N.Nodup) (hi : X.N[i]? = some x) (hj : X.N[j]? = some y) (hij : i ≠ j)
    (hx : X.env.scope.names.lookup x = some .local) (hy : X.env.scope.names.lookup y = some .local) (hb : DL Γ w W X a g) (ha : DE Γ w W X b fa)
    (hw : swappedStores [.Tuple [.Name x px, .Name y py] kt pt] (.Tuple [a, b] k2 pt2) X.env = pure (some [x, y]) := by rfl)
    (hs : swapsWithSole [.Tuple [.Name x px, .Name y py] kt pt] (.Tuple [a, b] k2 pt2) pos.line X.env = pure false := by rfl)
    (h1 : starEach [a, b] X.env = (false, eval a X.env) :: starEach [b] X.env := by rfl) (h2 : starEach [b] X.env = (false, eval b X.env) :: starEach [] X.env := by rfl) :
    DS Γ w W X (.Assign [.Tuple [.Name x px, .Name y py] kt pt] (.Tuple [a, b] k2 pt2) pos) (sParLR i j (nD g) (nD fa)) := by
  obtain ⟨t, ha, ea⟩ := ha
  obtain ⟨u, hb, eb⟩ := hb
  have ea' := EvN.of ea
  refine ⟨_, ps_par hc hN hi hj hij hx hy (pa_cons hb (pa_cons ha pa_nil h2) h1) hw hs, fun ε s σ G0 H0 m0 G H m D x p r hp => ?_⟩
  refine eb (hide ε) s σ G H m _ x.toSt3 p r.hide (hp.nextL x r fun xs s1 G1 H1 m1 q vs x1 p1 h0 hg hm h1 r1 hp1 => ?_)
  refine ea' ε s1 σ H0 G1 H1 m1 _ x1.toSt3 p1 (r.mono x1) (hp1.next (x.trans x1) (r.mono x1) fun d s2 G2 H2 m2 v x2 p2 r2 hp2 => ?_)
  exact ⟨_, _, rfl, hp2 G2 H2 m2 _ ((x.trans x1).trans x2) p2 (((own_take i x r x1 h0 hg hm h1 r1).mono x2).setD j r2)⟩
end
end Dm
/-! A dict owned is given to all (locked for good); sorted(d), sorted(d.items()). -/
namespace L2
open PySem PySem.Spec PyProof.Rows
def tLockF (t : TS) : TS := fun D σ H => ∃ d u, H d = some u ∧ Mut (some u) ∧ ∀ od, t D σ (upd H d (.frz od u))
theorem pss_lockF {X : Cx} {st : List Stmt} {t : TS} (h : PSs X st t) : PSs X st (tLockF t) := by
  refine ⟨fun pins s σ H D I hw => ?_⟩
  obtain ⟨d, u, hd, mu, hw⟩ := hw
  obtain ⟨od, I1⟩ := I.lock hd mu
  exact h.run pins s σ _ D I1 (hw od)
theorem risingS_le : ∀ {r : List Str} {p : Str}, risingS p r = true → (p :: r).Pairwise (fun a b => a.cps.toList ≤ b.cps.toList)
  | [], p, _ => List.pairwise_singleton _ _
  | x :: r, p, h => by
    simp only [risingS, Bool.and_eq_true, Bool.not_eq_true'] at h
    have ih := risingS_le h.2
    have hpx : p.cps.toList ≤ x.cps.toList := by
      have := h.1
      rw [ltCps_eq] at this
      exact List.not_lt.mp (of_decide_eq_false this)
    refine List.pairwise_cons.mpr ⟨fun y hy => ?_, ih⟩
    rcases List.mem_cons.mp hy with rfl | hy
    · exact hpx
    · exact List.le_trans hpx ((List.pairwise_cons.mp ih).1 y hy)
end L2
namespace Dm
open PySem L2 PySem.Spec PyProof.Rows
section
variable {S : Type} {Γ : Pm} {w : Wo S} {W : WX} {X : Cx} {pos p2 : Pos} {a b c : Expr} {es : List Expr}
/-! ### a dict owned is given to all -/
def sFrzK (i : Nat) (g : Sn → S → SR S) : Sn → S → SR S := fun ε s => match ε[i]? with
  | some (some (.ow (.k kvs))) => g (ε.set i (some (.d (dctOf kvs)))) s
  | _ => .no
theorem dss_frzK (i : Nat) {st : List Stmt} {g : Sn → S → SR S} (h : DSs Γ w W X st g) : DSs Γ w W X st (sFrzK i g) := by
  obtain ⟨t, h, ev⟩ := h
  refine ⟨_, pss_lockF h, fun ε s σ G0 H0 m0 G H m D x p r hp => ?_⟩
  unfold sFrzK at hp
  split at hp
  · rename_i kvs he
    obtain ⟨q, _, k1, k2, ⟨es, rfl, k3⟩, k4, k5, k6, k7⟩ := r.ownAt he
    refine ⟨q, _, k2, trivial, fun od => ?_⟩
    have sb := upd_sub (o := .frz od (.dK es)) k4
    have hl : i < σ.length := (List.getElem?_eq_some_iff.mp k1).1
    have eσ : σ.set i (some (.ref q)) = σ := by
      apply List.ext_getElem?
      intro j
      by_cases hji : i = j
      · subst hji; rw [List.getElem?_set_self hl, k1]
      · rw [List.getElem?_set_ne hji]
    have xf : Ext G0 H0 m0 (upd G q (.frz od (.dK es))) (upd H q (.frz od (.dK es))) m := {
      sub := fun b o hb => by
        by_cases hbq : b = q
        · subst hbq; rw [upd_same] at hb ⊢; exact hb
        · rw [upd_ne hbq] at hb ⊢; exact x.sub b o hb
      dis := fun b hb => by
        rw [upd_ne (fun z => k5 (by rw [← z]; exact hb))]; exact x.dis b hb
      own := fun b hb => by
        rw [upd_ne (fun z => k5 (by rw [← z]; exact hb))]; exact x.own b hb
      mm := x.mm
      nt := fun b o nb t e => by
        by_cases hbq : b = q
        · subst hbq
          rw [upd_same] at e
          cases e
          exact absurd t (isPl_tb rfl _)
        · rw [upd_ne hbq] at e; exact x.nt b o nb t e
      gg := x.gg.trans sb
      keep := fun b o nb e => by
        have hbq : b ≠ q := fun z => by rw [z, k6] at e; cases e
        rw [upd_ne hbq]; exact x.keep b o nb e
      newG := fun b h1 h2 => by
        by_cases hbq : b = q
        · subst hbq; exact k6
        · rw [upd_ne hbq] at h1; exact x.newG b h1 h2
      newM := x.newM
      there := fun b hb => by
        by_cases hbq : b = q
        · subst hbq; rw [upd_same]; exact fun z => nomatch z
        · rw [upd_ne hbq]; exact x.there b hb }
    refine ev _ s σ G0 H0 m0 _ _ m D xf (w.stay p sb (fun b o hb e => ?_) (fun b o t e => ?_)) ⟨by rw [List.length_set]; exact r.len, fun j d hj => ?_, ?_⟩ hp
    · rw [upd_ne (fun z => k5 (by rw [← z]; exact hb))]; exact e
    · by_cases hbq : b = q
      · subst hbq
        rw [upd_same] at e
        cases e
        exact absurd t (isPl_tb rfl _)
      · rw [upd_ne hbq] at e; exact e
    · by_cases hji : i = j
      · subst hji
        rw [List.getElem?_set_self (by rw [← r.len]; exact hl)] at hj
        cases hj
        exact ⟨_, k1, rep_dct (k3.mono sb) upd_same⟩
      · rw [List.getElem?_set_ne hji] at hj
        obtain ⟨v, h1, h2⟩ := r.dat j d hj
        exact ⟨v, h1, h2.mono sb⟩
    · obtain ⟨ad, q1, q2⟩ := r.own
      have back : ∀ (j : Nat) (ys : Ow), (ε.set i (some (.d (dctOf kvs))))[j]? = some (some (.ow ys)) → i ≠ j ∧ ε[j]? = some (some (.ow ys)) := fun j ys hj => by
        by_cases hji : i = j
        · subst hji
          rw [List.getElem?_set_self (by rw [← r.len]; exact hl)] at hj; cases hj
        · rw [List.getElem?_set_ne hji] at hj
          exact ⟨hji, hj⟩
      refine ⟨ad, fun j ys hj => ?_, fun j k ys zs hj hk e => q2 j k ys zs (back j ys hj).2 (back k zs hk).2 e⟩
      obtain ⟨hji, hj⟩ := back j ys hj
      obtain ⟨u, a1, a2, a3, a4, a5, a6⟩ := q1 j ys hj
      have nq : ad j ≠ q := k7 j _ ys hj a1 hji
      exact ⟨u, a1, by rw [upd_ne nq]; exact a2, a3.mono sb, by rw [upd_ne nq]; exact a4, a5, a6⟩
  · exact hp.elim
/-! ### x, y = e, {} -/
def sParK (i j : Nat) (f : Sn → S → R S D) : Sn → S → SR S := fun ε s => bindS (f ε s) ε fun d s1 => .nx ((ε.set i (some (.d d))).set j (some (.ow (.k [])))) s1
theorem ds_parKC (i j : Nat) {x y : Str} {px py pt p3 : Pos} {kt k2 pt2} {fa : En → S → R S D} (hc : X.calm = true) (hN : X.N.Nodup) (hi : X.N[i]? = some x) (hj : X.N[j]? = some y)
    (hx : Loc X.env.scope x) (hy : Loc X.env.scope y) (ha : DE Γ w W X a fa)
    (hfx : X.fn x = true ∨ X.env.scope.names.lookup x = some .local := by first | exact .inl rfl | exact .inr rfl | assumption) (hfy : X.fn y = true ∨ X.env.scope.names.lookup y = some .local := by first | exact .inl rfl | exact .inr rfl | assumption)
    (hs : swapsWithSole [.Tuple [.Name x px, .Name y py] kt pt] (.Tuple [a, .Dict [] [] p3] k2 pt2) pos.line X.env = pure false := by rfl) (hw : swappedStores [.Tuple [.Name x px, .Name y py] kt pt] (.Tuple [a, .Dict [] [] p3] k2 pt2) X.env = pure none := by rfl)
    (h3 : (assignEach [.Tuple [.Name x px, .Name y py] kt pt] X.env).map (·.2) = [assign (.Tuple [.Name x px, .Name y py] kt pt) X.env] := by rfl)
    (h1 : starEach [a, .Dict [] [] p3] X.env = (false, eval a X.env) :: starEach [.Dict [] [] p3] X.env := by rfl) (h2 : starEach [.Dict [] [] p3] X.env = (false, eval (.Dict [] [] p3) X.env) :: starEach [] X.env := by rfl)
    (hn : (assignEach [.Name x px, .Name y py] X.env).length = 2 := by rfl) (hst : (assignEach [.Name x px, .Name y py] X.env).findIdx? (·.1) = none := by rfl)
    (g1 : (assignEach [.Name x px, .Name y py] X.env).map (·.2) = assign (.Name x px) X.env :: (assignEach [.Name y py] X.env).map (·.2) := by rfl) (g2 : (assignEach [.Name y py] X.env).map (·.2) = assign (.Name y py) X.env :: (assignEach [] X.env).map (·.2) := by rfl) :
    DS Γ w W X (.Assign [.Tuple [.Name x px, .Name y py] kt pt] (.Tuple [a, .Dict [] [] p3] k2 pt2) pos) (sParK i j (nD fa)) := by
  obtain ⟨t, ha, ea⟩ := ha
  have ea' := EvN.of ea
  have tg := dg_tup (pos := pt) (k := kt) hc (dgs_cons (dg_name (pos := px) i hN hi hx hfx) (dgs_cons (dg_name (pos := py) j hN hj hy hfy) dgs_nil g2) g1) hn hst
  obtain ⟨gg, hg, kg⟩ := tg
  refine ⟨_, ps_asg (pe_tup (pa_cons ha (pa_cons pe_dnewK pa_nil h2) h1)) hg hs hw h3, fun ε s σ G0 H0 m0 G H m D x p r hp => ea' ε s σ H0 G H m _ x.toSt3 p r (hp.next x r fun d s1 G1 H1 m1 v x1 p1 r1 hp1 => ?_)⟩
  intro q hq
  refine ⟨by show 2 ≤ sizeLine; decide, fun tp htp => kg _ _ _ _ ⟨tp, [v, .ref q], rfl, SqT.of upd_same, rfl, ?_⟩⟩
  obtain ⟨x2, r2⟩ := own_new (vs := .dK []) j (x.trans x1) ((r.mono x1).setD i r1) (xs := .k []) ⟨_, rfl, rfl⟩ hq
  have xn := (Ext.refl x2.toSt3).newO (o := .tup [v, .ref q]) htp
  have p2 : w.P s1 G1 (upd H1 q (.dK [])) m1 := w.stay p1 (Sub.refl _) fun y o hy ey => by rw [upd_ne (ne_of_none ey hq)]; exact ey
  exact hp1 G1 _ m1 _ (x2.trans xn) (w.stay p2 (Sub.refl _) fun y o hy ey => by rw [upd_ne (ne_of_none ey htp)]; exact ey) (r2.mono xn)
/-! ### sorted(d.items()), d given to all -/
def gSortIt : D → S → R S D
  | .dct ks xs, s => match strsOf ks, strsOf xs with
    | some kk, some yy => if kk.Nodup ∧ kk.length < 64 then .ok (.lst ((sortKV (kk.zip yy)).map fun q => .tup [.str q.1, .str q.2])) s else .no
    | _, _ => .no
  | _, _ => .no
theorem strs_self : ∀ kk : List (List Nat), strsOf (kk.map D.str) = some kk
  | [] => rfl
  | k :: kk => by simp only [List.map_cons, strsOf, strs_self kk]; rfl
theorem zip_kv : ∀ (kk yy : List (List Nat)), (kk.map fun k : List Nat => (Sum.inr ⟨k.toArray⟩ : Key)).zip ((yy.map tx).map V.str) = kvT ((kk.zip yy).map fun q => (tx q.1, tx q.2))
  | [], _ => rfl
  | _ :: _, [] => rfl
  | k :: kk, y :: yy => by
    simp only [List.map_cons, List.zip_cons_cons, zip_kv kk yy]
theorem de_sortItems {p apos cpos : Pos} {fa : En → S → R S D} (hc : X.calm = true) (hu : X.A.units + 64 < cLine) (he : DE Γ w W X a fa) (hg : Gl X "sorted") (hm : X.mg "sorted" = none) (hbase : attributeBase a "items" X.env (eval a X.env) = eval a X.env := by rfl) (hline : (apos.endLine == cpos.line) = true := by rfl)
    (hs : starEach [.Call (.Attribute a "items" apos) [] [] cpos] X.env = (false, eval (.Call (.Attribute a "items" apos) [] [] cpos) X.env) :: starEach [] X.env := by rfl) :
    DE Γ w W X (.Call (.Name "sorted" p) [.Call (.Attribute a "items" apos) [] [] cpos] [] pos) (f1 gSortIt fa) := by
  obtain ⟨t, he, ev⟩ := he
  refine ⟨_, pe_sortItems hc hu he hg hm hbase hline hs, fun η s σ G H m Q h3 p e hp => ev η s σ G H m _ h3 p e (hp.next fun d1 s1 G1 H1 m1 v1 x1 p1 r1 hp1 => ?_)⟩
  unfold gSortIt at hp1
  split at hp1
  · split at hp1
    · split at hp1
      · rename_i ks xs _ _ kk yy hkk hyy hz
        simp only [Rep] at r1
        obtain ⟨q, o, vs, kk', rfl, rfl, e1, e2, l⟩ := r1
        rw [strs_self] at hkk
        cases hkk
        have hvs := strsOf_rep l hyy
        subst hvs
        rw [zip_kv] at e2
        rw [List.length_map, List.length_map] at e1
        have ef : (kk.zip yy).map (·.1) = kk := List.map_fst_zip (Nat.le_of_eq e1)
        have nd : ((kk.zip yy).map (·.1)).Nodup := by rw [ef]; exact hz.1
        refine ⟨q, (kk.zip yy).map fun q => (tx q.1, tx q.2), rfl, .inr ⟨o, x1.sub _ _ e2⟩, ?_, ?_, sort_go x1.toSt3 p1 nd fun G' H' m' v x p' r' => hp1 G' H' m' v x p' r'⟩
        · rw [List.map_map]
          have := tx_nodup nd
          rw [List.map_map] at this
          exact this
        · rw [List.length_map, List.length_zip, ← e1, Nat.min_self]; exact hz.2
      · exact hp1.elim
    · exact hp1.elim
  · exact hp1.elim
/-! ### sorted(d), d given to all -/
def sortT (kk : List (List Nat)) : List (List Nat) := (sortKV (kk.map fun k => (k, []))).map (·.1)
theorem sortT_perm (kk : List (List Nat)) : (sortT kk).Perm kk := by
  have h := (sortKV_perm (kk.map fun k => (k, []))).map (·.1)
  rw [List.map_map] at h
  unfold sortT
  refine h.trans (.of_eq ?_)
  exact (List.map_congr_left fun k _ => rfl).trans (List.map_id _)
theorem sortT_sorted (kk : List (List Nat)) : (sortT kk).Pairwise (· ≤ ·) := by
  unfold sortT
  rw [List.pairwise_map]
  exact sortKV_sorted _
theorem sortT_eq {kk zs : List (List Nat)} (hp : zs.Perm kk) (hs : zs.Pairwise (· ≤ ·)) : zs = sortT kk :=
  List.Perm.eq_of_pairwise (le := fun a b => a ≤ b) (fun a b _ _ h1 h2 => List.le_antisymm h1 h2) hs (sortT_sorted kk) (hp.trans (sortT_perm kk).symm)
def gSortK : List D → S → R S D
  | [.dct ks xs], s => match strsOf ks with
    | some kk => if kk.length < 64 then .ok (.lst ((sortT kk).map D.str)) s else .no
    | none => .no
  | _, _ => .no
theorem sortedS_le {ys : List Str} (h : sortedS ys = true) : ys.Pairwise (fun a b => a.cps.toList ≤ b.cps.toList) := by
  cases ys with
  | nil => exact .nil
  | cons x r => exact risingS_le h
theorem repL_strs {K : PySem.W.Frag} {G : Hp} : ∀ ls : List (List Nat), RepL K Γ G (ls.map D.str) ((ls.map tx).map V.str)
  | [] => RepL.nil
  | l :: ls => RepL.cons (by simp only [Rep]) (repL_strs ls)
theorem cl_sortK (hc : X.calm = true) : CallL Γ w W X (.builtin "sorted") gSortK := by
  refine ⟨_, call_sortedD hc, fun ds vs s σ G H m Q h3 p r hp => ?_⟩
  unfold gSortK at hp
  split at hp
  · split at hp
    · split at hp
      · rename_i ks xs kk hkk hz
        obtain ⟨v, rfl, r1⟩ := r.one
        simp only [Rep] at r1
        obtain ⟨q, o, vs, kk', rfl, rfl, e1, e2, l⟩ := r1
        rw [strs_self] at hkk
        cases hkk
        refine ⟨q, _, kk.map tx, rfl, .inr ⟨o, h3.sub _ _ e2⟩, ?_, by rw [List.length_map]; exact hz, fun ys z hper hso hq => ?_⟩
        · rw [List.map_fst_zip (by rw [List.length_map]; exact Nat.le_of_eq e1), List.map_map]
          rfl
        · have x := (Ext.refl h3).new (o := .lst (ys.map V.str)) hq
          have ey : (sortT kk).map tx = ys := by
            have e3 : ys.map (fun y => y.cps.toList) = sortT kk := by
              refine sortT_eq ?_ ?_
              · have := hper.map fun y : Str => y.cps.toList
                rw [List.map_map] at this
                refine this.trans (.of_eq ?_)
                exact (List.map_congr_left fun k _ => by simp [tx]).trans (List.map_id _)
              · rw [List.pairwise_map]; exact sortedS_le hso
            rw [← e3, List.map_map]
            exact (List.map_congr_left fun k _ => by simp [tx]).trans (List.map_id _)
          refine hp _ _ _ _ x (w.stay p x.gg fun b u hb e => ?_) ?_
          · rw [upd_ne (ne_of_none e hq)]; exact e
          · simp only [Rep]
            refine ⟨z, _, rfl, upd_same, ?_⟩
            rw [← ey]
            exact repL_strs _
      · exact hp.elim
    · exact hp.elim
  · exact hp.elim
end
end Dm
/-! Plain laws of the data layer's words: comprehensions, loops. -/
namespace Dm
open PySem L2
section
variable {S : Type}
theorem bind_ok {α β : Type} (a : α) (s : S) (k : α → S → R S β) : (R.ok a s).bind k = k a s := rfl
/-- a comprehension without effects -/
theorem compL_pure {T : Tg} {c : En → S → R S Bool} {e : En → S → R S D} {η : En} {s : S} (p : D → Bool) (f : D → D) : ∀ items : List D,
    (∀ x ∈ items, ∃ η1, setT T x η = some η1 ∧ c η1 s = .ok (p x) s ∧ (p x = true → e η1 s = .ok (f x) s)) → compL T c e η items s = .ok ((items.filter p).map f) s
  | [], _ => rfl
  | x :: xs, h => by
    obtain ⟨η1, h1, h2, h3⟩ := h x List.mem_cons_self
    have ih := compL_pure p f xs fun y hy => h y (List.mem_cons_of_mem _ hy)
    simp only [compL, h1, h2, R.calm, R.bind]
    cases hp : p x with
    | true =>
      rw [List.filter_cons_of_pos hp, List.map_cons]
      simp only [h3 hp, R.calm, R.bind, ih]
    | false =>
      rw [List.filter_cons_of_neg (by rw [hp]; exact Bool.false_ne_true)]
      simp only [ih]
/-- a comprehension that draws: each item's value satisfies P, the state I -/
theorem compL_inv {T : Tg} {e : En → S → R S D} {η : En} (I : S → Prop) (P : D → Prop) : ∀ (items : List D) (s : S), I s →
    (∀ x ∈ items, ∀ s, I s → ∃ η1 y s1, setT T x η = some η1 ∧ e η1 s = .ok y s1 ∧ I s1 ∧ P y) → ∃ ys s', compL T bYes e η items s = .ok ys s' ∧ I s' ∧ ys.length = items.length ∧ ∀ y ∈ ys, P y
  | [], s, hs, _ => ⟨[], s, rfl, hs, rfl, fun _ z => nomatch z⟩
  | x :: xs, s, hs, h => by
    obtain ⟨η1, y, s1, h1, h2, h3, h4⟩ := h x List.mem_cons_self s hs
    obtain ⟨ys, s', e1, e2, e3, e4⟩ := compL_inv I P xs s1 h3 fun z hz => h z (List.mem_cons_of_mem _ hz)
    refine ⟨y :: ys, s', ?_, e2, by rw [List.length_cons, List.length_cons, e3], fun z hz => ?_⟩
    · simp only [compL, h1, bYes, R.calm, R.bind, h2, e1]
    · rcases List.mem_cons.mp hz with rfl | hz
      · exact h4
      · exact e4 z hz
/-- the same, with a test that draws: what is told are the items kept, in turn -/
theorem compL_sub {T : Tg} {c : En → S → R S Bool} {e : En → S → R S D} {η : En} (I : S → Prop) : ∀ (items : List D) (s : S), I s →
    (∀ x ∈ items, ∀ s, I s → ∃ η1 b s1, setT T x η = some η1 ∧ c η1 s = .ok b s1 ∧ I s1 ∧ (b = true → ∀ s, I s → e η1 s = .ok x s)) → ∃ ys s', compL T c e η items s = .ok ys s' ∧ I s' ∧ ys.Sublist items
  | [], s, hs, _ => ⟨[], s, rfl, hs, .slnil⟩
  | x :: xs, s, hs, h => by
    obtain ⟨η1, b, s1, h1, h2, h3, h4⟩ := h x List.mem_cons_self s hs
    obtain ⟨ys, s', e1, e2, e3⟩ := compL_sub I xs s1 h3 fun z hz => h z (List.mem_cons_of_mem _ hz)
    cases b with
    | true =>
      refine ⟨x :: ys, s', ?_, e2, e3.cons_cons x⟩
      simp only [compL, h1, h2, R.calm, R.bind, h4 rfl s1 h3, e1]
    | false =>
      refine ⟨ys, s', ?_, e2, e3.cons x⟩
      simp only [compL, h1, h2, R.calm, R.bind, e1]
/-- a loop by an invariant of slots and state that each turn keeps -/
theorem forL_inv {T : Tg} {b : Sn → S → SR S} (J : Nat → Sn → S → Prop) : ∀ (items : List D) (k : Nat) (ε : Sn) (s : S), J k ε s →
    (∀ (i : Nat) (x : D) (ε : Sn) (s : S), items[i]? = some x → J (k + i) ε s → ∃ ε1, setTn T x ε = some ε1 ∧ ((∃ ε' s', b ε1 s = .nx ε' s' ∧ J (k + i + 1) ε' s'))) → ∃ ε' s', forL T b items ε s = .nx ε' s' ∧ J (k + items.length) ε' s'
  | [], k, ε, s, hs, _ => ⟨ε, s, rfl, hs⟩
  | x :: xs, k, ε, s, hs, h => by
    obtain ⟨ε1, h1, ε2, s2, h2, h3⟩ := h 0 x ε s rfl hs
    obtain ⟨ε', s', e1, e2⟩ := forL_inv J xs (k + 1) ε2 s2 h3 fun i y ε s hy hj => by
      have := h (i + 1) y ε s (by simpa using hy) (by rw [show k + (i + 1) = k + 1 + i by omega]; exact hj)
      rw [show k + (i + 1) + 1 = k + 1 + i + 1 by omega] at this
      exact this
    refine ⟨ε', s', ?_, ?_⟩
    · simp only [forL, h1, h2]
      exact e1
    · rw [List.length_cons, show k + (xs.length + 1) = k + 1 + xs.length by omega]
      exact e2
/-- a while that ends after n turns -/
theorem whileD_of {c : Sn → S → R S Bool} {b : Sn → S → SR S} {ε : Sn} {s : S} {r : SR S} (n : Nat) (h : whileF c b n ε s = r) (hr : r ≠ .no) : whileD c b ε s = r := by
  have mono : ∀ n ε s, whileF c b n ε s ≠ .no → whileF c b (n + 1) ε s = whileF c b n ε s := by
    intro n
    induction n with
    | zero => intro ε s h; exact absurd rfl h
    | succ n ih =>
      intro ε s h
      simp only [whileF] at h ⊢
      cases hc : c ε s with
      | no => rfl
      | er e s1 => rfl
      | ok t s1 =>
        rw [hc] at h
        simp only [bindS] at h ⊢
        cases t with
        | false => rfl
        | true =>
          simp only at h ⊢
          cases hb : b ε s1 with
          | nx ε' s' => rw [hb] at h; simp only at h ⊢; exact ih ε' s' h
          | ct ε' s' => rw [hb] at h; simp only at h ⊢; exact ih ε' s' h
          | _ => rfl
  have mono2 : ∀ k n ε s, whileF c b n ε s ≠ .no → whileF c b (n + k) ε s = whileF c b n ε s := by
    intro k
    induction k with
    | zero => intro n ε s _; rfl
    | succ k ih =>
      intro n ε s h
      have e := ih n ε s h
      rw [← Nat.add_assoc, mono (n + k) ε s (by rw [e]; exact h), e]
  have ex : ∃ n, whileF c b n ε s ≠ .no := ⟨n, by rw [h]; exact hr⟩
  unfold whileD
  rw [dif_pos ex]
  have hm := Classical.choose_spec ex
  generalize Classical.choose ex = m at hm
  rcases Nat.le_total m n with z | z
  · obtain ⟨k, rfl⟩ := Nat.le.dest z
    rw [← mono2 k m ε s hm]
    exact h
  · obtain ⟨k, rfl⟩ := Nat.le.dest z
    rw [mono2 k n ε s (by rw [h]; exact hr)]
    exact h
end
end Dm
/-! What the program and the laws compute, in plain Lean. -/
namespace Dm
open PySem L2
/-- the sign at a place, or # -/
def sgn (w : List Nat) (p : Int) : Nat := if 0 ≤ p ∧ p < w.length then w.getD p.toNat 35 else 35
structure Rl where
  a : List Nat
  o : List Nat
  b : List Nat
  s : List Nat
def dR (r : Rl) : D := .tup [.str r.a, .str r.o, .str r.b, .str r.s]
def dX (x : List Nat × List Nat) : D := .tup [.str x.1, .str x.2]
def dB (L : List Nat) (rs : List Rl) (xs : List (List Nat × List Nat)) : D := .tup [.str L, .tup (rs.map dR), .tup (xs.map dX)]
/-- does a rule fit at a place -/
def fitB (r : Rl) (w : List Nat) (p : Nat) : Bool := decide ((w.drop p).take r.o.length = r.o) && (decide (r.a = []) || decide (sgn w ((p : Int) - 1) ∈ r.a)) && (decide (r.b = []) || decide (sgn w ((p : Int) + r.o.length) ∈ r.b))
theorem atI_eq {α : Type} (xs : List α) (i : Nat) : L2.atI xs (i : Int) = xs[i]? := by
  unfold L2.atI L2.ixN
  rw [if_pos (by omega)]
  split
  · rfl
  · rename_i h
    rw [List.getElem?_eq_none (by omega)]
    rfl
theorem blsOf_map {α : Type} (f : α → Bool) : ∀ l : List α, blsOf (l.map fun x => .bl (f x)) = some (l.map f)
  | [] => rfl
  | x :: xs => by
    simp only [List.map_cons, blsOf, blsOf_map f xs]
    rfl
theorem all_map_id {α : Type} (f : α → Bool) (l : List α) : (l.map f).all id = l.all f := by
  rw [List.all_map]
  rfl
theorem inD_signs (c : Nat) : ∀ l : List Nat, inD (.str [c]) (signs l) = l.contains c
  | [] => rfl
  | x :: l => by
    have ih := inD_signs c l
    unfold inD signs at ih ⊢
    rw [List.map_cons, List.any_cons, ih, List.contains_cons]
    congr 1
    simp only [eqD]
    by_cases h : x = c
    · subst h; simp
    · have : ¬ c = x := fun z => h z.symm
      simp [h, this]
def risB (x : List Nat) : Bool := (List.range (x.length - 1)).all fun k => decide ([x.getD k 0] < [x.getD (k + 1) 0])
theorem rngD_range : ∀ (n : Nat) (lo : Int), rngD lo n = (List.range n).map fun k : Nat => D.int (lo + k)
  | 0, _ => rfl
  | n + 1, lo => by
    rw [List.range_succ_eq_map, List.map_cons, List.map_map]
    show D.int lo :: rngD (lo + 1) n = _
    rw [rngD_range n (lo + 1)]
    congr 1
    · congr 1
      omega
    · refine List.map_congr_left fun k _ => ?_
      show D.int (lo + 1 + k) = D.int (lo + ((k + 1 : Nat) : Int))
      congr 1
      omega
theorem rngD_zero (n : Nat) : rngD 0 n = (List.range n).map fun k : Nat => D.int k := by
  rw [rngD_range]
  exact List.map_congr_left fun k _ => by rw [Int.zero_add]
theorem ris_of {x : List Nat} (h : x.Pairwise (· < ·)) : risB x = true := by
  unfold risB
  rw [List.all_eq_true]
  intro k hk
  rw [List.mem_range] at hk
  have k1 : k < x.length := by omega
  have k2 : k + 1 < x.length := by omega
  have := List.pairwise_iff_getElem.mp h k (k + 1) k1 k2 (by omega)
  simp [k1, k2]
  exact List.cons_lt_cons_iff.mpr (.inl this)
def ofB (part signs : List Nat) (lo hi : Int) : Bool := decide (lo ≤ part.length) && (decide ((part.length : Int) ≤ hi) && part.all fun c => decide (c ∈ signs))
abbrev SIGN : List Nat := [97, 98, 99, 100, 101, 102, 103, 104, 105, 106, 107, 108, 109, 110, 111, 112, 113, 114, 115, 116, 117, 118, 119, 120, 121, 122]
abbrev SOUND : List Nat := [65, 66, 67, 68, 69, 70, 71, 72, 73, 74, 75, 76, 77, 78, 79, 80, 81, 82, 83, 84, 85, 86, 87, 88, 89, 90]
def sideB (part L : List Nat) : Bool := ofB part (35 :: L) 0 5 && risB part
def ruleB (L : List Nat) (r : Rl) : Bool := ofB r.o L 1 2 && (sideB r.a L && (sideB r.b L && ofB r.s SOUND 0 3))
def lettersB (L : List Nat) : Bool := ofB L SIGN 2 4 && risB L
def excB (L : List Nat) (x : List Nat × List Nat) : Bool := ofB x.1 L 1 8 && ofB x.2 SOUND 0 36
/-- texts that are not too long to ask -/
def Rl.short (r : Rl) : Prop := r.a.length ≤ 1000000 ∧ r.o.length ≤ 1000000 ∧ r.b.length ≤ 1000000 ∧ r.s.length ≤ 1000000
theorem short_sz {n : Nat} (h : n ≤ 1000000) : n ≤ sizeLine := Nat.le_trans h (by decide)
theorem cutL_nat {α : Type} (w : List α) (p k : Nat) : cutL w (some (p : Int)) (some ((p : Int) + (k : Int))) = (w.drop p).take k := by
  unfold cutL
  rw [show (p : Int) + (k : Int) = ((p + k : Nat) : Int) by omega, HT.sIx_nat, HT.sIx_nat]
  by_cases h : p ≤ w.length
  · rw [Nat.min_eq_left h]
    by_cases h2 : p + k ≤ w.length
    · rw [Nat.min_eq_left h2, Nat.add_sub_cancel_left]
    · rw [Nat.min_eq_right (by omega), List.take_of_length_le (by rw [List.length_drop]; exact Nat.le_refl _), List.take_of_length_le (by rw [List.length_drop]; omega)]
  · rw [Nat.min_eq_right (show w.length ≤ p by omega), List.drop_of_length_le (Nat.le_refl _), List.drop_of_length_le (show w.length ≤ p by omega)]
    simp
def okS (l : List Nat) : Prop := l.all (· < 0x110000) = true
theorem okE_str {l : List Nat} (h : okS l) : okE (.str l) = true := by
  unfold okE
  rw [show okD (.str l) = true by simp only [okD]; exact h]
  rfl
theorem okS_cut {l : List Nat} (h : okS l) (p k : Nat) : okS ((l.drop p).take k) := by
  unfold okS at h ⊢
  rw [List.all_eq_true] at h ⊢
  exact fun x hx => h x (List.mem_of_mem_drop (List.mem_of_mem_take hx))
/-- '#' + w + '#' -/
def far (w : List Nat) : List Nat := 35 :: (w ++ [35])
theorem far_len (w : List Nat) : (far w).length = w.length + 2 := by simp [far]
theorem far_at (w : List Nat) (j : Nat) (h : j ≤ w.length + 1) : (far w)[j]? = some (sgn w ((j : Int) - 1)) := by
  unfold far sgn
  cases j with
  | zero => simp
  | succ j =>
    rw [List.getElem?_cons_succ]
    by_cases hj : j < w.length
    · rw [List.getElem?_append_left hj, if_pos (by constructor <;> omega), show (((j + 1 : Nat) : Int) - 1).toNat = j by omega]
      simp [hj]
    · have e : j = w.length := by omega
      subst e
      rw [List.getElem?_append_right (Nat.le_refl _), if_neg (by omega)]
      simp
theorem far_cut (w o : List Nat) (p : Nat) (hp : p ≤ w.length) (ho : 35 ∉ o) : (((far w).drop (p + 1)).take o.length = o) ↔ (w.drop p).take o.length = o := by
  have e : (far w).drop (p + 1) = w.drop p ++ [35] := by
    unfold far
    rw [List.drop_succ_cons, List.drop_append_of_le_length hp]
  rw [e]
  by_cases h : o.length ≤ (w.drop p).length
  · rw [List.take_append_of_le_length h]
  · constructor
    · intro q
      exfalso
      rw [List.take_of_length_le (by rw [List.length_append]; simp only [List.length_cons, List.length_nil]; omega)] at q
      exact ho (by rw [← q]; exact List.mem_append_right _ (List.mem_cons_self ..))
    · intro q
      exfalso
      have := congrArg List.length q
      rw [List.length_take] at this
      omega
theorem cut_le {w o : List Nat} {p : Nat} (h : (w.drop p).take o.length = o) (hp : p ≤ w.length) : p + o.length ≤ w.length := by
  have := congrArg List.length h
  rw [List.length_take, List.length_drop] at this
  omega
theorem at4_0 {α : Type} (a b c d : α) : L2.atI [a, b, c, d] 0 = some a := rfl
theorem at4_1 {α : Type} (a b c d : α) : L2.atI [a, b, c, d] 1 = some b := rfl
theorem at4_2 {α : Type} (a b c d : α) : L2.atI [a, b, c, d] 2 = some c := rfl
theorem at4_3 {α : Type} (a b c d : α) : L2.atI [a, b, c, d] 3 = some d := rfl
/-- the numbers of the rules that fit -/
def fitL (rs : List Rl) (w : List Nat) (p : Nat) : List Nat := (List.range rs.length).filter fun k => match rs[k]? with
  | some r => fitB r w p
  | none => false
def ownLen (rs : List Rl) (k : Nat) : Nat := match rs[k]? with
  | some r => r.o.length
  | none => 0
/-- the walk: the first place that is unsaid, or all places -/
def walkP (rs : List Rl) (w : List Nat) : Nat → Nat → List (Nat × Nat) → Nat ⊕ List (Nat × Nat)
  | 0, p, _ => .inl p
  | n + 1, p, acc => if p < w.length then match fitL rs w p with
    | [] => .inl p
    | k :: _ => walkP rs w n (p + ownLen rs k) (acc ++ [(p, k)])
    else .inr acc
def dPN (q : Nat × Nat) : D := .tup [.int q.1, .int q.2]
/-- a rule that can be walked with -/
structure Rl.ok (r : Rl) : Prop where
  lo : r.o.length ≤ 1000000
  no : r.o ≠ []
  n35 : 35 ∉ r.o
  ka : okS r.a
  ko : okS r.o
  kb : okS r.b
theorem fitL_mem {rs : List Rl} {w : List Nat} {p k : Nat} (h : k ∈ fitL rs w p) : ∃ r, rs[k]? = some r ∧ fitB r w p = true := by
  unfold fitL at h
  have := (List.mem_filter.mp h).2
  cases e : rs[k]? with
  | none => rw [e] at this; cases this
  | some r => rw [e] at this; exact ⟨r, rfl, this⟩
theorem fitB_le {r : Rl} {w : List Nat} {p : Nat} (h : fitB r w p = true) (hp : p ≤ w.length) : p + r.o.length ≤ w.length := by
  unfold fitB at h
  simp only [Bool.and_eq_true, decide_eq_true_eq] at h
  exact cut_le h.1.1 hp
theorem pairs_range : ∀ (ds : List D) (i : Nat), pairs i ds = (List.range ds.length).map fun k : Nat => .tup [.int ((i + k : Nat) : Int), ds.getD k .non]
  | [], _ => rfl
  | d :: ds, i => by
    rw [List.length_cons, List.range_succ_eq_map, List.map_cons, List.map_map]
    show D.tup [.int ((i : Nat) : Int), d] :: pairs (i + 1) ds = _
    rw [pairs_range ds (i + 1)]
    congr 1
    refine List.map_congr_left fun k _ => ?_
    show D.tup [.int ((i + 1 + k : Nat) : Int), ds.getD k .non] = D.tup [.int ((i + (k + 1) : Nat) : Int), (d :: ds).getD (k + 1) .non]
    rw [show i + 1 + k = i + (k + 1) by omega]
    rfl
theorem okDs_ints (l : List Nat) : okDs (l.map fun k : Nat => D.int k) = true := by
  induction l with
  | nil => rfl
  | cons k l ih => simp only [List.map_cons, okDs, okD, ih, Bool.and_self]
theorem depDs_ints (l : List Nat) : depDs (l.map fun k : Nat => D.int k) ≤ 1 := by
  induction l with
  | nil => simp [depDs]
  | cons k l ih =>
    simp only [List.map_cons, depDs, depD]
    omega
theorem okE_ints (l : List Nat) : okE (.lst (l.map fun k : Nat => D.int k)) = true := by
  unfold okE
  have h1 : okD (.lst (l.map fun k : Nat => D.int k)) = true := by simp only [okD]; exact okDs_ints l
  have h2 := depDs_ints l
  rw [h1, decide_eq_true]
  · rfl
  · simp only [depD]
    omega
theorem sml_nat {p : Nat} (h : p ≤ 1000000) : sml (p : Int) = true := by
  unfold sml
  rw [decide_eq_true]
  show p.log2 < 1920
  by_cases hp : p = 0
  · subst hp
    decide
  · exact Nat.lt_of_lt_of_le ((Nat.log2_lt hp).mpr (show p < 2 ^ 20 by omega)) (by decide)
/-- what is told of a walk -/
def walkD : Nat ⊕ List (Nat × Nat) → D
  | .inl q => .tup [.str [117, 110, 115, 97, 105, 100], .int q]
  | .inr l => .tup [.str [], .lst (l.map dPN)]
end Dm
/-! Plain laws, more: comprehensions and loops over typed lists, the row's draws. -/
namespace Dm
open PySem L2
section
variable {S α β γ : Type}
theorem sz {n : Nat} (h : n ≤ 16000000) : n ≤ sizeLine := Nat.le_trans h (by decide)
theorem compL_map {T : Tg} {c : En → S → R S Bool} {e : En → S → R S D} {η : En} {s : S} (g : α → D) (p : α → Bool) (f : α → D) : ∀ l : List α,
    (∀ x ∈ l, ∃ η1, setT T (g x) η = some η1 ∧ c η1 s = .ok (p x) s ∧ (p x = true → e η1 s = .ok (f x) s)) → compL T c e η (l.map g) s = .ok ((l.filter p).map f) s
  | [], _ => rfl
  | x :: xs, h => by
    obtain ⟨η1, h1, h2, h3⟩ := h x List.mem_cons_self
    have ih := compL_map g p f xs fun y hy => h y (List.mem_cons_of_mem _ hy)
    simp only [List.map_cons, compL, h1, h2, R.calm, R.bind]
    cases hp : p x with
    | true =>
      rw [List.filter_cons_of_pos hp, List.map_cons]
      simp only [h3 hp, R.calm, R.bind, ih]
    | false =>
      rw [List.filter_cons_of_neg (by rw [hp]; exact Bool.false_ne_true)]
      simp only [ih]
theorem fComp_map {fi : En → S → R S (List D)} {T : Tg} {own : List Nat} {c : En → S → R S Bool} {e : En → S → R S D} {η : En} {s : S} (l : List α) (g : α → D) (p : α → Bool) (f : α → D)
    (hi : fi η s = .ok (l.map g) s) (hl : l.length ≤ 16000000)
    (h : ∀ x ∈ l, ∃ η1, setT T (g x) (wipeE η own) = some η1 ∧ c η1 s = .ok (p x) s ∧ (p x = true → e η1 s = .ok (f x) s)) : fComp fi T own c e η s = .ok (.lst ((l.filter p).map f)) s := by
  unfold fComp
  rw [hi, bind_ok, if_pos (by rw [List.length_map]; exact sz hl), compL_map g p f l h]
  rfl
theorem fCompL_map {fi : En → S → R S (List D)} {T : Tg} {own : List Nat} {c : En → S → R S Bool} {e : En → S → R S D} {η : En} {s : S} (l : List α) (g : α → D) (p : α → Bool) (f : α → D)
    (hi : fi η s = .ok (l.map g) s) (hl : l.length ≤ 16000000)
    (h : ∀ x ∈ l, ∃ η1, setT T (g x) (wipeE η own) = some η1 ∧ c η1 s = .ok (p x) s ∧ (p x = true → e η1 s = .ok (f x) s)) : fCompL fi T own c e η s = .ok ((l.filter p).map f) s := by
  unfold fCompL
  rw [hi, bind_ok, if_pos (by rw [List.length_map]; exact sz hl), compL_map g p f l h]
/-- without a test -/
theorem fComp_all {fi : En → S → R S (List D)} {T : Tg} {own : List Nat} {e : En → S → R S D} {η : En} {s : S} (l : List α) (g : α → D) (f : α → D)
    (hi : fi η s = .ok (l.map g) s) (hl : l.length ≤ 16000000)
    (h : ∀ x ∈ l, ∃ η1, setT T (g x) (wipeE η own) = some η1 ∧ e η1 s = .ok (f x) s) : fComp fi T own bYes e η s = .ok (.lst (l.map f)) s := by
  rw [fComp_map l g (fun _ => true) f hi hl fun x hx => by
    obtain ⟨η1, h1, h2⟩ := h x hx
    exact ⟨η1, h1, rfl, fun _ => h2⟩]
  rw [List.filter_eq_self.mpr fun _ _ => rfl]
theorem fCompL_all {fi : En → S → R S (List D)} {T : Tg} {own : List Nat} {e : En → S → R S D} {η : En} {s : S} (l : List α) (g : α → D) (f : α → D)
    (hi : fi η s = .ok (l.map g) s) (hl : l.length ≤ 16000000)
    (h : ∀ x ∈ l, ∃ η1, setT T (g x) (wipeE η own) = some η1 ∧ e η1 s = .ok (f x) s) : fCompL fi T own bYes e η s = .ok (l.map f) s := by
  rw [fCompL_map l g (fun _ => true) f hi hl fun x hx => by
    obtain ⟨η1, h1, h2⟩ := h x hx
    exact ⟨η1, h1, rfl, fun _ => h2⟩]
  rw [List.filter_eq_self.mpr fun _ _ => rfl]
/-- a comprehension that draws -/
theorem fComp_inv {fi : En → S → R S (List D)} {T : Tg} {own : List Nat} {e : En → S → R S D} {η : En} (I : S → Prop) (P : D → Prop) (items : List D) {s s0 : S} (hi : fi η s0 = .ok items s) (hI : I s) (hl : items.length ≤ 16000000)
    (h : ∀ x ∈ items, ∀ s, I s → ∃ η1 y s1, setT T x (wipeE η own) = some η1 ∧ e η1 s = .ok y s1 ∧ I s1 ∧ P y) : ∃ ys s', fComp fi T own bYes e η s0 = .ok (.lst ys) s' ∧ I s' ∧ ys.length = items.length ∧ ∀ y ∈ ys, P y := by
  obtain ⟨ys, s', h1, h2⟩ := compL_inv I P items s hI h
  refine ⟨ys, s', ?_, h2⟩
  unfold fComp
  rw [hi, bind_ok, if_pos (sz hl), h1]
  rfl
theorem fCompL_inv {fi : En → S → R S (List D)} {T : Tg} {own : List Nat} {e : En → S → R S D} {η : En} (I : S → Prop) (P : D → Prop) (items : List D) {s s0 : S} (hi : fi η s0 = .ok items s) (hI : I s) (hl : items.length ≤ 16000000)
    (h : ∀ x ∈ items, ∀ s, I s → ∃ η1 y s1, setT T x (wipeE η own) = some η1 ∧ e η1 s = .ok y s1 ∧ I s1 ∧ P y) : ∃ ys s', fCompL fi T own bYes e η s0 = .ok ys s' ∧ I s' ∧ ys.length = items.length ∧ ∀ y ∈ ys, P y := by
  obtain ⟨ys, s', h1, h2⟩ := compL_inv I P items s hI h
  refine ⟨ys, s', ?_, h2⟩
  unfold fCompL
  rw [hi, bind_ok, if_pos (sz hl), h1]
theorem fComp_sub {fi : En → S → R S (List D)} {T : Tg} {own : List Nat} {c : En → S → R S Bool} {e : En → S → R S D} {η : En} (I : S → Prop) (items : List D) {s s0 : S} (hi : fi η s0 = .ok items s) (hI : I s) (hl : items.length ≤ 16000000)
    (h : ∀ x ∈ items, ∀ s, I s → ∃ η1 b s1, setT T x (wipeE η own) = some η1 ∧ c η1 s = .ok b s1 ∧ I s1 ∧ (b = true → ∀ s, I s → e η1 s = .ok x s)) : ∃ ys s', fComp fi T own c e η s0 = .ok (.lst ys) s' ∧ I s' ∧ ys.Sublist items := by
  obtain ⟨ys, s', h1, h2⟩ := compL_sub I items s hI h
  refine ⟨ys, s', ?_, h2⟩
  unfold fComp
  rw [hi, bind_ok, if_pos (sz hl), h1]
  rfl
/-! ### loops with a plain step -/
/-- a fold that may end early -/
def runL (step : β → α → β ⊕ γ) : List α → β → β ⊕ γ
  | [], b => .inl b
  | x :: xs, b => match step b x with
    | .inl b' => runL step xs b'
    | .inr r => .inr r
/-- a loop whose turns follow a plain step; k: the turn's number -/
theorem forL_run {T : Tg} {body : Sn → S → SR S} {s : S} (g : α → D) (st : β → Sn → Prop) (step : β → α → β ⊕ γ) (out : γ → SR S → Prop) : ∀ (l : List α) (b : β) (ε : Sn), st b ε →
    (∀ x ∈ l, ∀ b ε, st b ε → ∃ ε1, setTn T (g x) ε = some ε1 ∧ match step b x with
      | .inl b' => ∃ ε', body ε1 s = .nx ε' s ∧ st b' ε'
      | .inr r => out r (body ε1 s)) →
    (∀ r z, out r z → (∀ ε s, z ≠ .nx ε s) ∧ (∀ ε s, z ≠ .bk ε s) ∧ ∀ ε s, z ≠ .ct ε s) →
    match runL step l b with
    | .inl b' => ∃ ε', forL T body (l.map g) ε s = .nx ε' s ∧ st b' ε'
    | .inr r => out r (forL T body (l.map g) ε s)
  | [], b, ε, h0, _, _ => ⟨ε, rfl, h0⟩
  | x :: xs, b, ε, h0, h, ho => by
    obtain ⟨ε1, e1, h1⟩ := h x List.mem_cons_self b ε h0
    simp only [runL]
    cases q : step b x with
    | inl b' =>
      rw [q] at h1
      obtain ⟨ε', e2, h2⟩ := h1
      have ih := forL_run g st step out xs b' ε' h2 (fun y hy => h y (List.mem_cons_of_mem _ hy)) ho
      have e3 : forL T body ((x :: xs).map g) ε s = forL T body (xs.map g) ε' s := by simp only [List.map_cons, forL, e1, e2]
      rw [e3]
      exact ih
    | inr r =>
      rw [q] at h1
      simp only at h1 ⊢
      have e3 : forL T body ((x :: xs).map g) ε s = body ε1 s := by
        obtain ⟨n1, n2, n3⟩ := ho r _ h1
        rw [List.map_cons]
        unfold forL
        rw [e1]
        cases hz : body ε1 s with
        | nx a b => rw [hz] at n1; exact absurd rfl (n1 a b)
        | bk a b => rw [hz] at n2; exact absurd rfl (n2 a b)
        | ct a b => rw [hz] at n3; exact absurd rfl (n3 a b)
        | rt a b => simp only [hz]
        | rl a b => simp only [hz]
        | er a b c => simp only [hz]
        | no => simp only [hz]
      rw [e3]
      exact h1
/-- a loop that never ends early: a fold -/
theorem forL_fold {T : Tg} {body : Sn → S → SR S} {s : S} (g : α → D) (st : β → Sn → Prop) (step : β → α → β) : ∀ (l : List α) (b : β) (ε : Sn), st b ε →
    (∀ x ∈ l, ∀ b ε, st b ε → ∃ ε1, setTn T (g x) ε = some ε1 ∧ ∃ ε', body ε1 s = .nx ε' s ∧ st (step b x) ε') →
    ∃ ε', forL T body (l.map g) ε s = .nx ε' s ∧ st (l.foldl step b) ε'
  | [], b, ε, h0, _ => ⟨ε, rfl, h0⟩
  | x :: xs, b, ε, h0, h => by
    obtain ⟨ε1, e1, ε', e2, h2⟩ := h x List.mem_cons_self b ε h0
    obtain ⟨ε2, e3, h3⟩ := forL_fold g st step xs (step b x) ε' h2 fun y hy => h y (List.mem_cons_of_mem _ hy)
    exact ⟨ε2, by simp only [List.map_cons, forL, e1, e2, e3], h3⟩
end
/-! ### the row -/
structure RS.WF (s : RS) : Prop where
  p0 : 0 ≤ s.p
  m0 : 0 ≤ s.m
  m1 : s.m < 2147483647
theorem atI_some {α : Type} {xs : List α} {i : Int} (h0 : 0 ≤ i) (h1 : i < xs.length) : ∃ z, L2.atI xs i = some z ∧ z ∈ xs := by
  obtain ⟨n, rfl⟩ := Int.eq_ofNat_of_zero_le h0
  have hn : n < xs.length := by omega
  exact ⟨xs[n], by rw [atI_eq, List.getElem?_eq_getElem hn], List.getElem_mem hn⟩
theorem atI_nat {α : Type} {xs : List α} {n : Nat} (h : n < xs.length) : L2.atI xs (n : Int) = some xs[n] := by rw [atI_eq, List.getElem?_eq_getElem h]
theorem rngD_zero' (n : Nat) : rngD 0 n = (List.range n).map fun k : Nat => D.int k := rngD_zero n
end Dm
namespace Dm
open PySem L2
/-! ### texts drawn -/
def sgD (c : Nat) : D := .str [c]
theorem signs_eq (l : List Nat) : signs l = l.map sgD := rfl
theorem strs_sg : ∀ cs : List Nat, strsOf (cs.map sgD) = some (cs.map fun c => [c])
  | [] => rfl
  | c :: cs => by simp only [List.map_cons, sgD, strsOf]; rw [show cs.map sgD = cs.map sgD from rfl, strs_sg cs]; rfl
theorem glue_nil : ∀ ls : List (List Nat), glue [] ls = ls.flatten
  | [] => rfl
  | [p] => by simp [glue]
  | p :: q :: r => by simp only [glue, List.nil_append, glue_nil (q :: r), List.flatten_cons]
theorem glue_sg (cs : List Nat) : glue [] (cs.map fun c => [c]) = cs := by
  rw [glue_nil]
  induction cs with
  | nil => rfl
  | cons c cs ih => simp [ih]
theorem gJoin_sg {S : Type} (cs : List Nat) (s : S) (h : cs.length ≤ 16000000) : gJoin [] (.lst (cs.map sgD)) s = .ok (.str cs) s := by
  unfold gJoin
  simp only [strs_sg, glue_sg]
  rw [if_pos]
  have : ((cs.map fun c => [c]).map List.length).sum = cs.length := by
    clear h
    induction cs with
    | nil => rfl
    | cons c cs ih =>
      simp only [List.map_cons, List.sum_cons, List.length_cons, List.length_nil, ih]
      omega
  rw [this, List.length_nil, Nat.mul_zero]
  omega
theorem all_sg {ys : List D} {P : Nat → Prop} (h : ∀ y ∈ ys, ∃ c, P c ∧ y = sgD c) : ∃ cs : List Nat, ys = cs.map sgD ∧ ∀ c ∈ cs, P c := by
  induction ys with
  | nil => exact ⟨[], rfl, fun _ z => nomatch z⟩
  | cons y ys ih =>
    obtain ⟨c, hc, rfl⟩ := h _ List.mem_cons_self
    obtain ⟨cs, rfl, h2⟩ := ih fun z hz => h z (List.mem_cons_of_mem _ hz)
    exact ⟨c :: cs, rfl, fun z hz => by
      rcases List.mem_cons.mp hz with rfl | hz
      · exact hc
      · exact h2 z hz⟩
theorem all_of {α : Type} {f : α → D} {ys : List D} {P : α → Prop} (h : ∀ y ∈ ys, ∃ c, P c ∧ y = f c) : ∃ cs : List α, ys = cs.map f ∧ ∀ c ∈ cs, P c := by
  induction ys with
  | nil => exact ⟨[], rfl, fun _ z => nomatch z⟩
  | cons y ys ih =>
    obtain ⟨c, hc, rfl⟩ := h _ List.mem_cons_self
    obtain ⟨cs, rfl, h2⟩ := ih fun z hz => h z (List.mem_cons_of_mem _ hz)
    exact ⟨c :: cs, rfl, fun z hz => by
      rcases List.mem_cons.mp hz with rfl | hz
      · exact hc
      · exact h2 z hz⟩
theorem sublist_map {α : Type} {f : α → D} {ys : List D} {l : List α} (h : ys.Sublist (l.map f)) : ∃ cs : List α, ys = cs.map f ∧ cs.Sublist l := by
  obtain ⟨cs, h1, h2⟩ := List.sublist_map_iff.mp h
  exact ⟨cs, h2, h1⟩
/-! ### what is drawn -/
/-- a book's letters: up to four small signs, rising -/
structure GL (L : List Nat) : Prop where
  let' : lettersB L = true
  n1 : 1 ≤ L.length
  n4 : L.length ≤ 4
  ris : L.Pairwise (· < ·)
  lo : ∀ c ∈ L, 97 ≤ c ∧ c ≤ 122
theorem gl_of {L : List Nat} (h : L ∈ [[97, 98], [97, 98, 99], [97, 99], [97, 98, 99, 100]]) : GL L := by
  simp only [List.mem_cons, List.not_mem_nil, or_false] at h
  rcases h with rfl | rfl | rfl | rfl <;> exact ⟨by decide, by decide, by decide, by decide, by decide⟩
/-- a rule of a book of the letters L -/
structure GR (L : List Nat) (r : Rl) : Prop where
  b : ruleB L r = true
  a5 : r.a.length ≤ 5
  b5 : r.b.length ≤ 5
  o2 : r.o.length ≤ 2
  o1 : 1 ≤ r.o.length
  s3 : r.s.length ≤ 3
  ma : ∀ c ∈ r.a, c = 35 ∨ c ∈ L
  mb : ∀ c ∈ r.b, c = 35 ∨ c ∈ L
  mo : ∀ c ∈ r.o, c ∈ L
  ms : ∀ c ∈ r.s, 65 ≤ c ∧ c ≤ 90
/-- an exception -/
structure GX (L : List Nat) (x : List Nat × List Nat) : Prop where
  b : excB L x = true
  n1 : 1 ≤ x.1.length
  n8 : x.1.length ≤ 8
  s36 : x.2.length ≤ 36
  mo : ∀ c ∈ x.1, c ∈ L
  ms : ∀ c ∈ x.2, 65 ≤ c ∧ c ≤ 90
theorem ofB_of {part signs : List Nat} {lo hi : Int} (h1 : lo ≤ part.length) (h2 : (part.length : Int) ≤ hi) (h3 : ∀ c ∈ part, c ∈ signs) : ofB part signs lo hi = true := by
  unfold ofB
  rw [decide_eq_true h1, decide_eq_true h2, List.all_eq_true.mpr fun c hc => decide_eq_true (h3 c hc)]
  rfl
theorem of_ofB {part signs : List Nat} {lo hi : Int} (h : ofB part signs lo hi = true) : lo ≤ part.length ∧ (part.length : Int) ≤ hi ∧ ∀ c ∈ part, c ∈ signs := by
  unfold ofB at h
  simp only [Bool.and_eq_true, decide_eq_true_eq, List.all_eq_true] at h
  exact ⟨h.1, h.2.1, h.2.2⟩
theorem sound_iff (c : Nat) : c ∈ SOUND ↔ 65 ≤ c ∧ c ≤ 90 := by
  constructor
  · intro h
    have : ∀ c ∈ SOUND, 65 ≤ c ∧ c ≤ 90 := by decide
    exact this c h
  · intro h
    have : ∀ k : Fin 26, (65 + k.val) ∈ SOUND := by decide
    have := this ⟨c - 65, by omega⟩
    rwa [show 65 + (c - 65) = c by omega] at this
theorem side_of {L a : List Nat} (g : GL L) (h : a.Sublist (35 :: L)) : sideB a L = true ∧ a.length ≤ 5 ∧ ∀ c ∈ a, c = 35 ∨ c ∈ L := by
  have hm : ∀ c ∈ a, c ∈ 35 :: L := fun c hc => h.subset hc
  have hl := h.length_le
  have n4 := g.n4
  rw [List.length_cons] at hl
  have hr : (35 :: L).Pairwise (· < ·) := List.pairwise_cons.mpr ⟨fun c hc => by have := (g.lo c hc).1; omega, g.ris⟩
  refine ⟨?_, by omega, fun c hc => by simpa using hm c hc⟩
  unfold sideB
  rw [ofB_of (by omega) (by omega) hm, ris_of (hr.sublist h)]
  rfl
theorem gr_of {L : List Nat} {r : Rl} (g : GL L) (ha : r.a.Sublist (35 :: L)) (hb : r.b.Sublist (35 :: L)) (o1 : 1 ≤ r.o.length) (o2 : r.o.length ≤ 2) (s3 : r.s.length ≤ 3) (mo : ∀ c ∈ r.o, c ∈ L) (ms : ∀ c ∈ r.s, 65 ≤ c ∧ c ≤ 90) : GR L r := by
  obtain ⟨a1, a2, a3⟩ := side_of g ha
  obtain ⟨b1, b2, b3⟩ := side_of g hb
  refine ⟨?_, a2, b2, o2, o1, s3, a3, b3, mo, ms⟩
  unfold ruleB
  rw [ofB_of (by omega) (by omega) mo, a1, b1, ofB_of (by omega) (by omega) fun c hc => (sound_iff c).mpr (ms c hc)]
  rfl
theorem gx_of {L : List Nat} {x : List Nat × List Nat} (n1 : 1 ≤ x.1.length) (n8 : x.1.length ≤ 8) (s36 : x.2.length ≤ 36) (mo : ∀ c ∈ x.1, c ∈ L) (ms : ∀ c ∈ x.2, 65 ≤ c ∧ c ≤ 90) : GX L x := by
  refine ⟨?_, n1, n8, s36, mo, ms⟩
  unfold excB
  rw [ofB_of (by omega) (by omega) mo, ofB_of (by omega) (by omega) fun c hc => (sound_iff c).mpr (ms c hc)]
  rfl
theorem okS_of {l : List Nat} (h : ∀ c ∈ l, c < 1000) : okS l := by
  unfold okS
  rw [List.all_eq_true]
  exact fun c hc => decide_eq_true (by have := h c hc; omega)
theorem GL.okS {L : List Nat} (g : GL L) {w : List Nat} (h : ∀ c ∈ w, c ∈ L) : okS w := okS_of fun c hc => by have := g.lo c (h c hc); omega
theorem GR.ok {L : List Nat} {r : Rl} (g : GL L) (h : GR L r) : r.ok where
  lo := by have := h.o2; omega
  no := by have := h.o1; intro z; rw [z] at this; simp at this
  n35 := fun z => by have := (g.lo _ (h.mo _ z)).1; omega
  ka := okS_of fun c hc => (h.ma c hc).elim (fun e => by omega) fun z => by have := g.lo c z; omega
  ko := okS_of fun c hc => by have := g.lo c (h.mo c hc); omega
  kb := okS_of fun c hc => (h.mb c hc).elim (fun e => by omega) fun z => by have := g.lo c z; omega
theorem GR.short {L : List Nat} {r : Rl} (h : GR L r) : r.short := ⟨by have := h.a5; omega, by have := h.o2; omega, by have := h.b5; omega, by have := h.s3; omega⟩
/-- the pairs of a drawn dict -/
structure GKV (L : List Nat) (kvs : List (List Nat × D)) : Prop where
  all : ∀ p ∈ kvs, ∃ y, p.2 = .str y ∧ GX L (p.1, y)
  nd : (kvs.map (·.1)).Nodup
theorem gkv_put {L k y : List Nat} {kvs : List (List Nat × D)} (h : GKV L kvs) (g : GX L (k, y)) : GKV L (putD kvs k (.str y)) ∧ (putD kvs k (.str y)).length ≤ kvs.length + 1 := by
  unfold putD
  split
  · refine ⟨⟨fun p hp => ?_, ?_⟩, by rw [List.length_map]; omega⟩
    · obtain ⟨q, hq, rfl⟩ := List.mem_map.mp hp
      split
      · rename_i e
        exact ⟨y, rfl, by rw [e]; exact g⟩
      · exact h.all q hq
    · rw [List.map_map]
      have : (kvs.map ((fun x : List Nat × D => x.1) ∘ fun p => if p.1 = k then (p.1, D.str y) else p)) = kvs.map (·.1) := List.map_congr_left fun p _ => by
        simp only [Function.comp]
        split <;> rfl
      rw [this]
      exact h.nd
  · rename_i hn
    refine ⟨⟨fun p hp => ?_, ?_⟩, by rw [List.length_append, List.length_singleton]; exact Nat.le_refl _⟩
    · rcases List.mem_append.mp hp with hp | hp
      · exact h.all p hp
      · rw [List.mem_singleton.mp hp]
        exact ⟨y, rfl, g⟩
    · rw [List.map_append, List.nodup_append]
      refine ⟨h.nd, by simp, fun a ha b hb => ?_⟩
      simp only [List.map_cons, List.map_nil, List.mem_singleton] at hb
      subst hb
      intro e
      subst e
      obtain ⟨p, hp, e⟩ := List.mem_map.mp ha
      exact hn (List.any_eq_true.mpr ⟨p, hp, decide_eq_true e⟩)
theorem gkv_txts {L : List Nat} : ∀ {kvs : List (List Nat × D)}, (∀ p ∈ kvs, ∃ y, p.2 = .str y ∧ GX L (p.1, y)) → ∃ qs, txtsKV kvs = some qs ∧ qs.map (·.1) = kvs.map (·.1) ∧ qs.length = kvs.length ∧ ∀ q ∈ qs, GX L q
  | [], _ => ⟨[], rfl, rfl, rfl, fun _ z => nomatch z⟩
  | (k, d) :: kvs, h => by
    obtain ⟨y, e, g⟩ := h _ List.mem_cons_self
    obtain ⟨qs, e1, e2, e3, e4⟩ := gkv_txts (kvs := kvs) fun p hp => h p (List.mem_cons_of_mem _ hp)
    simp only at e g
    subst e
    refine ⟨(k, y) :: qs, by simp only [txtsKV, e1, Option.map_some], by simp [e2], by simp [e3], fun q hq => ?_⟩
    rcases List.mem_cons.mp hq with rfl | hq
    · exact g
    · exact e4 q hq
/-- exceptions as a book has them -/
structure GXs (L : List Nat) (xs : List (List Nat × List Nat)) : Prop where
  all : ∀ x ∈ xs, GX L x
  ris : xs.Pairwise fun a b => a.1 < b.1
theorem gxs_sort {L : List Nat} {qs : List (List Nat × List Nat)} (h : ∀ q ∈ qs, GX L q) (nd : (qs.map (·.1)).Nodup) : GXs L (sortKV qs) ∧ (sortKV qs).length = qs.length := by
  have hp := sortKV_perm qs
  refine ⟨⟨fun x hx => h x (hp.mem_iff.mp hx), ?_⟩, hp.length_eq⟩
  have nd2 : ((sortKV qs).map (·.1)).Nodup := (hp.map _).nodup_iff.mpr nd
  have hs := sortKV_sorted qs
  rw [List.nodup_iff_pairwise_ne, List.pairwise_map] at nd2
  refine (hs.and nd2).imp fun {a b} h => ?_
  rcases Decidable.em (a.1 < b.1) with z | z
  · exact z
  · exact absurd (List.le_antisymm h.1 (ltN_total z)) h.2
end Dm
/-! What is said of an outcome: rules that carry it through the data layer's words. -/
namespace Dm
open PySem L2
/-- an equation that simp does not take as one by rfl: the kernel is told each step -/
theorem nr {α : Sort u} {a b : α} (h : a = b) : a = b := h
section
variable {S α β γ : Type}
/-- the outcome is a value of which Q holds, or an error of which E holds -/
def R.to (r : R S α) (Q : α → S → Prop) (E : Err → S → Prop) : Prop := match r with
  | .ok a s => Q a s
  | .er e s => E e s
  | .no => False
structure Po (S : Type) where
  nx : Sn → S → Prop
  rt : D → S → Prop
  rl : List D → S → Prop
  bk : Sn → S → Prop
  ct : Sn → S → Prop
  er : Err → S → Prop
def SR.to (r : SR S) (P : Po S) : Prop := match r with
  | .nx ε s => P.nx ε s
  | .rt d s => P.rt d s
  | .rl xs s => P.rl xs s
  | .bk ε s => P.bk ε s
  | .ct ε s => P.ct ε s
  | .er e _ s => P.er e s
  | .no => False
theorem R.to_congr {r r' : R S α} {Q : α → S → Prop} {E : Err → S → Prop} (h : r = r') : r.to Q E = r'.to Q E := by rw [h]
theorem SR.to_congr {r r' : SR S} {P : Po S} (h : r = r') : r.to P = r'.to P := by rw [h]
abbrev noE : Err → S → Prop := fun _ _ => False
theorem R.to_eq {r : R S α} {Q : α → S → Prop} (h : r.to Q noE) : ∃ a s, r = .ok a s ∧ Q a s := by
  cases r with
  | ok a s => exact ⟨a, s, rfl, h⟩
  | er e s => exact h.elim
  | no => exact h.elim
theorem R.to_er {r : R S α} {E : Err → S → Prop} (h : r.to (fun _ _ => False) E) : ∃ e s, r = .er e s ∧ E e s := by
  cases r with
  | ok a s => exact h.elim
  | er e s => exact ⟨e, s, rfl, h⟩
  | no => exact h.elim
theorem R.eq_of {r : R S α} {a : α} {s : S} (h : r.to (fun b s' => b = a ∧ s' = s) noE) : r = .ok a s := by
  obtain ⟨b, s', e, rfl, rfl⟩ := R.to_eq h
  exact e
theorem R.er_of {r : R S α} {a : Err} {s : S} (h : r.to (fun _ _ => False) (fun b s' => b = a ∧ s' = s)) : r = .er a s := by
  obtain ⟨b, s', e, rfl, rfl⟩ := R.to_er h
  exact e
theorem R.mono {r : R S α} {Q Q' : α → S → Prop} {E E' : Err → S → Prop} (h : r.to Q E) (hq : ∀ a s, Q a s → Q' a s) (he : ∀ e s, E e s → E' e s) : r.to Q' E' := by
  cases r with
  | ok a s => exact hq _ _ h
  | er e s => exact he _ _ h
  | no => exact h
theorem SR.mono {r : SR S} {P P' : Po S} (h : r.to P) (h1 : ∀ a s, P.nx a s → P'.nx a s) (h2 : ∀ a s, P.rt a s → P'.rt a s) (h3 : ∀ a s, P.rl a s → P'.rl a s) (h4 : ∀ a s, P.bk a s → P'.bk a s) (h5 : ∀ a s, P.ct a s → P'.ct a s) (h6 : ∀ a s, P.er a s → P'.er a s) : r.to P' := by
  cases r with
  | nx a s => exact h1 _ _ h
  | rt a s => exact h2 _ _ h
  | rl a s => exact h3 _ _ h
  | bk a s => exact h4 _ _ h
  | ct a s => exact h5 _ _ h
  | er a b s => exact h6 _ _ h
  | no => exact h
/-! what goes on behind: kept closed, so that nothing is rewritten within -/
def KLi {S1 : Type} (put : S → S1 → S) (s : S) (Q : α → S → Prop) : α → S1 → Prop := fun d t => Q d (put s t)
def KSet (i : Nat) (ε : Sn) (P : Po S) : D → S → Prop := fun d s => P.nx (ε.set i (some (.d d))) s
def KOwn (i : Nat) (ε : Sn) (P : Po S) : List D → S → Prop := fun d s => P.nx (ε.set i (some (.ow (.l d)))) s
def KNew (i : Nat) (ε : Sn) (P : Po S) : List D → S → Prop := fun d s => d.length ≤ sizeLine ∧ P.nx (ε.set i (some (.ow (.l d)))) s
def KDrop (ε : Sn) (P : Po S) : D → S → Prop := fun _ s => P.nx ε s
def KTup (T : Tg) (ε : Sn) (P : Po S) : D → S → Prop := fun d s => ∃ ε', setTn T d ε = some ε' ∧ P.nx ε' s
def KPar (i j : Nat) (ε : Sn) (P : Po S) : List D → S → Prop := fun ds s => ∃ d e, ds = [d, e] ∧ P.nx ((ε.set i (some (.d d))).set j (some (.d e))) s
def KApp (i : Nat) (ε : Sn) (xs : List D) (P : Po S) : D → S → Prop := fun d s => xs.length < sizeLine ∧ P.nx (ε.set i (some (.ow (.l (xs ++ [d]))))) s
def KExt (i : Nat) (ε : Sn) (xs : List D) (P : Po S) : D → S → Prop := fun d s => ∃ ys, d = .lst ys ∧ xs.length + ys.length ≤ sizeLine ∧ P.nx (ε.set i (some (.ow (.l (xs ++ ys))))) s
def KIt (Q : List D → S → Prop) : D → S → Prop := fun x s => ∃ xs, itemsOf x = some xs ∧ Q xs s
def KR1 (Q : List D → S → Prop) : List D → S → Prop := fun xs s => ∃ j, xs = [.int j] ∧ okR j = true ∧ Q (rngD 0 j.toNat) s
def KR2 (Q : List D → S → Prop) : List D → S → Prop := fun xs s => ∃ i j, xs = [.int i, .int j] ∧ okR i = true ∧ okR j = true ∧ Q (rngD i (j - i).toNat) s
def KEn (Q : List D → S → Prop) : List D → S → Prop := fun xs s => ∃ ds, (xs = [.tup ds] ∨ xs = [.lst ds]) ∧ Q (pairs 0 ds) s
def KOS (Q : Option Int → S → Prop) : D → S → Prop := fun x s => ∃ i, x = .int i ∧ Q (some i) s
def KMk (f : List D → D) (Q : D → S → Prop) : List D → S → Prop := fun xs s => xs.length ≤ sizeLine ∧ Q (f xs) s
def KMkL (Q : List D → S → Prop) : List D → S → Prop := fun xs s => xs.length ≤ sizeLine ∧ Q xs s
def KNb (Q : D → S → Prop) : Bool → S → Prop := fun b s => Q (.bl (!b)) s
def KOp (o : Option α) (Q : α → S → Prop) (s : S) : Prop := ∃ d, o = some d ∧ Q d s
def KCh (Q : D → S → Prop) : Nat → S → Prop := fun c s => Q (.str [c]) s
def KBl (Q : D → S → Prop) : Bool → S → Prop := fun b s => Q (.bl b) s
def KBf (f : List Bool → Bool) (Q : D → S → Prop) : List Bool → S → Prop := fun b s => Q (.bl (f b)) s
def KJn (x : List Nat) (Q : D → S → Prop) : List (List Nat) → S → Prop := fun ls s => (ls.map List.length).sum + ls.length * x.length ≤ 16777216 ∧ Q (.str (glue x ls)) s
def KB (k : α → S → R S β) (Q : β → S → Prop) (E : Err → S → Prop) : α → S → Prop := fun a s => (k a s).to Q E
def KS (k : α → S → SR S) (P : Po S) : α → S → Prop := fun a s => (k a s).to P
def KI (f g : Sn → S → SR S) (ε : Sn) (P : Po S) : Bool → S → Prop := fun b s => if b = true then (f ε s).to P else (g ε s).to P
def Po.then (P : Po S) (g : Sn → S → SR S) : Po S := { P with nx := fun ε s => (g ε s).to P }
def KC (T : Tg) (own : List Nat) (c : En → S → R S Bool) (e : En → S → R S D) (η : En) (Q : List D → S → Prop) (E : Err → S → Prop) : List D → S → Prop := fun items s => items.length ≤ sizeLine ∧ (compL T c e (wipeE η own) items s).to Q E
def KL (Q : D → S → Prop) : List D → S → Prop := fun ys s => Q (.lst ys) s
def KF (T : Tg) (b : Sn → S → SR S) (ε : Sn) (P : Po S) : List D → S → Prop := fun items s => (forL T b items ε s).to P
def KAnd (b : En → S → R S D) (η : En) (Q : D → S → Prop) (E : Err → S → Prop) : D → S → Prop := fun d s => match d with
  | .bl p => if p = true then (b η s).to Q E else Q (.bl false) s
  | _ => False
def KOr (b : En → S → R S D) (η : En) (Q : D → S → Prop) (E : Err → S → Prop) : D → S → Prop := fun d s => match d with
  | .bl p => if p = true then Q (.bl true) s else (b η s).to Q E
  | _ => False
def KbAnd (b : En → S → R S Bool) (η : En) (Q : Bool → S → Prop) (E : Err → S → Prop) : Bool → S → Prop := fun p s => if p = true then (b η s).to Q E else Q false s
def KbOr (b : En → S → R S Bool) (η : En) (Q : Bool → S → Prop) (E : Err → S → Prop) : Bool → S → Prop := fun p s => if p = true then Q true s else (b η s).to Q E
def KIf (a b : En → S → R S D) (η : En) (Q : D → S → Prop) (E : Err → S → Prop) : Bool → S → Prop := fun p s => if p = true then (a η s).to Q E else (b η s).to Q E
def KasB (Q : Bool → S → Prop) : D → S → Prop := fun d s => match d with
  | .bl b => Q b s
  | _ => False
def KbNot (Q : Bool → S → Prop) : Bool → S → Prop := fun b s => Q (!b) s
/-! rules -/
section
variable {Q : α → S → Prop} {E : Err → S → Prop} {P : Po S} {ε : Sn} {s : S} {η : En}
theorem to_ok (a : α) (s : S) : (R.ok a s : R S α).to Q E = Q a s := nr rfl
theorem to_er (e : Err) (s : S) : (R.er e s : R S α).to Q E = E e s := nr rfl
theorem to_no : (R.no : R S α).to Q E = False := nr rfl
theorem to_bind {Q : β → S → Prop} (r : R S α) (k : α → S → R S β) : (r.bind k).to Q E = r.to (KB k Q E) E := by cases r <;> rfl
theorem to_nx (ε : Sn) (s : S) : (SR.nx ε s).to P = P.nx ε s := nr rfl
theorem to_rt (d : D) (s : S) : (SR.rt d s).to P = P.rt d s := nr rfl
theorem to_rl (d : List D) (s : S) : (SR.rl d s).to P = P.rl d s := nr rfl
theorem to_bk (ε : Sn) (s : S) : (SR.bk ε s).to P = P.bk ε s := nr rfl
theorem to_ct (ε : Sn) (s : S) : (SR.ct ε s).to P = P.ct ε s := nr rfl
theorem to_err (e : Err) (ε : Sn) (s : S) : (SR.er e ε s).to P = P.er e s := nr rfl
theorem to_nos : (SR.no : SR S).to P = False := nr rfl
theorem to_bindS (r : R S α) (ε : Sn) (k : α → S → SR S) : (bindS r ε k).to P = r.to (KS k P) P.er := by cases r <;> rfl
theorem to_seq (f g : Sn → S → SR S) (ε : Sn) (s : S) : (sSeq f g ε s).to P = (f ε s).to (P.then g) := by
  unfold sSeq
  cases f ε s <;> rfl
theorem to_if (c : Sn → S → R S Bool) (f g : Sn → S → SR S) (ε : Sn) (s : S) : (sIf c f g ε s).to P = (c ε s).to (KI f g ε P) P.er := by
  unfold sIf
  rw [to_bindS]
  congr 1
  funext b s1
  cases b <;> rfl
theorem to_fnF {Q : D → S → Prop} (n p : Nat) (body : Sn → S → SR S) (ds : List D) (s : S) : (fnF n p body ds s).to Q E = (ds.length = p ∧ (body (startN n ds) s).to ⟨fun _ s => Q .non s, Q, fun xs s => Q (.lst xs) s, fun _ _ => False, fun _ _ => False, E⟩) := by
  unfold fnF
  by_cases h : ds.length = p
  · rw [if_pos h]
    simp only [h, true_and]
    cases body (startN n ds) s <;> rfl
  · rw [if_neg h]
    simp only [h, false_and]
    rfl
theorem to_fnL {Q : List D → S → Prop} (n p : Nat) (body : Sn → S → SR S) (ds : List D) (s : S) : (fnL n p body ds s).to Q E = (ds.length = p ∧ (body (startN n ds) s).to ⟨fun _ _ => False, fun _ _ => False, Q, fun _ _ => False, fun _ _ => False, E⟩) := by
  unfold fnL
  by_cases h : ds.length = p
  · rw [if_pos h]
    simp only [h, true_and]
    cases body (startN n ds) s <;> rfl
  · rw [if_neg h]
    simp only [h, false_and]
    rfl
theorem to_raise (f : En → S → R S Err) (ε : Sn) (s : S) : (sRaise f ε s).to P = (f (hide ε) s).to P.er (fun _ _ => False) := by
  unfold sRaise
  cases f (hide ε) s <;> rfl
theorem to_iteR {c : Prop} [Decidable c] (a b : R S α) : (if c then a else b).to Q E = if c then a.to Q E else b.to Q E := by split <;> rfl
theorem to_iteS {c : Prop} [Decidable c] (a b : SR S) : (if c then a else b).to P = if c then a.to P else b.to P := by split <;> rfl
/-- where the other way is none -/
theorem to_gR {c : Prop} [Decidable c] (a : R S α) : (if c then a else .no).to Q E = (c ∧ a.to Q E) := by
  by_cases h : c
  · rw [if_pos h]; simp [h]
  · rw [if_neg h]; simp only [h, false_and]; rfl
theorem to_gS {c : Prop} [Decidable c] (a : SR S) : (if c then a else .no).to P = (c ∧ a.to P) := by
  by_cases h : c
  · rw [if_pos h]; simp [h]
  · rw [if_neg h]; simp only [h, false_and]; rfl
theorem to_for (fi : Sn → S → R S (List D)) (T : Tg) (b : Sn → S → SR S) (ε : Sn) (s : S) : (sFor fi T b ε s).to P = (fi ε s).to (KF T b ε P) P.er := to_bindS _ _ _
theorem to_fComp {Q : D → S → Prop} (fi : En → S → R S (List D)) (T : Tg) (own : List Nat) (c : En → S → R S Bool) (e : En → S → R S D) (η : En) (s : S) :
    (fComp fi T own c e η s).to Q E = (fi η s).to (KC T own c e η (KL Q) E) E := by
  unfold fComp
  rw [to_bind]
  congr 1
  funext items s1
  unfold KB KC
  rw [to_gR, to_bind]
  rfl
theorem to_fCompL {Q : List D → S → Prop} (fi : En → S → R S (List D)) (T : Tg) (own : List Nat) (c : En → S → R S Bool) (e : En → S → R S D) (η : En) (s : S) :
    (fCompL fi T own c e η s).to Q E = (fi η s).to (KC T own c e η Q E) E := by
  unfold fCompL
  rw [to_bind]
  congr 1
  funext items s1
  unfold KB KC
  rw [to_gR]
theorem to_lift {S1 : Type} {Q : D → S → Prop} (get : S → S1) (put : S → S1 → S) (F : List D → S1 → R S1 D) (ds : List D) (s : S) : (lift get put F ds s).to Q E = (F ds (get s)).to (KLi put s Q) (KLi put s E) := by
  unfold lift
  cases F ds (get s) <;> rfl
theorem to_liftL {S1 : Type} {Q : List D → S → Prop} (get : S → S1) (put : S → S1 → S) (F : List D → S1 → R S1 (List D)) (ds : List D) (s : S) : (liftL get put F ds s).to Q E = (F ds (get s)).to (KLi put s Q) (KLi put s E) := by
  unfold liftL
  cases F ds (get s) <;> rfl
theorem to_frz (i : Nat) (g : Sn → S → SR S) (ε : Sn) (s : S) : (sFrz i g ε s).to P = (g (frz i ε) s).to P := nr rfl
/-! behind -/
theorem k_b (k : α → S → R S β) {Q : β → S → Prop} (a : α) (s : S) : KB k Q E a s = (k a s).to Q E := nr rfl
theorem k_s (k : α → S → SR S) (a : α) (s : S) : KS k P a s = (k a s).to P := nr rfl
theorem k_i (f g : Sn → S → SR S) (ε : Sn) (b : Bool) (s : S) : KI f g ε P b s = if b = true then (f ε s).to P else (g ε s).to P := nr rfl
theorem k_c (T : Tg) (own : List Nat) (c : En → S → R S Bool) (e : En → S → R S D) (η : En) {Q : List D → S → Prop} (items : List D) (s : S) : KC T own c e η Q E items s = (items.length ≤ sizeLine ∧ (compL T c e (wipeE η own) items s).to Q E) := nr rfl
theorem k_l {Q : D → S → Prop} (ys : List D) (s : S) : KL Q ys s = Q (.lst ys) s := nr rfl
theorem k_f (T : Tg) (b : Sn → S → SR S) (ε : Sn) (items : List D) (s : S) : KF T b ε P items s = (forL T b items ε s).to P := nr rfl
theorem k_and (b : En → S → R S D) (η : En) {Q : D → S → Prop} (p : Bool) (s : S) : KAnd b η Q E (.bl p) s = if p = true then (b η s).to Q E else Q (.bl false) s := nr rfl
theorem k_or (b : En → S → R S D) (η : En) {Q : D → S → Prop} (p : Bool) (s : S) : KOr b η Q E (.bl p) s = if p = true then Q (.bl true) s else (b η s).to Q E := nr rfl
theorem k_band (b : En → S → R S Bool) (η : En) {Q : Bool → S → Prop} (p : Bool) (s : S) : KbAnd b η Q E p s = if p = true then (b η s).to Q E else Q false s := nr rfl
theorem k_bor (b : En → S → R S Bool) (η : En) {Q : Bool → S → Prop} (p : Bool) (s : S) : KbOr b η Q E p s = if p = true then Q true s else (b η s).to Q E := nr rfl
theorem k_if (a b : En → S → R S D) (η : En) {Q : D → S → Prop} (p : Bool) (s : S) : KIf a b η Q E p s = if p = true then (a η s).to Q E else (b η s).to Q E := nr rfl
theorem k_asb {Q : Bool → S → Prop} (b : Bool) (s : S) : KasB Q (.bl b) s = Q b s := nr rfl
theorem k_bnot {Q : Bool → S → Prop} (b : Bool) (s : S) : KbNot Q b s = Q (!b) s := nr rfl
theorem then_nx (g : Sn → S → SR S) (ε : Sn) (s : S) : (P.then g).nx ε s = (g ε s).to P := nr rfl
theorem then_rt (g : Sn → S → SR S) : (P.then g).rt = P.rt := nr rfl
theorem then_rl (g : Sn → S → SR S) : (P.then g).rl = P.rl := nr rfl
theorem then_bk (g : Sn → S → SR S) : (P.then g).bk = P.bk := nr rfl
theorem then_ct (g : Sn → S → SR S) : (P.then g).ct = P.ct := nr rfl
theorem then_er (g : Sn → S → SR S) : (P.then g).er = P.er := nr rfl
/-! names -/
theorem to_var0 {Q : D → S → Prop} (d : D) (η : En) (s : S) : (fVar 0 (some d :: η) s).to Q E = Q d s := nr rfl
theorem to_varS {Q : D → S → Prop} (n : Nat) (o : Option D) (η : En) (s : S) : (fVar (n + 1) (o :: η) s).to Q E = (fVar n η s).to Q E := by
  unfold fVar
  rw [List.getElem?_cons_succ]
theorem hide_nil : hide [] = [] := nr rfl
theorem hide_cons (o : Option O) (ε : Sn) : hide (o :: ε) = hideO o :: hide ε := nr rfl
theorem hide_d (d : D) : hideO (some (.d d)) = some d := nr rfl
theorem hide_ow (o : Ow) : hideO (some (.ow o)) = none := nr rfl
theorem hide_no : hideO none = none := nr rfl
theorem to_nD (f : En → S → R S α) (ε : Sn) (s : S) : (nD f ε s).to Q E = (f (hide ε) s).to Q E := nr rfl
theorem to_c {Q : D → S → Prop} (d : D) (η : En) (s : S) : (fC d η s).to Q E = Q d s := nr rfl
theorem to_f1 {Q : D → S → Prop} (g : D → S → R S D) (a : En → S → R S D) (η : En) (s : S) : (f1 g a η s).to Q E = (a η s).to (KB g Q E) E := to_bind _ _
theorem to_f2 {Q : D → S → Prop} (g : D → D → S → R S D) (a b : En → S → R S D) (η : En) (s : S) : (f2 g a b η s).to Q E = (a η s).to (KB (fun x s1 => (b η s1).bind fun y s2 => g x y s2) Q E) E := to_bind _ _
theorem to_args {Q : D → S → Prop} (g : List D → S → R S D) (a : En → S → R S (List D)) (η : En) (s : S) : (fArgs g a η s).to Q E = (a η s).to (KB g Q E) E := to_bind _ _
theorem to_argsL {Q : List D → S → Prop} (g : List D → S → R S (List D)) (a : En → S → R S (List D)) (η : En) (s : S) : (fArgsL g a η s).to Q E = (a η s).to (KB g Q E) E := to_bind _ _
theorem to_acons {Q : List D → S → Prop} (a : En → S → R S D) (r : En → S → R S (List D)) (η : En) (s : S) : (aCons a r η s).to Q E = (a η s).to (KB (fun x s1 => (r η s1).bind fun xs s2 => .ok (x :: xs) s2) Q E) E := to_bind _ _
theorem to_anil {Q : List D → S → Prop} (η : En) (s : S) : (aNil η s).to Q E = Q [] s := nr rfl
theorem to_and {Q : D → S → Prop} (a b : En → S → R S D) (η : En) (s : S) : (fAnd a b η s).to Q E = (a η s).to (KAnd b η Q E) E := by
  unfold fAnd
  rw [to_bind]
  congr 1
  funext d s1
  unfold KB KAnd
  cases d <;> first | rfl | skip
  rename_i p
  cases p <;> rfl
theorem to_or {Q : D → S → Prop} (a b : En → S → R S D) (η : En) (s : S) : (fOr a b η s).to Q E = (a η s).to (KOr b η Q E) E := by
  unfold fOr
  rw [to_bind]
  congr 1
  funext d s1
  unfold KB KOr
  cases d <;> first | rfl | skip
  rename_i p
  cases p <;> rfl
theorem to_not {Q : D → S → Prop} (a : En → S → R S D) (η : En) (s : S) : (fNot a η s).to Q E = (asB a η s).to (KNb Q) E := by
  unfold fNot asB
  rw [to_bind, to_bind]
  congr 1
  funext d s1
  unfold KB KNb
  dsimp only
  cases d <;> rfl
theorem to_band {Q : Bool → S → Prop} (a b : En → S → R S Bool) (η : En) (s : S) : (bAnd a b η s).to Q E = (a η s).to (KbAnd b η Q E) E := by
  unfold bAnd
  rw [to_bind]
  congr 1
  funext p s1
  cases p <;> rfl
theorem to_bor {Q : Bool → S → Prop} (a b : En → S → R S Bool) (η : En) (s : S) : (bOr a b η s).to Q E = (a η s).to (KbOr b η Q E) E := by
  unfold bOr
  rw [to_bind]
  congr 1
  funext p s1
  cases p <;> rfl
theorem to_bnot {Q : Bool → S → Prop} (a : En → S → R S Bool) (η : En) (s : S) : (bNot a η s).to Q E = (a η s).to (KbNot Q) E := to_bind _ _
theorem to_byes {Q : Bool → S → Prop} (η : En) (s : S) : (bYes η s).to Q E = Q true s := nr rfl
theorem to_asb {Q : Bool → S → Prop} (a : En → S → R S D) (η : En) (s : S) : (asB a η s).to Q E = (a η s).to (KasB Q) E := by
  unfold asB
  rw [to_bind]
  congr 1
  funext d s1
  unfold KB KasB
  cases d <;> rfl
theorem to_ifx {Q : D → S → Prop} (c : En → S → R S Bool) (a b : En → S → R S D) (η : En) (s : S) : (fIf c a b η s).to Q E = (c η s).to (KIf a b η Q E) E := by
  unfold fIf
  rw [to_bind]
  congr 1
  funext p s1
  cases p <;> rfl
theorem to_chain {Q : D → S → Prop} (g h : D → D → S → R S D) (a b c : En → S → R S D) (η : En) (s : S) : (fChain g h a b c η s).to Q E = (a η s).to (KB (fun x s1 => (b η s1).bind fun y s2 => fAnd (fun _ s2 => g x y s2) (fun _ s3 => (c η s3).bind fun u s4 => h y u s4) η s2) Q E) E := by
  unfold fChain
  rw [to_bind]
  rfl
theorem to_tup {Q : D → S → Prop} (f : En → S → R S (List D)) (η : En) (s : S) : (fTup f η s).to Q E = (f η s).to (KMk .tup Q) E := by
  unfold fTup
  rw [to_bind]
  congr 1
  funext xs s1
  unfold KB KMk
  rw [to_gR]
  rfl
theorem to_lst {Q : D → S → Prop} (f : En → S → R S (List D)) (η : En) (s : S) : (fLst f η s).to Q E = (f η s).to (KMk .lst Q) E := by
  unfold fLst
  rw [to_bind]
  congr 1
  funext xs s1
  unfold KB KMk
  rw [to_gR]
  rfl
theorem to_lstL {Q : List D → S → Prop} (f : En → S → R S (List D)) (η : En) (s : S) : (fLstL f η s).to Q E = (f η s).to (KMkL Q) E := by
  unfold fLstL
  rw [to_bind]
  congr 1
  funext xs s1
  unfold KB KMkL
  rw [to_gR]
  rfl
theorem to_items {Q : List D → S → Prop} (f : En → S → R S D) (η : En) (s : S) : (fItems f η s).to Q E = (f η s).to (KIt Q) E := by
  unfold fItems
  rw [to_bind]
  congr 1
  funext x s1
  unfold KB KIt
  dsimp only
  cases itemsOf x with
  | none => simp [to_no]
  | some xs => simp [to_ok]
theorem to_rng1 {Q : List D → S → Prop} (f : En → S → R S (List D)) (η : En) (s : S) : (fRng1 f η s).to Q E = (f η s).to (KR1 Q) E := by
  unfold fRng1
  rw [to_bind]
  congr 1
  funext x s1
  unfold KB KR1
  dsimp only
  split
  · rw [to_gR]
    simp [to_ok]
  · rename_i h
    apply propext
    constructor
    · intro z; exact z.elim
    · rintro ⟨j, rfl, _⟩
      exact (h j rfl).elim
theorem to_rng2 {Q : List D → S → Prop} (f : En → S → R S (List D)) (η : En) (s : S) : (fRng2 f η s).to Q E = (f η s).to (KR2 Q) E := by
  unfold fRng2
  rw [to_bind]
  congr 1
  funext x s1
  unfold KB KR2
  dsimp only
  split
  · rw [to_gR]
    simp [and_assoc, to_ok]
  · rename_i h
    apply propext
    constructor
    · intro z; exact z.elim
    · rintro ⟨i, j, rfl, _⟩
      exact (h i j rfl).elim
theorem to_enum {Q : List D → S → Prop} (f : En → S → R S (List D)) (η : En) (s : S) : (fEnum f η s).to Q E = (f η s).to (KEn Q) E := by
  unfold fEnum
  rw [to_bind]
  congr 1
  funext x s1
  unfold KB KEn
  dsimp only
  split
  · simp [to_ok, to_nx]
  · simp [to_ok, to_nx]
  · rename_i h1 h2
    apply propext
    constructor
    · intro z; exact z.elim
    · rintro ⟨ds, rfl | rfl, _⟩
      · exact (h1 ds rfl).elim
      · exact (h2 ds rfl).elim
theorem to_sl {Q : D → S → Prop} (a : En → S → R S D) (l h : En → S → R S (Option Int)) (η : En) (s : S) : (fSl a l h η s).to Q E = (a η s).to (KB (fun x s1 => (l η s1).bind fun lo s2 => (h η s2).bind fun hi s3 => gSl x lo hi s3) Q E) E := to_bind _ _
theorem to_oNone {Q : Option Int → S → Prop} (η : En) (s : S) : (oNone η s).to Q E = Q none s := nr rfl
theorem to_oSome {Q : Option Int → S → Prop} (f : En → S → R S D) (η : En) (s : S) : (oSome f η s).to Q E = (f η s).to (KOS Q) E := by
  unfold oSome
  rw [to_bind]
  congr 1
  funext x s1
  unfold KB KOS
  dsimp only
  cases x <;> simp [to_ok, to_no]
theorem to_join {Q : D → S → Prop} (fo fe : En → S → R S D) (η : En) (s : S) : (fJoin fo fe η s).to Q E = (fo η s).to (KB (fun x s1 => match x with | .str x => (fe η s1).bind fun y s2 => gJoin x y s2 | _ => .no) Q E) E := to_bind _ _
/-! statements -/
theorem to_set (i : Nat) (f : Sn → S → R S D) (ε : Sn) (s : S) : (sSet i f ε s).to P = (f ε s).to (KSet i ε P) P.er := by
  unfold sSet
  rw [to_bindS]
  rfl
theorem to_sown (i : Nat) (f : Sn → S → R S (List D)) (ε : Sn) (s : S) : (sOwn i f ε s).to P = (f ε s).to (KOwn i ε P) P.er := by
  unfold sOwn
  rw [to_bindS]
  rfl
theorem to_newL (i : Nat) (f : Sn → S → R S (List D)) (ε : Sn) (s : S) : (sNewL i f ε s).to P = (f ε s).to (KNew i ε P) P.er := by
  unfold sNewL
  rw [to_bindS]
  congr 1
  funext xs s1
  unfold KS KNew
  rw [to_gS]
  rfl
theorem to_sret (f : Sn → S → R S D) (ε : Sn) (s : S) : (sRet f ε s).to P = (f ε s).to P.rt P.er := by
  unfold sRet
  rw [to_bindS]
  rfl
theorem to_sretN (ε : Sn) (s : S) : (sRetN ε s).to P = P.rt .non s := nr rfl
theorem to_sretL (f : Sn → S → R S (List D)) (ε : Sn) (s : S) : (sRetL f ε s).to P = (f ε s).to P.rl P.er := by
  unfold sRetL
  rw [to_bindS]
  rfl
theorem to_snil (ε : Sn) (s : S) : (sNil ε s).to P = P.nx ε s := nr rfl
theorem to_sbk (ε : Sn) (s : S) : (sBk ε s).to P = P.bk ε s := nr rfl
theorem to_sct (ε : Sn) (s : S) : (sCt ε s).to P = P.ct ε s := nr rfl
theorem to_drop (f : Sn → S → R S D) (ε : Sn) (s : S) : (sDrop f ε s).to P = (f ε s).to (KDrop ε P) P.er := by
  unfold sDrop
  rw [to_bindS]
  rfl
theorem to_stup (T : Tg) (f : Sn → S → R S D) (ε : Sn) (s : S) : (sTup T f ε s).to P = (f ε s).to (KTup T ε P) P.er := by
  unfold sTup
  rw [to_bindS]
  congr 1
  funext d s1
  unfold KS KTup
  dsimp only
  cases setTn T d ε with
  | none => simp [to_nos]
  | some ε' => simp [to_nx]
theorem to_par (i j : Nat) (f : Sn → S → R S (List D)) (ε : Sn) (s : S) : (sPar i j f ε s).to P = (f ε s).to (KPar i j ε P) P.er := by
  unfold sPar
  rw [to_bindS]
  congr 1
  funext ds s1
  unfold KS KPar
  dsimp only
  split
  · rename_i d e
    apply propext
    constructor
    · intro z; exact ⟨d, e, rfl, z⟩
    · rintro ⟨d', e', h, z⟩
      cases h
      exact z
  · rename_i h
    apply propext
    constructor
    · intro z; exact z.elim
    · rintro ⟨d, e, rfl, _⟩
      exact (h d e rfl).elim
theorem to_parL (i j : Nat) (f : Sn → S → R S D) (g : Sn → S → R S (List D)) (ε : Sn) (s : S) : (sParL i j f g ε s).to P = (f ε s).to (KS (fun d s1 => bindS (g ε s1) ε fun xs s2 => .nx ((ε.set i (some (.d d))).set j (some (.ow (.l xs)))) s2) P) P.er := to_bindS _ _ _
/-- the list that a slot owns -/
def owL (i : Nat) (ε : Sn) (Q : List D → Prop) : Prop := ∃ xs, ε[i]? = some (some (.ow (.l xs))) ∧ Q xs
theorem owL0 (xs : List D) (ε : Sn) (Q : List D → Prop) : owL 0 (some (.ow (.l xs)) :: ε) Q = Q xs := by simp [owL]
theorem owLS (n : Nat) (o : Option O) (ε : Sn) (Q : List D → Prop) : owL (n + 1) (o :: ε) Q = owL n ε Q := by simp [owL]
def owK (i : Nat) (ε : Sn) (Q : List (List Nat × D) → Prop) : Prop := ∃ xs, ε[i]? = some (some (.ow (.k xs))) ∧ Q xs
theorem owK0 (xs : List (List Nat × D)) (ε : Sn) (Q : List (List Nat × D) → Prop) : owK 0 (some (.ow (.k xs)) :: ε) Q = Q xs := by simp [owK]
theorem owKS (n : Nat) (o : Option O) (ε : Sn) (Q : List (List Nat × D) → Prop) : owK (n + 1) (o :: ε) Q = owK n ε Q := by simp [owK]
def datD (i : Nat) (ε : Sn) (Q : D → Prop) : Prop := ∃ x, ε[i]? = some (some (.d x)) ∧ Q x
theorem datD0 (x : D) (ε : Sn) (Q : D → Prop) : datD 0 (some (.d x) :: ε) Q = Q x := by simp [datD]
theorem datDS (n : Nat) (o : Option O) (ε : Sn) (Q : D → Prop) : datD (n + 1) (o :: ε) Q = datD n ε Q := by simp [datD]
theorem owL_at {i : Nat} {ε : Sn} {xs : List D} {Q : List D → Prop} (h : ε[i]? = some (some (.ow (.l xs)))) : owL i ε Q = Q xs := by simp [owL, h]
theorem owK_at {i : Nat} {ε : Sn} {xs : List (List Nat × D)} {Q : List (List Nat × D) → Prop} (h : ε[i]? = some (some (.ow (.k xs)))) : owK i ε Q = Q xs := by simp [owK, h]
theorem datD_at {i : Nat} {ε : Sn} {x : D} {Q : D → Prop} (h : ε[i]? = some (some (.d x))) : datD i ε Q = Q x := by simp [datD, h]
theorem to_app (i : Nat) (f : Sn → S → R S D) (ε : Sn) (s : S) : (sApp i f ε s).to P = owL i ε fun xs => (f ε s).to (KApp i ε xs P) P.er := by
  unfold sApp
  split
  · rename_i xs h
    rw [to_bindS, owL_at h]
    congr 1
    funext d s1
    unfold KS KApp
    rw [to_gS]
    rfl
  · rename_i h
    exact propext ⟨fun z => (show False from z).elim, fun ⟨xs, e, _⟩ => (h xs e).elim⟩
theorem to_ext (i : Nat) (f : Sn → S → R S D) (ε : Sn) (s : S) : (sExt i f ε s).to P = owL i ε fun xs => (f ε s).to (KExt i ε xs P) P.er := by
  unfold sExt
  split
  · rename_i xs h
    rw [to_bindS, owL_at h]
    congr 1
    funext d s1
    unfold KS KExt
    dsimp only
    cases d with
    | lst ys => simp [to_gS, to_nx]
    | _ => simp [to_nos]
  · rename_i h
    exact propext ⟨fun z => (show False from z).elim, fun ⟨xs, e, _⟩ => (h xs e).elim⟩
theorem to_retO (i : Nat) (ε : Sn) (s : S) : (sRetO i ε s).to P = owL i ε fun xs => P.rl xs s := by
  unfold sRetO
  split
  · rename_i xs h
    rw [owL_at h]
    rfl
  · rename_i h
    exact propext ⟨fun z => (show False from z).elim, fun ⟨xs, e, _⟩ => (h xs e).elim⟩
theorem to_aug (i : Nat) (g : D → D → S → R S D) (f : Sn → S → R S D) (ε : Sn) (s : S) : (sAug i g f ε s).to P = datD i ε fun x => (f ε s).to (KB (g x) (KSet i ε P) P.er) P.er := by
  unfold sAug
  split
  · rename_i x h
    rw [to_bindS, datD_at h]
    congr 1
    funext d s1
    unfold KS
    rw [to_bindS]
    rfl
  · rename_i h
    exact propext ⟨fun z => (show False from z).elim, fun ⟨xs, e, _⟩ => (h xs e).elim⟩
theorem to_newK (i : Nat) (ε : Sn) (s : S) : (sNewK i ε s).to P = P.nx (ε.set i (some (.ow (.k [])))) s := nr rfl
theorem to_putK (i : Nat) (fk f : Sn → S → R S D) (ε : Sn) (s : S) : (sPutK i fk f ε s).to P = owK i ε fun kvs => (f ε s).to (KS (fun d s1 => bindS (fk ε s1) ε fun k s2 => match k with
    | .str l => if kvs.length < sizeLine then .nx (ε.set i (some (.ow (.k (putD kvs l d))))) s2 else .no
    | _ => .no) P) P.er := by
  unfold sPutK
  split
  · rename_i xs h
    rw [to_bindS, owK_at h]
    all_goals rfl
  · rename_i h
    exact propext ⟨fun z => (show False from z).elim, fun ⟨xs, e, _⟩ => (h xs e).elim⟩
theorem frz0 (xs : List D) (ε : Sn) : frz 0 (some (.ow (.l xs)) :: ε) = some (.d (.lst xs)) :: ε := nr rfl
theorem frzS (n : Nat) (o : Option O) (ε : Sn) : frz (n + 1) (o :: ε) = o :: frz n ε := by
  unfold frz
  rw [List.getElem?_cons_succ]
  cases h : ε[n]? with
  | none => simp
  | some z =>
    cases z with
    | none => simp
    | some o' =>
      cases o' with
      | d x => simp
      | ow w => cases w <;> simp
theorem set0 {τ : Type} (a b : τ) (l : List τ) : (a :: l).set 0 b = b :: l := nr rfl
theorem setS {τ : Type} (n : Nat) (a b : τ) (l : List τ) : (a :: l).set (n + 1) b = a :: l.set n b := nr rfl
/-! a comprehension by its items -/
theorem comp_map {δ : Type} {Q : List D → S → Prop} {T : Tg} {c : En → S → R S Bool} {e : En → S → R S D} {η : En} {s : S} {l : List δ} {g : δ → D} (p : δ → Bool) (f : δ → D)
    (h : ∀ x ∈ l, ∃ η1, setT T (g x) η = some η1 ∧ (c η1 s).to (fun b s' => b = p x ∧ s' = s) noE ∧ (p x = true → (e η1 s).to (fun d s' => d = f x ∧ s' = s) noE)) (q : Q ((l.filter p).map f) s) : (compL T c e η (l.map g) s).to Q E := by
  rw [compL_map g p f l fun x hx => ?_]
  · exact q
  · obtain ⟨η1, h1, h2, h3⟩ := h x hx
    exact ⟨η1, h1, R.eq_of h2, fun hp => R.eq_of (h3 hp)⟩
theorem comp_all {δ : Type} {Q : List D → S → Prop} {T : Tg} {e : En → S → R S D} {η : En} {s : S} {l : List δ} {g : δ → D} (f : δ → D)
    (h : ∀ x ∈ l, ∃ η1, setT T (g x) η = some η1 ∧ (e η1 s).to (fun d s' => d = f x ∧ s' = s) noE) (q : Q (l.map f) s) : (compL T bYes e η (l.map g) s).to Q E := by
  refine comp_map (fun _ => true) f (fun x hx => ?_) (by rw [List.filter_eq_self.mpr fun _ _ => rfl]; exact q)
  obtain ⟨η1, h1, h2⟩ := h x hx
  exact ⟨η1, h1, ⟨rfl, rfl⟩, fun _ => h2⟩
theorem comp_inv {Q : List D → S → Prop} {T : Tg} {e : En → S → R S D} {η : En} {s : S} {items : List D} (I : S → Prop) (R' : D → Prop) (hI : I s)
    (h : ∀ x ∈ items, ∀ s, I s → ∃ η1, setT T x η = some η1 ∧ (e η1 s).to (fun y s1 => I s1 ∧ R' y) noE) (q : ∀ ys s', I s' → ys.length = items.length → (∀ y ∈ ys, R' y) → Q ys s') : (compL T bYes e η items s).to Q E := by
  obtain ⟨ys, s', h1, h2, h3, h4⟩ := compL_inv (T := T) (e := e) (η := η) I R' items s hI fun x hx s hs => by
    obtain ⟨η1, a1, a2⟩ := h x hx s hs
    obtain ⟨y, s1, b1, b2, b3⟩ := R.to_eq a2
    exact ⟨η1, y, s1, a1, b1, b2, b3⟩
  rw [h1]
  exact q ys s' h2 h3 h4
theorem comp_sub {Q : List D → S → Prop} {T : Tg} {c : En → S → R S Bool} {e : En → S → R S D} {η : En} {s : S} {items : List D} (I : S → Prop) (hI : I s)
    (h : ∀ x ∈ items, ∀ s, I s → ∃ η1, setT T x η = some η1 ∧ (c η1 s).to (fun _ s1 => I s1) noE ∧ ∀ s, (e η1 s).to (fun y s1 => y = x ∧ s1 = s) noE) (q : ∀ ys s', I s' → ys.Sublist items → Q ys s') : (compL T c e η items s).to Q E := by
  obtain ⟨ys, s', h1, h2, h3⟩ := compL_sub (T := T) (c := c) (e := e) (η := η) I items s hI fun x hx s hs => by
    obtain ⟨η1, a1, a2, a3⟩ := h x hx s hs
    obtain ⟨y, s1, b1, b2⟩ := R.to_eq a2
    exact ⟨η1, y, s1, a1, b1, b2, fun _ s _ => R.eq_of (a3 s)⟩
  rw [h1]
  exact q ys s' h2 h3
/-! a loop by what stands ahead of each turn -/
/-- I: the items that are left, the slots, the state -/
theorem for_inv {T : Tg} {b : Sn → S → SR S} (I : List D → Sn → S → Prop) : ∀ {items : List D} {ε : Sn} {s : S} {P : Po S}, I items ε s →
    (∀ x rest ε s, I (x :: rest) ε s → ∃ ε1, setTn T x ε = some ε1 ∧ (b ε1 s).to { P with nx := I rest, ct := I rest, bk := P.nx }) → (∀ ε s, I [] ε s → P.nx ε s) → (forL T b items ε s).to P
  | [], ε, s, P, h0, _, h2 => h2 ε s h0
  | x :: xs, ε, s, P, h0, h1, h2 => by
    obtain ⟨ε1, e1, e2⟩ := h1 x xs ε s h0
    simp only [forL, e1]
    cases hb : b ε1 s with
    | nx a s1 => rw [hb] at e2; exact for_inv I e2 h1 h2
    | ct a s1 => rw [hb] at e2; exact for_inv I e2 h1 h2
    | bk a s1 => rw [hb] at e2; exact e2
    | rt a s1 => rw [hb] at e2; exact e2
    | rl a s1 => rw [hb] at e2; exact e2
    | er a c s1 => rw [hb] at e2; exact e2
    | no => rw [hb] at e2; exact e2
/-- over a typed list -/
theorem for_list {δ : Type} {T : Tg} {b : Sn → S → SR S} {g : δ → D} (I : List δ → Sn → S → Prop) : ∀ {l : List δ} {ε : Sn} {s : S} {P : Po S}, I l ε s →
    (∀ x rest ε s, I (x :: rest) ε s → ∃ ε1, setTn T (g x) ε = some ε1 ∧ (b ε1 s).to { P with nx := I rest, ct := I rest, bk := P.nx }) → (∀ ε s, I [] ε s → P.nx ε s) → (forL T b (l.map g) ε s).to P
  | [], ε, s, P, h0, _, h2 => h2 ε s h0
  | x :: xs, ε, s, P, h0, h1, h2 => by
    obtain ⟨ε1, e1, e2⟩ := h1 x xs ε s h0
    simp only [List.map_cons, forL, e1]
    cases hb : b ε1 s with
    | nx a s1 => rw [hb] at e2; exact for_list I e2 h1 h2
    | ct a s1 => rw [hb] at e2; exact for_list I e2 h1 h2
    | bk a s1 => rw [hb] at e2; exact e2
    | rt a s1 => rw [hb] at e2; exact e2
    | rl a s1 => rw [hb] at e2; exact e2
    | er a c s1 => rw [hb] at e2; exact e2
    | no => rw [hb] at e2; exact e2
theorem forL_nil {T : Tg} {b : Sn → S → SR S} : (forL T b [] ε s).to P = P.nx ε s := nr rfl
/-- a while by a measure -/
theorem while_to {c : Sn → S → R S Bool} {b : Sn → S → SR S} (I : Nat → Sn → S → Prop) : ∀ (n : Nat) {ε : Sn} {s : S} {P : Po S}, I n ε s →
    (∀ n ε s, I n ε s → (c ε s).to (fun t s1 => if t = true then (b ε s1).to { P with nx := fun ε' s' => ∃ m, m < n ∧ I m ε' s', ct := fun ε' s' => ∃ m, m < n ∧ I m ε' s', bk := P.nx } else P.nx ε s1) P.er) → (whileD c b ε s).to P := by
  have go : ∀ (n : Nat) {ε : Sn} {s : S} {P : Po S}, I n ε s →
    (∀ n ε s, I n ε s → (c ε s).to (fun t s1 => if t = true then (b ε s1).to { P with nx := fun ε' s' => ∃ m, m < n ∧ I m ε' s', ct := fun ε' s' => ∃ m, m < n ∧ I m ε' s', bk := P.nx } else P.nx ε s1) P.er) → (whileF c b (n + 1) ε s).to P := by
    intro n
    induction n using Nat.strongRecOn with
    | ind n ih =>
      intro ε s P h0 h
      have mono : ∀ k m ε s, (whileF c b k ε s).to P → k ≤ m → whileF c b m ε s = whileF c b k ε s := by
        intro k
        induction k with
        | zero => intro m ε s h _; exact h.elim
        | succ k ihk =>
          intro m ε s h hm
          obtain ⟨m, rfl⟩ : ∃ m', m = m' + 1 := ⟨m - 1, by omega⟩
          simp only [whileF] at h ⊢
          cases hc : c ε s with
          | no => rfl
          | er e s1 => rfl
          | ok t s1 =>
            rw [hc] at h
            simp only [bindS] at h ⊢
            cases t with
            | false => rfl
            | true =>
              simp only at h ⊢
              cases hb : b ε s1 with
              | nx ε' s' => rw [hb] at h; simp only at h ⊢; exact ihk m ε' s' h (by omega)
              | ct ε' s' => rw [hb] at h; simp only at h ⊢; exact ihk m ε' s' h (by omega)
              | _ => rfl
      have h1 := h n ε s h0
      simp only [whileF]
      rw [to_bindS]
      cases hc : c ε s with
      | no => rw [hc] at h1; exact h1
      | er e s1 => rw [hc] at h1; exact h1
      | ok t s1 =>
        rw [hc] at h1
        cases t with
        | false => exact h1
        | true =>
          have h1 : (b ε s1).to { P with nx := fun ε' s' => ∃ m, m < n ∧ I m ε' s', ct := fun ε' s' => ∃ m, m < n ∧ I m ε' s', bk := P.nx } := h1
          rw [to_ok]
          unfold KS
          dsimp only
          cases hb : b ε s1 with
          | nx ε' s' =>
            rw [hb] at h1
            obtain ⟨m, hm, hi⟩ := h1
            have q := ih m hm hi h
            show (whileF c b n ε' s').to P
            rw [mono (m + 1) n ε' s' q (by omega)]
            exact q
          | ct ε' s' =>
            rw [hb] at h1
            obtain ⟨m, hm, hi⟩ := h1
            have q := ih m hm hi h
            show (whileF c b n ε' s').to P
            rw [mono (m + 1) n ε' s' q (by omega)]
            exact q
          | bk a s1 => rw [hb] at h1; exact h1
          | rt a s1 => rw [hb] at h1; exact h1
          | rl a s1 => rw [hb] at h1; exact h1
          | er a c s1 => rw [hb] at h1; exact h1
          | no => rw [hb] at h1; exact h1
  intro n ε s P h0 h
  have q := go n h0 h
  have ne : whileF c b (n + 1) ε s ≠ .no := fun z => by rw [z] at q; exact q
  rw [whileD_of (n + 1) rfl ne]
  exact q
end
end
/-! .. and the closed ones met -/
section
variable {S S1 α : Type} {Q : D → S → Prop} {QL : List D → S → Prop} {P : Po S} {ε : Sn} {s : S}
theorem k_li {Q : α → S → Prop} (put : S → S1 → S) (s : S) (a : α) (t : S1) : KLi put s Q a t = Q a (put s t) := nr rfl
theorem k_set (i : Nat) (d : D) : KSet i ε P d s = P.nx (ε.set i (some (.d d))) s := nr rfl
theorem k_own (i : Nat) (d : List D) : KOwn i ε P d s = P.nx (ε.set i (some (.ow (.l d)))) s := nr rfl
theorem k_new (i : Nat) (d : List D) : KNew i ε P d s = (d.length ≤ sizeLine ∧ P.nx (ε.set i (some (.ow (.l d)))) s) := nr rfl
theorem k_drop (d : D) : KDrop ε P d s = P.nx ε s := nr rfl
theorem k_tupN (i : Nat) (d : D) : KTup (.nm i) ε P d s = P.nx (ε.set i (some (.d d))) s := by simp [KTup, setTn]
theorem k_tupT (is : List Nat) (ds : List D) : KTup (.tp is) ε P (.tup ds) s = (ds.length = is.length ∧ P.nx ((is.zip ds).foldl (fun ε p => ε.set p.1 (some (.d p.2))) ε) s) := by
  unfold KTup setTn
  by_cases h : ds.length = is.length
  · simp [h]
  · simp [h]
theorem k_par (i j : Nat) (d e : D) : KPar i j ε P [d, e] s = P.nx ((ε.set i (some (.d d))).set j (some (.d e))) s := by
  unfold KPar
  apply propext
  constructor
  · rintro ⟨d', e', h, z⟩; cases h; exact z
  · intro z; exact ⟨d, e, rfl, z⟩
theorem k_app (i : Nat) (xs : List D) (d : D) : KApp i ε xs P d s = (xs.length < sizeLine ∧ P.nx (ε.set i (some (.ow (.l (xs ++ [d]))))) s) := nr rfl
theorem k_ext (i : Nat) (xs ys : List D) : KExt i ε xs P (.lst ys) s = (xs.length + ys.length ≤ sizeLine ∧ P.nx (ε.set i (some (.ow (.l (xs ++ ys))))) s) := by simp [KExt]
theorem k_its (l : List Nat) : KIt QL (.str l) s = QL (l.map sgD) s := by simp [KIt, itemsOf, signs_eq]
theorem k_itt (l : List D) : KIt QL (.tup l) s = QL l s := by simp [KIt, itemsOf]
theorem k_itl (l : List D) : KIt QL (.lst l) s = QL l s := by simp [KIt, itemsOf]
theorem k_r1 (j : Int) : KR1 QL [.int j] s = (okR j = true ∧ QL (rngD 0 j.toNat) s) := by simp [KR1]
theorem k_r2 (i j : Int) : KR2 QL [.int i, .int j] s = (okR i = true ∧ okR j = true ∧ QL (rngD i (j - i).toNat) s) := by
  unfold KR2
  apply propext
  constructor
  · rintro ⟨d', e', h, z⟩; cases h; exact z
  · intro z; exact ⟨i, j, rfl, z⟩
theorem k_ent (l : List D) : KEn QL [.tup l] s = QL (pairs 0 l) s := by simp [KEn]
theorem k_enl (l : List D) : KEn QL [.lst l] s = QL (pairs 0 l) s := by simp [KEn]
theorem k_os {Q : Option Int → S → Prop} (i : Int) : KOS Q (.int i) s = Q (some i) s := by simp [KOS]
theorem k_mk (f : List D → D) (xs : List D) : KMk f Q xs s = (xs.length ≤ sizeLine ∧ Q (f xs) s) := nr rfl
theorem k_mkl (xs : List D) : KMkL QL xs s = (xs.length ≤ sizeLine ∧ QL xs s) := nr rfl
theorem k_nb (b : Bool) : KNb Q b s = Q (.bl (!b)) s := nr rfl
theorem k_op {Q : α → S → Prop} (a : α) : KOp (some a) Q s = Q a s := by simp [KOp]
theorem k_ch (c : Nat) : KCh Q c s = Q (.str [c]) s := nr rfl
theorem k_bl (b : Bool) : KBl Q b s = Q (.bl b) s := nr rfl
theorem k_bf (f : List Bool → Bool) (b : List Bool) : KBf f Q b s = Q (.bl (f b)) s := nr rfl
theorem k_jn (x : List Nat) (ls : List (List Nat)) : KJn x Q ls s = ((ls.map List.length).sum + ls.length * x.length ≤ 16777216 ∧ Q (.str (glue x ls)) s) := nr rfl
end
/-! operators on data -/
section
variable {S : Type} {Q : D → S → Prop} {E : Err → S → Prop} {s : S}
theorem gAdd_i (i j : Int) : (gAdd (.int i) (.int j) s).to Q E = Q (.int (i + j)) s := nr rfl
theorem gAdd_s (a b : List Nat) : (gAdd (.str a) (.str b) s).to Q E = (a.length + b.length ≤ sizeLine ∧ Q (.str (a ++ b)) s) := by unfold gAdd; rw [to_gR]; rfl
theorem gAdd_t (a b : List D) : (gAdd (.tup a) (.tup b) s).to Q E = (a.length + b.length ≤ sizeLine ∧ Q (.tup (a ++ b)) s) := by unfold gAdd; rw [to_gR]; rfl
theorem gAdd_l (a b : List D) : (gAdd (.lst a) (.lst b) s).to Q E = (a.length + b.length ≤ sizeLine ∧ Q (.lst (a ++ b)) s) := by unfold gAdd; rw [to_gR]; rfl
theorem gAddI_i (i j : Int) : (gAddI (.int i) (.int j) s).to Q E = Q (.int (i + j)) s := nr rfl
theorem gInt_i (f : Int → Int → D) (c : Int → Int → Bool) (i j : Int) : (gInt f c (.int i) (.int j) s).to Q E = (c i j = true ∧ Q (f i j) s) := by unfold gInt; rw [to_gR]; rfl
theorem gOrd_i (ci : Int → Int → Bool) (cs : List Nat → List Nat → Bool) (i j : Int) : (gOrd ci cs (.int i) (.int j) s).to Q E = Q (.bl (ci i j)) s := nr rfl
theorem gOrd_s (ci : Int → Int → Bool) (cs : List Nat → List Nat → Bool) (i j : List Nat) : (gOrd ci cs (.str i) (.str j) s).to Q E = Q (.bl (cs i j)) s := nr rfl
theorem gEq_to (f : Bool → Bool) (d e : D) : (gEq f d e s).to Q E = (okE d = true ∧ okE e = true ∧ Q (.bl (f (eqD d e))) s) := by
  unfold gEq
  rw [to_gR, and_assoc]
  rfl
theorem gIs_to (f : Bool → Bool) (d : D) : (gIs f d .non s).to Q E = Q (.bl (f (isNon d))) s := nr rfl
theorem gIn_s (f : Bool → Bool) (c : Nat) (z : List Nat) : (gIn f (.str [c]) (.str z) s).to Q E = Q (.bl (f (decide (c ∈ z)))) s := nr rfl
theorem gIx_l (xs : List D) (i : Int) : (gIx (.lst xs) (.int i) s).to Q E = KOp (L2.atI xs i) Q s := by
  unfold gIx KOp
  cases h : L2.atI xs i with
  | none => simp [h, to_no]
  | some d => simp [h, to_ok]
theorem gIx_t (xs : List D) (i : Int) : (gIx (.tup xs) (.int i) s).to Q E = KOp (L2.atI xs i) Q s := by
  unfold gIx KOp
  cases h : L2.atI xs i with
  | none => simp [h, to_no]
  | some d => simp [h, to_ok]
theorem gIx_s (l : List Nat) (i : Int) : (gIx (.str l) (.int i) s).to Q E = (l.length ≤ sizeLine ∧ KOp (L2.atI l i) (KCh Q) s) := by
  unfold gIx KOp KCh
  rw [to_gR]
  cases h : L2.atI l i with
  | none => simp [h, to_no]
  | some d => simp [h, to_ok]
theorem gLen_s (l : List Nat) : (gLen [.str l] s).to Q E = (l.length ≤ sizeLine ∧ Q (.int l.length) s) := by
  unfold gLen
  first | (rw [to_gR]; rfl) | skip
theorem gLen_t (l : List D) : (gLen [.tup l] s).to Q E = Q (.int l.length) s := nr rfl
theorem gLen_l (l : List D) : (gLen [.lst l] s).to Q E = Q (.int l.length) s := nr rfl
theorem gTup_l (l : List D) : (gTupOf [.lst l] s).to Q E = Q (.tup l) s := nr rfl
theorem gTup_t (l : List D) : (gTupOf [.tup l] s).to Q E = Q (.tup l) s := nr rfl
theorem gIsi_to (T : Ty) (d : D) : (gIsi T d s).to Q E = KOp (isD T d) (KBl Q) s := by
  unfold gIsi KOp KBl
  cases h : isD T d with
  | none => simp [to_no]
  | some d => simp [to_ok]
theorem gIsi2_to (T U : Ty) (d : D) : (gIsi2 T U d s).to Q E = KOp (match isD T d, isD U d with | some b, some c => some (b || c) | _, _ => none) (KBl Q) s := by
  unfold gIsi2 KOp KBl
  cases h : isD T d with
  | none => simp [to_no]
  | some b =>
    cases h2 : isD U d with
    | none => simp [to_no]
    | some c => simp [to_ok]
theorem gSl_s (l : List Nat) (lo hi : Option Int) : (gSl (.str l) lo hi s).to Q E = (l.length ≤ sizeLine ∧ Q (.str (cutL l lo hi)) s) := by unfold gSl; rw [to_gR]; rfl
theorem gSl_t (l : List D) (lo hi : Option Int) : (gSl (.tup l) lo hi s).to Q E = Q (.tup (cutL l lo hi)) s := nr rfl
theorem gSl_l (l : List D) (lo hi : Option Int) : (gSl (.lst l) lo hi s).to Q E = Q (.lst (cutL l lo hi)) s := nr rfl
theorem gAll_to (f : List Bool → Bool) (ds : List D) : (gAll f [.lst ds] s).to Q E = KOp (blsOf ds) (KBf f Q) s := by
  unfold gAll KOp KBf
  dsimp only
  cases h : blsOf ds with
  | none => simp [to_no]
  | some bs => simp [to_ok]
theorem gJoin_to (x : List Nat) (ds : List D) : (gJoin x (.lst ds) s).to Q E = KOp (strsOf ds) (KJn x Q) s := by
  unfold gJoin KOp KJn
  dsimp only
  cases h : strsOf ds with
  | none => simp [to_no]
  | some bs => simp [to_gR, to_ok]
theorem at_0 {α : Type} (a : α) (l : List α) : L2.atI (a :: l) 0 = some a := atI_zero
theorem at_1 {α : Type} (a b : α) (l : List α) : L2.atI (a :: b :: l) 1 = some b := atI_eq (a :: b :: l) 1
theorem at_2 {α : Type} (a b c : α) (l : List α) : L2.atI (a :: b :: c :: l) 2 = some c := atI_eq (a :: b :: c :: l) 2
theorem at_3 {α : Type} (a b c d : α) (l : List α) : L2.atI (a :: b :: c :: d :: l) 3 = some d := atI_eq (a :: b :: c :: d :: l) 3
theorem ex_eq {α : Type} {a : α} {p : α → Prop} : (∃ b, a = b ∧ p b) = p a := propext exists_eq_left'
end
end Dm
namespace Dm
open PySem L2
/-! data that can be held against one another -/
mutual
def smD : D → Bool
  | .lst xs => decide (xs.length ≤ 1000000) && smDs xs
  | .tup xs => decide (xs.length ≤ 1000000) && smDs xs
  | .str x => x.all (· < 0x110000)
  | .nm _ => false
  | .dct _ _ => false
  | _ => true
def smDs : List D → Bool
  | [] => true
  | d :: ds => smD d && smDs ds
end
theorem smDs_all : ∀ {ds : List D}, smDs ds = true ↔ ∀ d ∈ ds, smD d = true
  | [] => by simp [smDs]
  | d :: ds => by
    simp only [smDs, Bool.and_eq_true, smDs_all (ds := ds), List.mem_cons]
    constructor
    · rintro ⟨h1, h2⟩ x (rfl | hx)
      · exact h1
      · exact h2 x hx
    · intro h
      exact ⟨h d (.inl rfl), fun x hx => h x (.inr hx)⟩
mutual
theorem smD_ok : ∀ {d : D}, smD d = true → okD d = true
  | .non, _ => rfl
  | .bl _, _ => rfl
  | .int _, _ => rfl
  | .str x, h => h
  | .tup xs, h => by
    simp only [smD, Bool.and_eq_true] at h
    simp only [okD]
    exact smDs_ok h.2
  | .lst xs, h => by
    simp only [smD, Bool.and_eq_true] at h
    simp only [okD]
    exact smDs_ok h.2
theorem smDs_ok : ∀ {ds : List D}, smDs ds = true → okDs ds = true
  | [], _ => rfl
  | d :: ds, h => by
    simp only [smDs, Bool.and_eq_true] at h
    simp only [okDs, smD_ok h.1, smDs_ok h.2, Bool.and_self]
end
mutual
theorem eqD_refl : ∀ d : D, okD d = true → eqD d d = true
  | .non, _ => rfl
  | .bl b, _ => by simp [eqD]
  | .int _, _ => by simp [eqD]
  | .str x, h => by simp [eqD]
  | .tup xs, h => by simp only [okD] at h; simp only [eqD]; exact eqDs_refl xs h
  | .lst xs, h => by simp only [okD] at h; simp only [eqD]; exact eqDs_refl xs h
  | .nm _, h => by cases h
  | .dct _ _, h => by cases h
theorem eqDs_refl : ∀ ds : List D, okDs ds = true → eqDs ds ds = true
  | [], _ => rfl
  | d :: ds, h => by
    simp only [okDs, Bool.and_eq_true] at h
    simp only [eqDs, eqD_refl d h.1, eqDs_refl ds h.2, Bool.and_self]
end
theorem okE_of {d : D} (h : smD d = true) (hd : depD d ≤ 64) : okE d = true := by
  unfold okE
  rw [smD_ok h, decide_eq_true hd]
  rfl
theorem depDs_le {ds : List D} {n : Nat} : (∀ d ∈ ds, depD d ≤ n) ↔ depDs ds ≤ n := by
  induction ds with
  | nil => simp [depDs]
  | cons d ds ih =>
    simp only [List.mem_cons, depDs]
    constructor
    · intro h
      have h1 := h d (.inl rfl)
      have h2 := ih.mp fun x hx => h x (.inr hx)
      omega
    · intro h x hx
      rcases hx with rfl | hx
      · omega
      · exact ih.mpr (by omega) x hx
end Dm
namespace Dm
open PySem L2
/-! the script's row -/
def KScr (Q : List D → List Int → Prop) : D → List Int → Prop := fun d s => match d with
  | .nm 1 => Q (s.map D.int) s
  | _ => False
theorem to_scr {Q : List D → List Int → Prop} {E : Err → List Int → Prop} (f : En → List Int → R (List Int) D) (η : En) (s : List Int) : (fScr f η s).to Q E = (f η s).to (KScr Q) E := by
  unfold fScr
  rw [to_bind]
  congr 1
  funext d s1
  unfold KB KScr
  dsimp only
  cases d with
  | nm i =>
    by_cases h : i = 1
    · subst h; rfl
    · simp [h, to_no]
  | _ => simp [to_no]
theorem k_scr {Q : List D → List Int → Prop} (s : List Int) : KScr Q (.nm 1) s = Q (s.map D.int) s := nr rfl
/-! a list told is changed behind -/
theorem to_told_l {i : Nat} {f : En → RS → R RS (List D ⊕ D)} {gc : En → RS → R RS Bool} {g2 : Sn → RS → SR RS} {ε : Sn} {s s1 s2 : RS} {P : Po RS} {xs : List D} (e : f (hide ε) s = .ok (.inl xs) s1)
    (g : gc (hide (ε.set i (some (.d (.tup [.str [], .lst xs]))))) s1 = .ok false s2) (ho : noOw ε = true) (hi : i < ε.length) (hl : xs.length ≤ 1000000) (hs : s2.sc = s.sc) : (sTold i f gc g2 ε s).to P = P.nx (ε.set i none) s2 := by
  unfold sTold
  rw [if_pos ⟨ho, hi⟩, e]
  dsimp only
  rw [g]
  dsimp only
  rw [if_pos ⟨Nat.lt_of_le_of_lt hl (by decide), hs⟩]
  rfl
theorem to_told_r {i : Nat} {f : En → RS → R RS (List D ⊕ D)} {gc : En → RS → R RS Bool} {g2 : Sn → RS → SR RS} {ε : Sn} {s s1 s2 : RS} {P : Po RS} {l : List Nat} {ds : List D} (e : f (hide ε) s = .ok (.inr (.tup (.str l :: ds))) s1)
    (g : gc (hide (ε.set i (some (.d (.tup (.str l :: ds)))))) s1 = .ok false s2) (ho : noOw ε = true) (hi : i < ε.length) (hl : l ≠ []) (hk : okS l) : (sTold i f gc g2 ε s).to P = P.nx (ε.set i (some (.d (.tup (.str l :: ds))))) s2 := by
  unfold sTold
  rw [if_pos ⟨ho, hi⟩, e]
  dsimp only
  rw [if_neg (by rintro (z | z); · exact hl z
                 · exact z hk), g]
  rfl
end Dm
namespace Dm
open PySem L2
theorem word_ok {n iE : Nat} {gs : Sn → Err → SR Err} {fb : En → RS → R RS (List D)} {η : En} {s s' : RS} {xs : List D} (h : fb η s = .ok xs s') : fWordL n iE gs fb η s = .ok (.inl xs) s' := by
  unfold fWordL
  rw [h]
theorem word_er {n iE : Nat} {gs : Sn → Err → SR Err} {fb : En → RS → R RS (List D)} {η : En} {s s' : RS} {e : Err} {d : D} (h : fb η s = .er e s') (hs : gs (εE n iE) e = .rt d e) (hk : e.k ≠ .say) (hn : noNm d = true) : fWordL n iE gs fb η s = .ok (.inr d) s' := by
  unfold fWordL
  rw [h]
  dsimp only
  rw [hs]
  dsimp only
  rw [if_pos ⟨rfl, hk, hn⟩]
theorem word1_ok {n iE : Nat} {gs : Sn → Err → SR Err} {fb : En → RS → R RS D} {η : En} {s s' : RS} {x : D} (h : fb η s = .ok x s') : fWord n iE gs fb η s = .ok (.tup [.str [], x]) s' := by
  unfold fWord
  rw [h]
theorem word1_er {n iE : Nat} {gs : Sn → Err → SR Err} {fb : En → RS → R RS D} {η : En} {s s' : RS} {e : Err} {d : D} (h : fb η s = .er e s') (hs : gs (εE n iE) e = .rt d e) (hk : e.k ≠ .say) (hn : noNm d = true) : fWord n iE gs fb η s = .ok d s' := by
  unfold fWord
  rw [h]
  dsimp only
  rw [hs]
  dsimp only
  rw [if_pos ⟨rfl, hk, hn⟩]
end Dm
namespace Dm
open PySem L2
theorem okR_nat {n : Nat} (h : n ≤ 1000000000) : okR (n : Int) = true := by
  unfold okR
  rw [decide_eq_true]
  constructor <;> omega

theorem sound_at {v : Nat} (h : v < 4) : ∃ k : List Nat, L2.atI [D.str [65], D.str [66], D.str [], D.str [65, 66]] (v : Int) = some (.str k) ∧ k.length ≤ 3 ∧ ∀ c ∈ k, 65 ≤ c ∧ c ≤ 90 := by
  rcases (show v = 0 ∨ v = 1 ∨ v = 2 ∨ v = 3 by omega) with rfl | rfl | rfl | rfl
  · exact ⟨[65], rfl, by decide⟩
  · exact ⟨[66], rfl, by decide⟩
  · exact ⟨[], rfl, by decide⟩
  · exact ⟨[65, 66], rfl, by decide⟩

/-- a drawn book -/
structure GB (L : List Nat) (rs : List Rl) (xs : List (List Nat × List Nat)) : Prop where
  l : GL L
  r : ∀ r ∈ rs, GR L r
  x : GXs L xs
  nr : rs.length ≤ 12
  nx : xs.length ≤ 8

theorem walkP_fuel {rs : List Rl} {w : List Nat} (hr : ∀ r ∈ rs, r.ok) : ∀ (n m : Nat) {p : Nat} {acc : List (Nat × Nat)}, p ≤ w.length → w.length < n + p → w.length < m + p → walkP rs w n p acc = walkP rs w m p acc := by
  intro n
  induction n with
  | zero => intro m p acc h0 h1 h2; omega
  | succ n ih =>
    intro m p acc h0 h1 h2
    obtain ⟨m, rfl⟩ : ∃ k, m = k + 1 := ⟨m - 1, by omega⟩
    simp only [walkP]
    by_cases hlt : p < w.length
    · rw [if_pos hlt, if_pos hlt]
      cases e : fitL rs w p with
      | nil => rfl
      | cons k ks =>
        obtain ⟨r, hk, hf⟩ := fitL_mem (show k ∈ fitL rs w p by rw [e]; exact List.mem_cons_self)
        have ok := hr r (List.mem_of_getElem? hk)
        have ho : ownLen rs k = r.o.length := by unfold ownLen; rw [hk]
        have h0 : 0 < r.o.length := List.length_pos_iff.mpr ok.no
        have hle := fitB_le hf (Nat.le_of_lt hlt)
        exact ih m (by omega) (by omega) (by omega)
    · rw [if_neg hlt, if_neg hlt]

theorem walkP_len {rs : List Rl} {w : List Nat} (hr : ∀ r ∈ rs, r.ok) : ∀ (n p : Nat) (acc l : List (Nat × Nat)), acc.length ≤ p → p ≤ w.length → walkP rs w n p acc = .inr l → l.length ≤ w.length := by
  intro n
  induction n with
  | zero => intro p acc l _ _ h; cases h
  | succ n ih =>
    intro p acc l h1 h2 h
    simp only [walkP] at h
    by_cases hlt : p < w.length
    · rw [if_pos hlt] at h
      cases e : fitL rs w p with
      | nil => rw [e] at h; cases h
      | cons k ks =>
        rw [e] at h
        obtain ⟨r, hk, hf⟩ := fitL_mem (show k ∈ fitL rs w p by rw [e]; exact List.mem_cons_self)
        have ok := hr r (List.mem_of_getElem? hk)
        have ho : ownLen rs k = r.o.length := by unfold ownLen; rw [hk]
        have h0 : 0 < r.o.length := List.length_pos_iff.mpr ok.no
        have hle := fitB_le hf (Nat.le_of_lt hlt)
        exact ih (p + ownLen rs k) (acc ++ [(p, k)]) l (by rw [List.length_append, List.length_singleton]; omega) (by omega) h
    · rw [if_neg hlt] at h
      cases h
      omega

theorem walkD_sm {rs : List Rl} {w : List Nat} (hr : ∀ r ∈ rs, r.ok) (hw : w.length ≤ 1000) : smD (walkD (walkP rs w (w.length + 1) 0 [])) = true ∧ depD (walkD (walkP rs w (w.length + 1) 0 [])) < 6 := by
  cases e : walkP rs w (w.length + 1) 0 [] with
  | inl q => exact ⟨rfl, by simp [walkD, depD, depDs]⟩
  | inr l =>
    have hl := walkP_len hr _ _ _ _ (by simp) (by omega) e
    have h1 : smDs (l.map dPN) = true := smDs_all.mpr fun d hd => by
      obtain ⟨x, _, rfl⟩ := List.mem_map.mp hd
      simp [dPN, smD, smDs]
    have h2 : depDs (l.map dPN) ≤ 1 := depDs_le.mp fun d hd => by
      obtain ⟨x, _, rfl⟩ := List.mem_map.mp hd
      simp [dPN, depD, depDs]
    constructor
    · simp only [walkD, smD, smDs, h1, List.length_map, List.all_nil, List.length_cons, List.length_nil]
      simp
      omega
    · simp only [walkD, depD, depDs]
      omega

theorem mix_wf (ns : List Int) : RS.WF ⟨ns, 0, 0, mixL ns⟩ := by
  have : ∀ (l : List Int) (m : Int), 0 ≤ m → m < 2147483647 → 0 ≤ l.foldl (fun m c => (m * 48271 + c + 11) % 2147483647) m ∧ l.foldl (fun m c => (m * 48271 + c + 11) % 2147483647) m < 2147483647 := by
    intro l
    induction l with
    | nil => intro m h0 h1; exact ⟨h0, h1⟩
    | cons c l ih => intro m h0 h1; exact ih _ (Int.emod_nonneg _ (by decide)) (Int.emod_lt_of_pos _ (by decide))
  obtain ⟨h0, h1⟩ := this ns 7 (by decide) (by decide)
  exact ⟨Int.le_refl _, h0, h1⟩
end Dm
namespace Dm
open PySem L2
theorem three_at {v : Nat} (h : v < 3) : ∃ k : Int, L2.atI [D.int 3, D.int 6, D.int 12] (v : Int) = some (.int k) ∧ 0 ≤ k ∧ k ≤ 12 := by
  rcases (show v = 0 ∨ v = 1 ∨ v = 2 by omega) with rfl | rfl | rfl
  · exact ⟨3, rfl, by decide⟩
  · exact ⟨6, rfl, by decide⟩
  · exact ⟨12, rfl, by decide⟩
/-- a law ends with True -/
theorem law_of {b : SR RS} (h : b.to ⟨fun _ _ => False, fun d _ => d = .bl true, fun _ _ => False, fun _ _ => False, fun _ _ => False, fun _ _ => False⟩) : ∃ s', b = .rt (.bl true) s' := by
  cases b with
  | rt d s => exact ⟨s, by rw [show d = .bl true from h]⟩
  | nx a b => exact h.elim
  | rl a b => exact h.elim
  | bk a b => exact h.elim
  | ct a b => exact h.elim
  | er a b c => exact h.elim
  | no => exact h.elim
end Dm
/-! Sayings, in plain Lean; dicts as data. -/
namespace Dm
open PySem L2
def sOf (rs : List Rl) (k : Nat) : List Nat := match rs[k]? with
  | some r => r.s
  | none => []
/-- how rules say a word: the place that is unsaid, or the sounds -/
def rulesSay (rs : List Rl) (w : List Nat) : Nat ⊕ List Nat := match walkP rs w (w.length + 1) 0 [] with
  | .inl p => .inl p
  | .inr l => .inr (l.flatMap fun q => sOf rs q.2)
def exLook (xs : List (List Nat × List Nat)) (w : List Nat) : Option (List Nat) := (xs.find? fun p => decide (p.1 = w)).map (·.2)
def saysP (rs : List Rl) (xs : List (List Nat × List Nat)) (w : List Nat) : Nat ⊕ List Nat := match exLook xs w with
  | some y => .inr y
  | none => rulesSay rs w
def saidD : Nat ⊕ List Nat → D
  | .inl q => .tup [.str [117, 110, 115, 97, 105, 100], .int q]
  | .inr y => .tup [.str [], .str y]
theorem strs_map {α : Type} (f : α → List Nat) : ∀ l : List α, strsOf (l.map fun x => .str (f x)) = some (l.map f)
  | [] => rfl
  | x :: l => by simp only [List.map_cons, strsOf, strs_map f l]; rfl
theorem sum_le {α : Type} (f : α → Nat) (n : Nat) : ∀ l : List α, (∀ x ∈ l, f x ≤ n) → (l.map f).sum ≤ l.length * n
  | [], _ => by simp
  | x :: l, h => by
    have h1 := h x List.mem_cons_self
    have h2 := sum_le f n l fun y hy => h y (List.mem_cons_of_mem _ hy)
    simp only [List.map_cons, List.sum_cons, List.length_cons]
    rw [Nat.succ_mul]
    omega
/-- texts joined -/
theorem join_ok {S α : Type} (f : α → List Nat) (l : List α) (s : S) (h : ∀ x ∈ l, (f x).length ≤ 1000) (hl : l.length ≤ 10000) {Q : D → S → Prop} (q : Q (.str (l.flatMap f)) s) : KOp (strsOf (l.map fun x => .str (f x))) (KJn [] Q) s := by
  rw [strs_map, k_op, k_jn]
  refine ⟨?_, ?_⟩
  · have e := sum_le (fun x => (f x).length) 1000 l h
    rw [List.map_map]
    have e2 : (l.map (List.length ∘ f)).sum = (l.map fun x => (f x).length).sum := rfl
    rw [e2, List.length_map, List.length_nil, Nat.mul_zero]
    omega
  · rw [glue_nil]
    have : (l.map f).flatten = l.flatMap f := by rw [List.flatMap]
    rw [this]
    exact q
/-! dicts -/
def lkD (kvs : List (List Nat × D)) (y : List Nat) : Option D := (kvs.find? fun p => decide (p.1 = y)).map (·.2)
theorem lookK_dct : ∀ (kvs : List (List Nat × D)) (y : List Nat), lookK (kvs.map fun p => .str p.1) (kvs.map (·.2)) y = lkD kvs y
  | [], _ => rfl
  | p :: kvs, y => by
    simp only [List.map_cons, lookK, lookK_dct kvs y]
    unfold lkD
    by_cases h : p.1 = y
    · rw [if_pos h, List.find?_cons_of_pos (by simpa using h)]; rfl
    · rw [if_neg h, List.find?_cons_of_neg (by simpa using h)]
def KDc {S : Type} (Q : D → S → Prop) : List (List Nat × D) → S → Prop := fun ps s => Q (dctOf (mergeD ps)) s
section
variable {S : Type} {Q : D → S → Prop} {E : Err → S → Prop} {s : S}
theorem gDct_to (xs : List D) : (gDct [.tup xs] s).to Q E = KOp (prsD xs) (KDc Q) s := by
  unfold gDct KOp KDc
  dsimp only
  cases h : prsD xs with
  | none => simp [to_no]
  | some bs => simp [to_ok]
theorem k_dc (ps : List (List Nat × D)) : KDc Q ps s = Q (dctOf (mergeD ps)) s := nr rfl
theorem gGet_to (kvs : List (List Nat × D)) (y : List Nat) : (gGet (dctOf kvs) (.str y) s).to Q E = KOp (lkD kvs y) Q s := by
  unfold gGet dctOf KOp
  dsimp only
  rw [lookK_dct]
  cases h : lkD kvs y with
  | none => simp [to_no]
  | some bs => simp [to_ok]
theorem gInK_to (f : Bool → Bool) (kvs : List (List Nat × D)) (y : List Nat) : (gInK f (.str y) (dctOf kvs) s).to Q E = Q (.bl (f (lkD kvs y).isSome)) s := by
  unfold gInK dctOf
  dsimp only
  rw [lookK_dct]
  exact to_ok _ _
def KKe {S : Type} (Q : List D → S → Prop) : D → S → Prop := fun x s => match x with
  | .dct ks _ => Q ks s
  | _ => False
theorem to_fkeys {Q : List D → S → Prop} (f : En → S → R S D) (η : En) (s : S) : (fKeys f η s).to Q E = (f η s).to (KKe Q) E := by
  unfold fKeys
  rw [to_bind]
  congr 1
  funext x s1
  unfold KB KKe
  cases x <;> first | rfl | (simp [to_no])
theorem k_ke {Q : List D → S → Prop} (kvs : List (List Nat × D)) (s : S) : KKe Q (dctOf kvs) s = Q (kvs.map fun p => .str p.1) s := nr rfl
end
theorem prsD_map : ∀ xs : List (List Nat × List Nat), prsD (xs.map dX) = some (xs.map fun x => (x.1, .str x.2))
  | [] => rfl
  | x :: xs => by simp only [List.map_cons, dX, prsD, prsD_map xs]; rfl
theorem merge_app (ps : List (List Nat × D)) : ∀ (acc : List (List Nat × D)), ((acc ++ ps).map (·.1)).Nodup → ps.foldl (fun acc p => putD acc p.1 p.2) acc = acc ++ ps := by
  induction ps with
  | nil => intro acc _; simp
  | cons p ps ih =>
    intro acc h
    have hp : putD acc p.1 p.2 = acc ++ [p] := by
      unfold putD
      rw [if_neg]
      rw [List.any_eq_true]
      rintro ⟨q, hq, e⟩
      rw [List.map_append, List.nodup_append] at h
      exact h.2.2 q.1 (List.mem_map.mpr ⟨q, hq, rfl⟩) p.1 (List.mem_map.mpr ⟨p, List.mem_cons_self, rfl⟩) (of_decide_eq_true e)
    show ps.foldl (fun acc p => putD acc p.1 p.2) (putD acc p.1 p.2) = _
    rw [hp, ih (acc ++ [p]) (by simpa using h)]
    simp
theorem mergeD_nd {ps : List (List Nat × D)} (h : (ps.map (·.1)).Nodup) : mergeD ps = ps := by
  have := merge_app ps [] (by simpa using h)
  rw [List.nil_append] at this
  exact this
theorem gxs_nd {L : List Nat} {xs : List (List Nat × List Nat)} (g : GXs L xs) : (xs.map (·.1)).Nodup := by
  rw [List.nodup_iff_pairwise_ne, List.pairwise_map]
  exact g.ris.imp fun {a b} h e => by rw [e] at h; exact List.lt_irrefl _ h
theorem lkD_map (xs : List (List Nat × List Nat)) (y : List Nat) : lkD (xs.map fun x => (x.1, .str x.2)) y = (exLook xs y).map D.str := by
  induction xs with
  | nil => rfl
  | cons x xs ih =>
    unfold lkD exLook at *
    rw [List.map_cons]
    by_cases h : x.1 = y
    · rw [List.find?_cons_of_pos (by simpa using h), List.find?_cons_of_pos (by simpa using h)]; rfl
    · rw [List.find?_cons_of_neg (by simpa using h), List.find?_cons_of_neg (by simpa using h)]; exact ih
theorem exLook_mem {xs : List (List Nat × List Nat)} {w y : List Nat} (h : exLook xs w = some y) : (w, y) ∈ xs := by
  unfold exLook at h
  obtain ⟨p, h1, h2⟩ := Option.map_eq_some_iff.mp h
  have e : p.1 = w := by simpa using List.find?_some h1
  have hm := List.mem_of_find?_eq_some h1
  rw [← e, ← h2]
  exact hm
theorem exLook_none {xs : List (List Nat × List Nat)} {w : List Nat} (h : exLook xs w = none) : ∀ p ∈ xs, p.1 ≠ w := by
  unfold exLook at h
  rw [Option.map_eq_none_iff, List.find?_eq_none] at h
  exact fun p hp => by simpa using h p hp
theorem GB.hr {L : List Nat} {rs : List Rl} {xs : List (List Nat × List Nat)} (g : GB L rs xs) : ∀ r ∈ rs, r.ok := fun r hr => (g.r r hr).ok g.l
theorem sOf_le {L : List Nat} {rs : List Rl} (h : ∀ r ∈ rs, GR L r) (k : Nat) : (sOf rs k).length ≤ 3 := by
  unfold sOf
  cases e : rs[k]? with
  | none => simp
  | some r => exact (h r (List.mem_of_getElem? e)).s3
theorem sOf_ms {L : List Nat} {rs : List Rl} (h : ∀ r ∈ rs, GR L r) (k : Nat) : ∀ c ∈ sOf rs k, 65 ≤ c ∧ c ≤ 90 := by
  unfold sOf
  cases e : rs[k]? with
  | none => simp
  | some r => exact (h r (List.mem_of_getElem? e)).ms
theorem saidD_sm {r : Nat ⊕ List Nat} (h : ∀ y, r = .inr y → okS y) : smD (saidD r) = true ∧ depD (saidD r) < 6 := by
  cases r with
  | inl q => exact ⟨rfl, by simp [saidD, depD, depDs]⟩
  | inr y =>
    have hy := h y rfl
    unfold okS at hy
    exact ⟨by simp [saidD, smD, smDs, hy], by simp [saidD, depD, depDs]⟩
theorem smDs_of : ∀ {ds : List D}, (∀ d ∈ ds, smD d = true) → smDs ds = true
  | [], _ => rfl
  | d :: ds, h => by
    simp only [smDs, Bool.and_eq_true]
    exact ⟨h d List.mem_cons_self, smDs_of fun x hx => h x (List.mem_cons_of_mem _ hx)⟩
theorem okDs_of : ∀ {ds : List D}, (∀ d ∈ ds, okD d = true) → okDs ds = true
  | [], _ => rfl
  | d :: ds, h => by
    simp only [okDs, Bool.and_eq_true]
    exact ⟨h d List.mem_cons_self, okDs_of fun x hx => h x (List.mem_cons_of_mem _ hx)⟩
theorem okE_str_D {x : List Nat} (h : okS x) : okD (.str x) = true := by
  have := okE_str h
  unfold okE at this
  rw [Bool.and_eq_true] at this
  exact this.1
theorem xs_okE {L : List Nat} {xs : List (List Nat × List Nat)} (g : GL L) (h : ∀ x ∈ xs, GX L x) : okE (.tup (xs.map dX)) = true := by
  unfold okE
  rw [Bool.and_eq_true]
  constructor
  · simp only [okD]
    refine okDs_of fun d hd => ?_
    obtain ⟨x, hx, rfl⟩ := List.mem_map.mp hd
    have gx := h x hx
    simp only [dX, okD, okDs, Bool.and_true, Bool.and_eq_true]
    exact ⟨okE_str_D <| okS_of fun c hc => by have := g.lo c (gx.mo c hc); omega, okE_str_D <| okS_of fun c hc => by have := gx.ms c hc; omega⟩
  · rw [decide_eq_true_eq]
    simp only [depD]
    have : depDs (xs.map dX) ≤ 1 := depDs_le.mp fun d hd => by
      obtain ⟨x, hx, rfl⟩ := List.mem_map.mp hd
      simp [dX, depD, depDs]
    omega
theorem nil_okE : okE (.tup []) = true := rfl
theorem xs_eqN {α : Type} (f : α → D) : ∀ xs : List α, eqD (.tup (xs.map f)) (.tup []) = xs.isEmpty
  | [] => rfl
  | _ :: _ => rfl
theorem at_map {α : Type} (f : α → D) (xs : List α) {v : Nat} (h : v < xs.length) : L2.atI (xs.map f) (v : Int) = some (f xs[v]) := by
  rw [atI_map, atI_nat h]
  rfl

end Dm
namespace Dm
open PySem L2
theorem says_ok {L : List Nat} {rs : List Rl} {xs : List (List Nat × List Nat)} {w : List Nat} (g : GL L) (hr : ∀ r ∈ rs, GR L r) (hx : ∀ x ∈ xs, GX L x) : ∀ y, saysP rs xs w = .inr y → okS y := by
  intro y h
  refine okS_of fun c hc => ?_
  unfold saysP at h
  cases q : exLook xs w with
  | some z =>
    rw [q] at h
    cases h
    have := (hx _ (exLook_mem q)).ms c hc
    omega
  | none =>
    rw [q] at h
    simp only at h
    unfold rulesSay at h
    split at h
    · cases h
    · cases h
      obtain ⟨p, _, hp⟩ := List.mem_flatMap.mp hc
      have := sOf_ms hr p.2 c hp
      omega

end Dm
namespace Dm
open PySem L2
section
variable {S : Type} {P : Po S} {Q : D → S → Prop} {E : Err → S → Prop}
def KEr (ct : EK → Option Bool) (d : D) (P : Po S) : Err → S → Prop := fun e s => match ct e.k with
  | some true => P.rt d s
  | some false => P.er e s
  | none => False
theorem k_er (ct : EK → Option Bool) (d : D) (e : Err) (s : S) : KEr ct d P e s = match ct e.k with
  | some true => P.rt d s
  | some false => P.er e s
  | none => False := nr rfl
theorem to_tryc (ct : EK → Option Bool) (f : Sn → S → SR S) (d : D) (ε : Sn) (s : S) : (sTry ct f (sRet (nD (fC d))) ε s).to P = (f ε s).to { P with er := KEr ct d P } := by
  unfold sTry
  cases f ε s with
  | er e ε' s' =>
    show _ = KEr ct d P e s'
    unfold KEr
    simp only
    cases ct e.k with
    | none => rfl
    | some b => cases b <;> rfl
  | _ => rfl
def KPk (sm : S → S → Bool) (s : S) (Q : Bool → S → Prop) : Bool → S → Prop := fun b s1 => sm s s1 = true ∧ Q b s1
theorem k_pk (sm : S → S → Bool) (s : S) (Q : Bool → S → Prop) (b : Bool) (s1 : S) : KPk sm s Q b s1 = (sm s s1 = true ∧ Q b s1) := nr rfl
theorem to_pB (sm : S → S → Bool) (is : List Nat) (gc : En → S → R S Bool) (ε : Sn) (s : S) {Q : Bool → S → Prop} : (pB sm is gc ε s).to Q E = (gc (hide (frzs is ε)) s).to (KPk sm s Q) noE := by
  unfold pB
  cases gc (hide (frzs is ε)) s with
  | ok b s1 =>
    show _ = (sm s s1 = true ∧ Q b s1)
    simp only
    by_cases h : sm s s1 = true
    · rw [if_pos h, to_ok]; exact propext ⟨fun q => ⟨h, q⟩, fun q => q.2⟩
    · rw [if_neg h, to_no]; exact propext ⟨fun q => q.elim, fun q => h q.1⟩
  | er e s1 => rfl
  | no => rfl
def KPn (sm : S → S → Bool) (s : S) (Q : D → S → Prop) : D → S → Prop := fun b s1 => sm s s1 = true ∧ isAt b = true ∧ Q b s1
theorem k_pn (sm : S → S → Bool) (s : S) (Q : D → S → Prop) (b : D) (s1 : S) : KPn sm s Q b s1 = (sm s s1 = true ∧ isAt b = true ∧ Q b s1) := nr rfl
theorem to_pN (sm : S → S → Bool) (is : List Nat) (f : En → S → R S D) (ε : Sn) (s : S) : (pN sm is f ε s).to Q E = (f (hide (frzs is ε)) s).to (KPn sm s Q) noE := by
  unfold pN
  cases f (hide (frzs is ε)) s with
  | ok b s1 =>
    show _ = (sm s s1 = true ∧ isAt b = true ∧ Q b s1)
    simp only
    by_cases h : sm s s1 = true ∧ isAt b = true
    · rw [if_pos h, to_ok]; exact propext ⟨fun q => ⟨h.1, h.2, q⟩, fun q => q.2.2⟩
    · rw [if_neg h, to_no]; exact propext ⟨fun q => q.elim, fun q => h ⟨q.1, q.2.1⟩⟩
  | er e s1 => rfl
  | no => rfl
theorem frzs_nil (ε : Sn) : frzs [] ε = ε := nr rfl
theorem frzs_cons (i : Nat) (is : List Nat) (ε : Sn) : frzs (i :: is) ε = frzs is (frz i ε) := nr rfl
theorem smU_t (s s1 : Unit) : smU s s1 = true := nr rfl
theorem smR_t (s : RS) : smR s s = true := by unfold smR; rw [decide_eq_true_eq]
theorem to_parLR (i j : Nat) (g : Sn → S → R S (List D)) (f : Sn → S → R S D) (ε : Sn) (s : S) : (sParLR i j g f ε s).to P = (g ε s).to (KS (fun xs s1 => bindS (f ε s1) ε fun d s2 => .nx ((ε.set i (some (.ow (.l xs)))).set j (some (.d d))) s2) P) P.er := to_bindS _ _ _
end
/-! said_by's answer -/
def saidN : Nat ⊕ List Nat → D
  | .inl _ => .non
  | .inr y => .str y
theorem saidN_eq (r : Nat ⊕ List Nat) (y : List Nat) : eqD (saidN r) (.str y) = decide (r = .inr y) := by
  cases r with
  | inl p => simp [saidN, eqD]
  | inr z => simp [saidN, eqD]
theorem saidD_eq (r : Nat ⊕ List Nat) (y : List Nat) : eqD (saidD r) (.tup [.str [], .str y]) = decide (r = .inr y) := by
  cases r with
  | inl p => simp [saidD, eqD, eqDs]
  | inr z => simp [saidD, eqD, eqDs]
theorem saidN_ok {r : Nat ⊕ List Nat} (h : ∀ y, r = .inr y → okS y) : okE (saidN r) = true := by
  cases r with
  | inl p => rfl
  | inr y => exact okE_str (h y rfl)
theorem saidD_ok {r : Nat ⊕ List Nat} (h : ∀ y, r = .inr y → okS y) : okE (saidD r) = true := by
  obtain ⟨a, b⟩ := saidD_sm h
  exact okE_of a (by omega)
/-- the samples that rules don't say so -/
def xAt (xs : List (List Nat × List Nat)) (k : Nat) : List Nat × List Nat := xs.getD k ([], [])
def badP (rs : List Rl) (xs : List (List Nat × List Nat)) (k : Nat) : Bool := !decide (saysP rs [] (xAt xs k).1 = .inr (xAt xs k).2)
def badL (rs : List Rl) (xs : List (List Nat × List Nat)) : List D := ((List.range xs.length).filter (badP rs xs)).map fun k : Nat => D.int k
theorem xAt_mem {xs : List (List Nat × List Nat)} {k : Nat} (h : k < xs.length) : xAt xs k ∈ xs := by
  unfold xAt
  rw [List.getD_eq_getElem?_getD, List.getElem?_eq_getElem h]
  exact List.getElem_mem h
theorem atX {xs : List (List Nat × List Nat)} {k : Nat} (h : k < xs.length) : L2.atI (xs.map dX) (k : Int) = some (.tup [.str (xAt xs k).1, .str (xAt xs k).2]) := by
  rw [at_map dX xs h]
  unfold xAt
  rw [List.getD_eq_getElem?_getD, List.getElem?_eq_getElem h]
  rfl
theorem pairsX (xs : List (List Nat × List Nat)) : pairs 0 (xs.map dX) = (List.range xs.length).map fun k : Nat => .tup [.int k, dX (xAt xs k)] := by
  rw [pairs_range, List.length_map]
  refine List.map_congr_left fun k hk => ?_
  rw [List.mem_range] at hk
  unfold xAt
  rw [Nat.zero_add, List.getD_eq_getElem?_getD, List.getElem?_map, List.getD_eq_getElem?_getD, List.getElem?_eq_getElem hk]
  rfl
theorem badL_sm (rs : List Rl) {xs : List (List Nat × List Nat)} (h : xs.length ≤ 1000) : smD (.lst (badL rs xs)) = true ∧ depD (.lst (badL rs xs)) < 6 := by
  have hl : (badL rs xs).length ≤ 1000 := by
    unfold badL
    rw [List.length_map]
    exact Nat.le_trans (List.length_filter_le _ _) (by rw [List.length_range]; exact h)
  constructor
  · simp only [smD, Bool.and_eq_true, decide_eq_true_eq]
    refine ⟨by omega, smDs_of fun d hd => ?_⟩
    unfold badL at hd
    obtain ⟨k, _, rfl⟩ := List.mem_map.mp hd
    rfl
  · simp only [depD]
    have : depDs (badL rs xs) ≤ 0 := depDs_le.mp fun d hd => by
      unfold badL at hd
      obtain ⟨k, _, rfl⟩ := List.mem_map.mp hd
      simp [depD]
    omega
end Dm
namespace Dm
open PySem L2
section
variable {S : Type} {P : Po S} {Q : D → S → Prop} {E : Err → S → Prop} {s : S}
theorem to_frzK (i : Nat) (g : Sn → S → SR S) (ε : Sn) (s : S) : (sFrzK i g ε s).to P = owK i ε fun kvs => (g (ε.set i (some (.d (dctOf kvs)))) s).to P := by
  unfold sFrzK
  split
  · rename_i kvs h
    rw [owK_at h]
  · rename_i h
    unfold owK
    exact propext ⟨fun z => z.elim, fun ⟨xs, e, _⟩ => (h xs e).elim⟩
theorem to_parK (i j : Nat) (f : Sn → S → R S D) (ε : Sn) (s : S) : (sParK i j f ε s).to P = (f ε s).to (KS (fun d s1 => .nx ((ε.set i (some (.d d))).set j (some (.ow (.k [])))) s1) P) P.er := to_bindS _ _ _
theorem gSortK_to (kvs : List (List Nat × D)) : (gSortK [dctOf kvs] s).to Q E = (kvs.length < 64 ∧ Q (.lst ((sortT (kvs.map (·.1))).map D.str)) s) := by
  unfold gSortK dctOf
  simp only [strs_map (fun p : List Nat × D => p.1), List.length_map]
  rw [to_gR]
  rfl
def kvX (x : List Nat × List Nat) : List Nat × D := (x.1, .str x.2)
theorem gSortIt_to (qs : List (List Nat × List Nat)) : (gSortIt (dctOf (qs.map kvX)) s).to Q E = ((qs.map (·.1)).Nodup ∧ qs.length < 64 ∧ Q (.lst ((sortKV qs).map dX)) s) := by
  have e1 : strsOf ((qs.map kvX).map fun p => D.str p.1) = some (qs.map (·.1)) := by
    rw [strs_map (fun p : List Nat × D => p.1), List.map_map]; rfl
  have e2 : strsOf ((qs.map kvX).map (·.2)) = some (qs.map (·.2)) := by
    rw [List.map_map]
    exact strs_map (fun x : List Nat × List Nat => x.2) qs
  have e3 : (qs.map (·.1)).zip (qs.map (·.2)) = qs := by
    rw [List.zip_map']
    exact (List.map_congr_left fun q _ => rfl).trans (List.map_id _)
  unfold gSortIt dctOf
  simp only [e1, e2, e3, List.length_map]
  rw [to_gR, and_assoc]
  rfl
theorem gIn_l (f : Bool → Bool) (x : List Nat) (ys : List D) : (gIn f (.str x) (.lst ys) s).to Q E = (ys.all flD = true ∧ Q (.bl (f (inD (.str x) ys))) s) := by
  have : gIn f (.str x) (.lst ys) s = (if flD (.str x) = true ∧ ys.all flD = true then .ok (.bl (f (inD (.str x) ys))) s else .no : R S D) := by
    unfold gIn
    rcases x with _ | ⟨c, _ | ⟨c2, l⟩⟩ <;> rfl
  rw [this, to_gR, show (flD (.str x) = true) = True from eq_true rfl, true_and]
  rfl
end
theorem kv_of {L : List Nat} {kvs : List (List Nat × D)} (h : GKV L kvs) : ∃ qs : List (List Nat × List Nat), kvs = qs.map kvX ∧ (∀ q ∈ qs, GX L q) ∧ (qs.map (·.1)).Nodup ∧ qs.length = kvs.length := by
  obtain ⟨qs, e1, e2, e3, e4⟩ := gkv_txts h.all
  refine ⟨qs, ?_, e4, by rw [e2]; exact h.nd, e3⟩
  clear e2 e3 e4 h
  induction kvs generalizing qs with
  | nil => simp only [txtsKV, Option.some.injEq] at e1; subst e1; rfl
  | cons p kvs ih =>
    obtain ⟨k, d⟩ := p
    cases d with
    | str l =>
      simp only [txtsKV] at e1
      cases q : txtsKV kvs with
      | none => rw [q] at e1; cases e1
      | some q2 =>
        rw [q] at e1
        cases e1
        rw [ih _ q]
        rfl
    | _ => simp only [txtsKV] at e1; cases e1
theorem exLook_nd : ∀ {xs : List (List Nat × List Nat)} {x : List Nat × List Nat}, (xs.map (·.1)).Nodup → x ∈ xs → exLook xs x.1 = some x.2
  | y :: ys, x, nd, hx => by
    rw [List.map_cons, List.nodup_cons] at nd
    unfold exLook
    rcases List.mem_cons.mp hx with rfl | hx
    · rw [List.find?_cons_of_pos (by simp)]; rfl
    · rw [List.find?_cons_of_neg (by
        simp only [decide_eq_true_eq]
        intro e
        exact nd.1 (List.mem_map.mpr ⟨x, hx, e.symm⟩))]
      exact exLook_nd nd.2 hx
theorem keys_sort {qs : List (List Nat × List Nat)} : sortT (qs.map (·.1)) = (sortKV qs).map (·.1) := by
  refine (sortT_eq ((sortKV_perm qs).map _) ?_).symm
  rw [List.pairwise_map]
  exact sortKV_sorted qs
def nP (rs : List Rl) (x : List Nat × List Nat) : Bool := decide (rulesSay rs x.1 = .inr x.2)
def needL (rs : List Rl) (xs : List (List Nat × List Nat)) : List D := (xs.filter (nP rs)).map fun x => D.str x.1
def leftX (rs : List Rl) (xs : List (List Nat × List Nat)) : List (List Nat × List Nat) := xs.filter fun x => !nP rs x
theorem key_inj {xs : List (List Nat × List Nat)} (nd : (xs.map (·.1)).Nodup) {x y : List Nat × List Nat} (hx : x ∈ xs) (hy : y ∈ xs) (e : x.1 = y.1) : x = y := by
  have h1 := exLook_nd nd hx
  have h2 := exLook_nd nd hy
  rw [e, h2] at h1
  exact Prod.ext e (Option.some.inj h1).symm
theorem in_need {rs : List Rl} {xs : List (List Nat × List Nat)} (nd : (xs.map (·.1)).Nodup) {x : List Nat × List Nat} (hx : x ∈ xs) : inD (.str x.1) (needL rs xs) = nP rs x := by
  unfold inD needL
  rw [List.any_map]
  cases h : nP rs x with
  | true => exact List.any_eq_true.mpr ⟨x, List.mem_filter.mpr ⟨hx, h⟩, by simp [eqD]⟩
  | false =>
    rw [List.any_eq_false]
    intro y hy hq
    have e : y.1 = x.1 := by simpa [eqD] using hq
    rw [key_inj nd (List.mem_filter.mp hy).1 hx e] at hy
    have := (List.mem_filter.mp hy).2
    rw [h] at this
    cases this
theorem need_fl (rs : List Rl) (xs : List (List Nat × List Nat)) : (needL rs xs).all flD = true := by
  unfold needL
  rw [List.all_map]
  exact List.all_eq_true.mpr fun x _ => rfl
theorem left_gxs {L : List Nat} {rs : List Rl} {xs : List (List Nat × List Nat)} (g : GXs L xs) : GXs L (leftX rs xs) :=
  ⟨fun x hx => g.all x (List.mem_filter.mp hx).1, g.ris.sublist List.filter_sublist⟩
theorem need_left (rs : List Rl) (xs : List (List Nat × List Nat)) : needL rs (leftX rs xs) = [] := by
  unfold needL leftX
  rw [List.filter_filter]
  have : (xs.filter fun x => nP rs x && !nP rs x) = [] := List.filter_eq_nil_iff.mpr fun x _ => by cases nP rs x <;> decide
  rw [this]
  rfl
theorem says_left {rs : List Rl} {xs : List (List Nat × List Nat)} (nd : (xs.map (·.1)).Nodup) {x : List Nat × List Nat} (hx : x ∈ xs) : saysP rs (leftX rs xs) x.1 = .inr x.2 := by
  unfold saysP
  cases h : nP rs x with
  | false =>
    have hm : x ∈ leftX rs xs := List.mem_filter.mpr ⟨hx, by rw [h]; rfl⟩
    have hq : exLook (leftX rs xs) x.1 = some x.2 := exLook_nd (xs := leftX rs xs) ((List.filter_sublist.map _).nodup nd) hm
    rw [hq]
  | true =>
    have hn : exLook (leftX rs xs) x.1 = none := by
      cases q : exLook (leftX rs xs) x.1 with
      | none => rfl
      | some y =>
        have hm := exLook_mem q
        have h2 := (List.mem_filter.mp hm)
        have e := key_inj nd h2.1 hx rfl
        rw [e, h] at h2
        cases h2.2
    rw [hn]
    exact of_decide_eq_true h
theorem need_sm {L : List Nat} {rs : List Rl} {xs : List (List Nat × List Nat)} (g : GL L) (hx : ∀ x ∈ xs, GX L x) (hl : xs.length ≤ 1000) : smD (.lst (needL rs xs)) = true ∧ depD (.lst (needL rs xs)) < 6 := by
  have hl2 : (needL rs xs).length ≤ 1000 := by
    unfold needL
    rw [List.length_map]
    exact Nat.le_trans (List.length_filter_le _ _) hl
  constructor
  · simp only [smD, Bool.and_eq_true, decide_eq_true_eq]
    refine ⟨by omega, smDs_of fun d hd => ?_⟩
    unfold needL at hd
    obtain ⟨x, hm, rfl⟩ := List.mem_map.mp hd
    have gx := hx x (List.mem_filter.mp hm).1
    simp only [smD]
    exact okS_of fun c hc => by have := g.lo c (gx.mo c hc); omega
  · simp only [depD]
    have : depDs (needL rs xs) ≤ 0 := depDs_le.mp fun d hd => by
      unfold needL at hd
      obtain ⟨x, _, rfl⟩ := List.mem_map.mp hd
      simp [depD]
    omega
theorem sort_gxs {L : List Nat} {qs : List (List Nat × List Nat)} (h : ∀ q ∈ qs, GX L q) (nd : (qs.map (·.1)).Nodup) : GXs L (sortKV qs) ∧ (sortKV qs).length = qs.length := gxs_sort h nd
end Dm
namespace Yk15
open PySem L2 PySem.Spec PyProof.Rows Dm
def topS (i : Nat) : Stmt := PySem.Challenge.pw_saylore_k15_needless_exceptions.main.body.getD i (.Pass ⟨0, 0, 0, 0⟩)
theorem db_BORDER : (("BORDER" : Str) == ("__debug__" : Str)) = false := by decide +kernel
theorem db_BadBook : (("BadBook" : Str) == ("__debug__" : Str)) = false := by decide +kernel
theorem db_BadWord : (("BadWord" : Str) == ("__debug__" : Str)) = false := by decide +kernel
theorem db_FEWEST_LETTERS : (("FEWEST_LETTERS" : Str) == ("__debug__" : Str)) = false := by decide +kernel
theorem db_MOST_EXCEPTED : (("MOST_EXCEPTED" : Str) == ("__debug__" : Str)) = false := by decide +kernel
theorem db_MOST_EXCEPTIONS : (("MOST_EXCEPTIONS" : Str) == ("__debug__" : Str)) = false := by decide +kernel
theorem db_MOST_LETTERS : (("MOST_LETTERS" : Str) == ("__debug__" : Str)) = false := by decide +kernel
theorem db_MOST_OWN : (("MOST_OWN" : Str) == ("__debug__" : Str)) = false := by decide +kernel
theorem db_MOST_RULES : (("MOST_RULES" : Str) == ("__debug__" : Str)) = false := by decide +kernel
theorem db_MOST_SAID : (("MOST_SAID" : Str) == ("__debug__" : Str)) = false := by decide +kernel
theorem db_MOST_SOUNDS : (("MOST_SOUNDS" : Str) == ("__debug__" : Str)) = false := by decide +kernel
theorem db_MOST_WORD : (("MOST_WORD" : Str) == ("__debug__" : Str)) = false := by decide +kernel
theorem db_SIGNS : (("SIGNS" : Str) == ("__debug__" : Str)) = false := by decide +kernel
theorem db_SOUNDS : (("SOUNDS" : Str) == ("__debug__" : Str)) = false := by decide +kernel
theorem db_SayError : (("SayError" : Str) == ("__debug__" : Str)) = false := by decide +kernel
theorem db_Unsaid : (("Unsaid" : Str) == ("__debug__" : Str)) = false := by decide +kernel
theorem db_ValueError : (("ValueError" : Str) == ("__debug__" : Str)) = false := by decide +kernel
theorem db___name__ : (("__name__" : Str) == ("__debug__" : Str)) = false := by decide +kernel
theorem db__law_ahead : (("_law_ahead" : Str) == ("__debug__" : Str)) = false := by decide +kernel
theorem db__law_alike : (("_law_alike" : Str) == ("__debug__" : Str)) = false := by decide +kernel
theorem db__law_at : (("_law_at" : Str) == ("__debug__" : Str)) = false := by decide +kernel
theorem db__law_book : (("_law_book" : Str) == ("__debug__" : Str)) = false := by decide +kernel
theorem db__law_cell : (("_law_cell" : Str) == ("__debug__" : Str)) = false := by decide +kernel
theorem db__law_due : (("_law_due" : Str) == ("__debug__" : Str)) = false := by decide +kernel
theorem db__law_end : (("_law_end" : Str) == ("__debug__" : Str)) = false := by decide +kernel
theorem db__law_far : (("_law_far" : Str) == ("__debug__" : Str)) = false := by decide +kernel
theorem db__law_fewest : (("_law_fewest" : Str) == ("__debug__" : Str)) = false := by decide +kernel
theorem db__law_fits : (("_law_fits" : Str) == ("__debug__" : Str)) = false := by decide +kernel
theorem db__law_found : (("_law_found" : Str) == ("__debug__" : Str)) = false := by decide +kernel
theorem db__law_k : (("_law_k" : Str) == ("__debug__" : Str)) = false := by decide +kernel
theorem db__law_left : (("_law_left" : Str) == ("__debug__" : Str)) = false := by decide +kernel
theorem db__law_letter : (("_law_letter" : Str) == ("__debug__" : Str)) = false := by decide +kernel
theorem db__law_letters : (("_law_letters" : Str) == ("__debug__" : Str)) = false := by decide +kernel
theorem db__law_letters_here : (("_law_letters_here" : Str) == ("__debug__" : Str)) = false := by decide +kernel
theorem db__law_many : (("_law_many" : Str) == ("__debug__" : Str)) = false := by decide +kernel
theorem db__law_mixed : (("_law_mixed" : Str) == ("__debug__" : Str)) = false := by decide +kernel
theorem db__law_most : (("_law_most" : Str) == ("__debug__" : Str)) = false := by decide +kernel
theorem db__law_number : (("_law_number" : Str) == ("__debug__" : Str)) = false := by decide +kernel
theorem db__law_one : (("_law_one" : Str) == ("__debug__" : Str)) = false := by decide +kernel
theorem db__law_other : (("_law_other" : Str) == ("__debug__" : Str)) = false := by decide +kernel
theorem db__law_own : (("_law_own" : Str) == ("__debug__" : Str)) = false := by decide +kernel
theorem db__law_place : (("_law_place" : Str) == ("__debug__" : Str)) = false := by decide +kernel
theorem db__law_plain : (("_law_plain" : Str) == ("__debug__" : Str)) = false := by decide +kernel
theorem db__law_row : (("_law_row" : Str) == ("__debug__" : Str)) = false := by decide +kernel
theorem db__law_row_here : (("_law_row_here" : Str) == ("__debug__" : Str)) = false := by decide +kernel
theorem db__law_rule : (("_law_rule" : Str) == ("__debug__" : Str)) = false := by decide +kernel
theorem db__law_rule_here : (("_law_rule_here" : Str) == ("__debug__" : Str)) = false := by decide +kernel
theorem db__law_rules : (("_law_rules" : Str) == ("__debug__" : Str)) = false := by decide +kernel
theorem db__law_rules_here : (("_law_rules_here" : Str) == ("__debug__" : Str)) = false := by decide +kernel
theorem db__law_said : (("_law_said" : Str) == ("__debug__" : Str)) = false := by decide +kernel
theorem db__law_same_kind : (("_law_same_kind" : Str) == ("__debug__" : Str)) = false := by decide +kernel
theorem db__law_script : (("_law_script" : Str) == ("__debug__" : Str)) = false := by decide +kernel
theorem db__law_side : (("_law_side" : Str) == ("__debug__" : Str)) = false := by decide +kernel
theorem db__law_sign : (("_law_sign" : Str) == ("__debug__" : Str)) = false := by decide +kernel
theorem db__law_signs : (("_law_signs" : Str) == ("__debug__" : Str)) = false := by decide +kernel
theorem db__law_some : (("_law_some" : Str) == ("__debug__" : Str)) = false := by decide +kernel
theorem db__law_sounds : (("_law_sounds" : Str) == ("__debug__" : Str)) = false := by decide +kernel
theorem db__law_taken : (("_law_taken" : Str) == ("__debug__" : Str)) = false := by decide +kernel
theorem db__law_text : (("_law_text" : Str) == ("__debug__" : Str)) = false := by decide +kernel
theorem db__law_told : (("_law_told" : Str) == ("__debug__" : Str)) = false := by decide +kernel
theorem db__law_turn : (("_law_turn" : Str) == ("__debug__" : Str)) = false := by decide +kernel
theorem db__law_walk : (("_law_walk" : Str) == ("__debug__" : Str)) = false := by decide +kernel
theorem db__law_word : (("_law_word" : Str) == ("__debug__" : Str)) = false := by decide +kernel
theorem db_ahead : (("ahead" : Str) == ("__debug__" : Str)) = false := by decide +kernel
theorem db_all : (("all" : Str) == ("__debug__" : Str)) = false := by decide +kernel
theorem db_bare : (("bare" : Str) == ("__debug__" : Str)) = false := by decide +kernel
theorem db_behind : (("behind" : Str) == ("__debug__" : Str)) = false := by decide +kernel
theorem db_book : (("book" : Str) == ("__debug__" : Str)) = false := by decide +kernel
theorem db_bool : (("bool" : Str) == ("__debug__" : Str)) = false := by decide +kernel
theorem db_by_rules : (("by_rules" : Str) == ("__debug__" : Str)) = false := by decide +kernel
theorem db_dict : (("dict" : Str) == ("__debug__" : Str)) = false := by decide +kernel
theorem db_enumerate : (("enumerate" : Str) == ("__debug__" : Str)) = false := by decide +kernel
theorem db_excepted : (("excepted" : Str) == ("__debug__" : Str)) = false := by decide +kernel
theorem db_exceptions : (("exceptions" : Str) == ("__debug__" : Str)) = false := by decide +kernel
theorem db_fits : (("fits" : Str) == ("__debug__" : Str)) = false := by decide +kernel
theorem db_found : (("found" : Str) == ("__debug__" : Str)) = false := by decide +kernel
theorem db_high : (("high" : Str) == ("__debug__" : Str)) = false := by decide +kernel
theorem db_is_exception : (("is_exception" : Str) == ("__debug__" : Str)) = false := by decide +kernel
theorem db_is_letters : (("is_letters" : Str) == ("__debug__" : Str)) = false := by decide +kernel
theorem db_is_of : (("is_of" : Str) == ("__debug__" : Str)) = false := by decide +kernel
theorem db_is_rising : (("is_rising" : Str) == ("__debug__" : Str)) = false := by decide +kernel
theorem db_is_rule : (("is_rule" : Str) == ("__debug__" : Str)) = false := by decide +kernel
theorem db_is_side : (("is_side" : Str) == ("__debug__" : Str)) = false := by decide +kernel
theorem db_isinstance : (("isinstance" : Str) == ("__debug__" : Str)) = false := by decide +kernel
theorem db_k : (("k" : Str) == ("__debug__" : Str)) = false := by decide +kernel
theorem db_law : (("law" : Str) == ("__debug__" : Str)) = false := by decide +kernel
theorem db_len : (("len" : Str) == ("__debug__" : Str)) = false := by decide +kernel
theorem db_letters : (("letters" : Str) == ("__debug__" : Str)) = false := by decide +kernel
theorem db_list : (("list" : Str) == ("__debug__" : Str)) = false := by decide +kernel
theorem db_low : (("low" : Str) == ("__debug__" : Str)) = false := by decide +kernel
theorem db_need_book : (("need_book" : Str) == ("__debug__" : Str)) = false := by decide +kernel
theorem db_need_rules : (("need_rules" : Str) == ("__debug__" : Str)) = false := by decide +kernel
theorem db_need_word : (("need_word" : Str) == ("__debug__" : Str)) = false := by decide +kernel
theorem db_needless : (("needless" : Str) == ("__debug__" : Str)) = false := by decide +kernel
theorem db_number : (("number" : Str) == ("__debug__" : Str)) = false := by decide +kernel
theorem db_one : (("one" : Str) == ("__debug__" : Str)) = false := by decide +kernel
theorem db_own : (("own" : Str) == ("__debug__" : Str)) = false := by decide +kernel
theorem db_part : (("part" : Str) == ("__debug__" : Str)) = false := by decide +kernel
theorem db_place : (("place" : Str) == ("__debug__" : Str)) = false := by decide +kernel
theorem db_range : (("range" : Str) == ("__debug__" : Str)) = false := by decide +kernel
theorem db_rule : (("rule" : Str) == ("__debug__" : Str)) = false := by decide +kernel
theorem db_rules : (("rules" : Str) == ("__debug__" : Str)) = false := by decide +kernel
theorem db_said : (("said" : Str) == ("__debug__" : Str)) = false := by decide +kernel
theorem db_said_by : (("said_by" : Str) == ("__debug__" : Str)) = false := by decide +kernel
theorem db_self : (("self" : Str) == ("__debug__" : Str)) = false := by decide +kernel
theorem db_sign : (("sign" : Str) == ("__debug__" : Str)) = false := by decide +kernel
theorem db_sign_at : (("sign_at" : Str) == ("__debug__" : Str)) = false := by decide +kernel
theorem db_signs : (("signs" : Str) == ("__debug__" : Str)) = false := by decide +kernel
theorem db_some : (("some" : Str) == ("__debug__" : Str)) = false := by decide +kernel
theorem db_sorted : (("sorted" : Str) == ("__debug__" : Str)) = false := by decide +kernel
theorem db_sounds : (("sounds" : Str) == ("__debug__" : Str)) = false := by decide +kernel
theorem db_str : (("str" : Str) == ("__debug__" : Str)) = false := by decide +kernel
theorem db_text : (("text" : Str) == ("__debug__" : Str)) = false := by decide +kernel
theorem db_tuple : (("tuple" : Str) == ("__debug__" : Str)) = false := by decide +kernel
theorem db_walk_of : (("walk_of" : Str) == ("__debug__" : Str)) = false := by decide +kernel
theorem db_word : (("word" : Str) == ("__debug__" : Str)) = false := by decide +kernel
theorem cd_SayError : (("SayError" : Str) == ("__classdict__" : Str)) = false := by decide +kernel
theorem cd_ValueError : (("ValueError" : Str) == ("__classdict__" : Str)) = false := by decide +kernel
theorem cd__law_ahead : (("_law_ahead" : Str) == ("__classdict__" : Str)) = false := by decide +kernel
theorem cd__law_at : (("_law_at" : Str) == ("__classdict__" : Str)) = false := by decide +kernel
theorem cd__law_book : (("_law_book" : Str) == ("__classdict__" : Str)) = false := by decide +kernel
theorem cd__law_cell : (("_law_cell" : Str) == ("__classdict__" : Str)) = false := by decide +kernel
theorem cd__law_due : (("_law_due" : Str) == ("__classdict__" : Str)) = false := by decide +kernel
theorem cd__law_end : (("_law_end" : Str) == ("__classdict__" : Str)) = false := by decide +kernel
theorem cd__law_far : (("_law_far" : Str) == ("__classdict__" : Str)) = false := by decide +kernel
theorem cd__law_fewest : (("_law_fewest" : Str) == ("__classdict__" : Str)) = false := by decide +kernel
theorem cd__law_found : (("_law_found" : Str) == ("__classdict__" : Str)) = false := by decide +kernel
theorem cd__law_k : (("_law_k" : Str) == ("__classdict__" : Str)) = false := by decide +kernel
theorem cd__law_left : (("_law_left" : Str) == ("__classdict__" : Str)) = false := by decide +kernel
theorem cd__law_letter : (("_law_letter" : Str) == ("__classdict__" : Str)) = false := by decide +kernel
theorem cd__law_letters_here : (("_law_letters_here" : Str) == ("__classdict__" : Str)) = false := by decide +kernel
theorem cd__law_many : (("_law_many" : Str) == ("__classdict__" : Str)) = false := by decide +kernel
theorem cd__law_mixed : (("_law_mixed" : Str) == ("__classdict__" : Str)) = false := by decide +kernel
theorem cd__law_most : (("_law_most" : Str) == ("__classdict__" : Str)) = false := by decide +kernel
theorem cd__law_number : (("_law_number" : Str) == ("__classdict__" : Str)) = false := by decide +kernel
theorem cd__law_one : (("_law_one" : Str) == ("__classdict__" : Str)) = false := by decide +kernel
theorem cd__law_other : (("_law_other" : Str) == ("__classdict__" : Str)) = false := by decide +kernel
theorem cd__law_own : (("_law_own" : Str) == ("__classdict__" : Str)) = false := by decide +kernel
theorem cd__law_place : (("_law_place" : Str) == ("__classdict__" : Str)) = false := by decide +kernel
theorem cd__law_plain : (("_law_plain" : Str) == ("__classdict__" : Str)) = false := by decide +kernel
theorem cd__law_row_here : (("_law_row_here" : Str) == ("__classdict__" : Str)) = false := by decide +kernel
theorem cd__law_rule_here : (("_law_rule_here" : Str) == ("__classdict__" : Str)) = false := by decide +kernel
theorem cd__law_rules_here : (("_law_rules_here" : Str) == ("__classdict__" : Str)) = false := by decide +kernel
theorem cd__law_same_kind : (("_law_same_kind" : Str) == ("__classdict__" : Str)) = false := by decide +kernel
theorem cd__law_script : (("_law_script" : Str) == ("__classdict__" : Str)) = false := by decide +kernel
theorem cd__law_sign : (("_law_sign" : Str) == ("__classdict__" : Str)) = false := by decide +kernel
theorem cd__law_signs : (("_law_signs" : Str) == ("__classdict__" : Str)) = false := by decide +kernel
theorem cd__law_some : (("_law_some" : Str) == ("__classdict__" : Str)) = false := by decide +kernel
theorem cd__law_sounds : (("_law_sounds" : Str) == ("__classdict__" : Str)) = false := by decide +kernel
theorem cd__law_told : (("_law_told" : Str) == ("__classdict__" : Str)) = false := by decide +kernel
theorem cd__law_turn : (("_law_turn" : Str) == ("__classdict__" : Str)) = false := by decide +kernel
theorem cd__law_word : (("_law_word" : Str) == ("__classdict__" : Str)) = false := by decide +kernel
theorem cd_ahead : (("ahead" : Str) == ("__classdict__" : Str)) = false := by decide +kernel
theorem cd_bare : (("bare" : Str) == ("__classdict__" : Str)) = false := by decide +kernel
theorem cd_behind : (("behind" : Str) == ("__classdict__" : Str)) = false := by decide +kernel
theorem cd_book : (("book" : Str) == ("__classdict__" : Str)) = false := by decide +kernel
theorem cd_excepted : (("excepted" : Str) == ("__classdict__" : Str)) = false := by decide +kernel
theorem cd_exceptions : (("exceptions" : Str) == ("__classdict__" : Str)) = false := by decide +kernel
theorem cd_found : (("found" : Str) == ("__classdict__" : Str)) = false := by decide +kernel
theorem cd_high : (("high" : Str) == ("__classdict__" : Str)) = false := by decide +kernel
theorem cd_k : (("k" : Str) == ("__classdict__" : Str)) = false := by decide +kernel
theorem cd_letters : (("letters" : Str) == ("__classdict__" : Str)) = false := by decide +kernel
theorem cd_low : (("low" : Str) == ("__classdict__" : Str)) = false := by decide +kernel
theorem cd_number : (("number" : Str) == ("__classdict__" : Str)) = false := by decide +kernel
theorem cd_one : (("one" : Str) == ("__classdict__" : Str)) = false := by decide +kernel
theorem cd_own : (("own" : Str) == ("__classdict__" : Str)) = false := by decide +kernel
theorem cd_part : (("part" : Str) == ("__classdict__" : Str)) = false := by decide +kernel
theorem cd_place : (("place" : Str) == ("__classdict__" : Str)) = false := by decide +kernel
theorem cd_rule : (("rule" : Str) == ("__classdict__" : Str)) = false := by decide +kernel
theorem cd_rules : (("rules" : Str) == ("__classdict__" : Str)) = false := by decide +kernel
theorem cd_self : (("self" : Str) == ("__classdict__" : Str)) = false := by decide +kernel
theorem cd_sign : (("sign" : Str) == ("__classdict__" : Str)) = false := by decide +kernel
theorem cd_signs : (("signs" : Str) == ("__classdict__" : Str)) = false := by decide +kernel
theorem cd_some : (("some" : Str) == ("__classdict__" : Str)) = false := by decide +kernel
theorem cd_sounds : (("sounds" : Str) == ("__classdict__" : Str)) = false := by decide +kernel
theorem cd_text : (("text" : Str) == ("__classdict__" : Str)) = false := by decide +kernel
theorem cd_word : (("word" : Str) == ("__classdict__" : Str)) = false := by decide +kernel
theorem bt_all : bootBuiltins "all" = some (.builtin "all") := by decide +kernel
theorem nn_all : ("all" : Str) ≠ "__name__" := by decide +kernel
theorem bt_bool : bootBuiltins "bool" = some (.type "bool") := by decide +kernel
theorem nn_bool : ("bool" : Str) ≠ "__name__" := by decide +kernel
theorem bt_dict : bootBuiltins "dict" = some (.type "dict") := by decide +kernel
theorem nn_dict : ("dict" : Str) ≠ "__name__" := by decide +kernel
theorem bt_enumerate : bootBuiltins "enumerate" = some (.type "enumerate") := by decide +kernel
theorem nn_enumerate : ("enumerate" : Str) ≠ "__name__" := by decide +kernel
theorem bt_isinstance : bootBuiltins "isinstance" = some (.builtin "isinstance") := by decide +kernel
theorem nn_isinstance : ("isinstance" : Str) ≠ "__name__" := by decide +kernel
theorem bt_len : bootBuiltins "len" = some (.builtin "len") := by decide +kernel
theorem nn_len : ("len" : Str) ≠ "__name__" := by decide +kernel
theorem bt_list : bootBuiltins "list" = some (.type "list") := by decide +kernel
theorem nn_list : ("list" : Str) ≠ "__name__" := by decide +kernel
theorem bt_range : bootBuiltins "range" = some (.type "range") := by decide +kernel
theorem nn_range : ("range" : Str) ≠ "__name__" := by decide +kernel
theorem bt_sorted : bootBuiltins "sorted" = some (.builtin "sorted") := by decide +kernel
theorem nn_sorted : ("sorted" : Str) ≠ "__name__" := by decide +kernel
theorem bt_str : bootBuiltins "str" = some (.type "str") := by decide +kernel
theorem nn_str : ("str" : Str) ≠ "__name__" := by decide +kernel
theorem bt_tuple : bootBuiltins "tuple" = some (.type "tuple") := by decide +kernel
theorem nn_tuple : ("tuple" : Str) ≠ "__name__" := by decide +kernel
abbrev s_is_of : Stmt := topS 18
abbrev s_is_rising : Stmt := topS 19
abbrev s_is_side : Stmt := topS 20
abbrev s_is_rule : Stmt := topS 21
abbrev s_is_letters : Stmt := topS 22
abbrev s_is_exception : Stmt := topS 23
abbrev s_need_rules : Stmt := topS 24
abbrev s_need_book : Stmt := topS 25
abbrev s_need_word : Stmt := topS 26
abbrev s_sign_at : Stmt := topS 28
abbrev s_fits : Stmt := topS 29
abbrev s_walk_of : Stmt := topS 30
abbrev s_by_rules : Stmt := topS 31
abbrev s_said_by : Stmt := topS 32
abbrev s_said : Stmt := topS 33
abbrev s_needless : Stmt := topS 35
abbrev s__law_row : Stmt := topS 37
abbrev s__law_taken : Stmt := topS 38
abbrev s__law_letters : Stmt := topS 39
abbrev s__law_side : Stmt := topS 40
abbrev s__law_text : Stmt := topS 41
abbrev s__law_rule : Stmt := topS 42
abbrev s__law_rules : Stmt := topS 43
abbrev s__law_fits : Stmt := topS 44
abbrev s__law_walk : Stmt := topS 45
abbrev s__law_said : Stmt := topS 46
abbrev s__law_alike : Stmt := topS 47
abbrev s_law : Stmt := topS 48
abbrev si_BadBook : Stmt := initOf (topS 2) 0
abbrev si_Unsaid : Stmt := initOf (topS 4) 0
structure Txt (K : PySem.W.Frag) (mg : Str → Option Value) where
  d_is_of : DefAt K mg "is_of" s_is_of ["part", "signs", "low", "high"]
  d_is_rising : DefAt K mg "is_rising" s_is_rising ["text"]
  d_is_side : DefAt K mg "is_side" s_is_side ["part", "letters"]
  d_is_rule : DefAt K mg "is_rule" s_is_rule ["part", "letters"]
  d_is_letters : DefAt K mg "is_letters" s_is_letters ["part"]
  d_is_exception : DefAt K mg "is_exception" s_is_exception ["part", "letters"]
  d_need_rules : DefAt K mg "need_rules" s_need_rules ["letters", "rules"]
  d_need_book : DefAt K mg "need_book" s_need_book ["book"]
  d_need_word : DefAt K mg "need_word" s_need_word ["letters", "word"]
  d_sign_at : DefAt K mg "sign_at" s_sign_at ["word", "place"]
  d_fits : DefAt K mg "fits" s_fits ["rule", "word", "place"]
  d_walk_of : DefAt K mg "walk_of" s_walk_of ["rules", "word"]
  d_by_rules : DefAt K mg "by_rules" s_by_rules ["rules", "word"]
  d_said_by : DefAt K mg "said_by" s_said_by ["book", "word"]
  d_said : DefAt K mg "said" s_said ["book", "word"]
  d_needless : DefAt K mg "needless" s_needless ["book"]
  d__law_row : DefAt K mg "_law_row" s__law_row ["_law_script"]
  d__law_taken : DefAt K mg "_law_taken" s__law_taken ["_law_row_here", "_law_many"]
  d__law_letters : DefAt K mg "_law_letters" s__law_letters ["_law_row_here"]
  d__law_side : DefAt K mg "_law_side" s__law_side ["_law_row_here", "_law_letters_here"]
  d__law_text : DefAt K mg "_law_text" s__law_text ["_law_row_here", "_law_signs", "_law_fewest", "_law_many"]
  d__law_rule : DefAt K mg "_law_rule" s__law_rule ["_law_row_here", "_law_letters_here"]
  d__law_rules : DefAt K mg "_law_rules" s__law_rules ["_law_row_here", "_law_letters_here", "_law_most"]
  d__law_fits : DefAt K mg "_law_fits" s__law_fits ["_law_rule_here", "_law_word", "_law_place"]
  d__law_walk : DefAt K mg "_law_walk" s__law_walk ["_law_rules_here", "_law_word"]
  d__law_said : DefAt K mg "_law_said" s__law_said ["_law_book", "_law_word"]
  d__law_alike : DefAt K mg "_law_alike" s__law_alike ["_law_found", "_law_due"]
  d_law : DefAt K mg "law" s_law ["_law_script"]
  e_SayError : ErrP K mg "SayError"
  e_BadBook : ErrI K mg "BadBook" "BadBook.__init__" si_BadBook ["self", "part", "number"]
  no_BadBook_part : PySem.W.findIn K (.ref e_BadBook.C) "part" = some none
  no_BadBook_number : PySem.W.findIn K (.ref e_BadBook.C) "number" = some none
  e_BadWord : ErrP K mg "BadWord"
  e_Unsaid : ErrI K mg "Unsaid" "Unsaid.__init__" si_Unsaid ["self", "place"]
  no_Unsaid_place : PySem.W.findIn K (.ref e_Unsaid.C) "place" = some none
  super : SuperC K e_SayError.C
  xm_SayError_Unsaid : PySem.W.exmOne K (.ref e_SayError.C) (.ref e_Unsaid.C) = some false
  xm_BadBook_Unsaid : PySem.W.exmOne K (.ref e_BadBook.C) (.ref e_Unsaid.C) = some false
  xm_BadWord_Unsaid : PySem.W.exmOne K (.ref e_BadWord.C) (.ref e_Unsaid.C) = some false
  xm_Unsaid_Unsaid : PySem.W.exmOne K (.ref e_Unsaid.C) (.ref e_Unsaid.C) = some true
  n_all : mg "all" = none
  n_bool : mg "bool" = none
  n_dict : mg "dict" = none
  n_enumerate : mg "enumerate" = none
  n_isinstance : mg "isinstance" = none
  n_len : mg "len" = none
  n_list : mg "list" = none
  n_range : mg "range" = none
  n_sorted : mg "sorted" = none
  n_str : mg "str" = none
  n_tuple : mg "tuple" = none
  t_SIGNS : Tok
  c_SIGNS : mg "SIGNS" = some (.str "abcdefghijklmnopqrstuvwxyz" t_SIGNS)
  t_SOUNDS : Tok
  c_SOUNDS : mg "SOUNDS" = some (.str "ABCDEFGHIJKLMNOPQRSTUVWXYZ" t_SOUNDS)
  t_BORDER : Tok
  c_BORDER : mg "BORDER" = some (.str "#" t_BORDER)
  t_FEWEST_LETTERS : Tok
  c_FEWEST_LETTERS : mg "FEWEST_LETTERS" = some (.int 2 t_FEWEST_LETTERS)
  t_MOST_LETTERS : Tok
  c_MOST_LETTERS : mg "MOST_LETTERS" = some (.int 4 t_MOST_LETTERS)
  t_MOST_OWN : Tok
  c_MOST_OWN : mg "MOST_OWN" = some (.int 2 t_MOST_OWN)
  t_MOST_RULES : Tok
  c_MOST_RULES : mg "MOST_RULES" = some (.int 12 t_MOST_RULES)
  t_MOST_SOUNDS : Tok
  c_MOST_SOUNDS : mg "MOST_SOUNDS" = some (.int 3 t_MOST_SOUNDS)
  t_MOST_EXCEPTIONS : Tok
  c_MOST_EXCEPTIONS : mg "MOST_EXCEPTIONS" = some (.int 8 t_MOST_EXCEPTIONS)
  t_MOST_EXCEPTED : Tok
  c_MOST_EXCEPTED : mg "MOST_EXCEPTED" = some (.int 8 t_MOST_EXCEPTED)
  t_MOST_WORD : Tok
  c_MOST_WORD : mg "MOST_WORD" = some (.int 12 t_MOST_WORD)
  t_MOST_SAID : Tok
  c_MOST_SAID : mg "MOST_SAID" = some (.int 36 t_MOST_SAID)
def Txt.ca {K : PySem.W.Frag} {mg : Str → Option Value} (T : Txt K mg) : EK → Addr
  | .say => T.e_SayError.C
  | .book => T.e_BadBook.C
  | .word => T.e_BadWord.C
  | .unsaid => T.e_Unsaid.C
  | _ => 0
def ct_Unsaid : EK → Option Bool
  | .say => some false
  | .book => some false
  | .word => some false
  | .unsaid => some true
  | _ => none
theorem Txt.ct_Unsaid_ok {K : PySem.W.Frag} {mg : Str → Option Value} (T : Txt K mg) (k : EK) (b : Bool) (h : ct_Unsaid k = some b) : PySem.W.exmOne K (.ref (T.ca k)) (.ref T.e_Unsaid.C) = some b := by
  cases k <;> first | (cases h; first | exact T.xm_SayError_Unsaid | exact T.xm_BadBook_Unsaid | exact T.xm_BadWord_Unsaid | exact T.xm_Unsaid_Unsaid) | cases h
section
variable {P : Program} {wd : World} {K : PySem.W.Frag} {mg : Str → Option Value} {base : Heap}
theorem sci_BadBook : FnScope ["self", "part", "number"] ["self", "part", "number"] (defScope si_BadBook) := ⟨rfl, rfl, rfl, by decide +kernel, rfl, by decide +kernel, by decide +kernel⟩
theorem ok_init_BadBook (T : Txt K mg) : FnOk P wd K mg base (L2.CX P wd) 1 T.e_BadBook.fI T.e_BadBook.fd ["self", "part", "number"] (spI2 K "part" "number") := by
  refine T.e_BadBook.F.okX sci_BadBook (fun vs H Q E h => ?_) (fun cdv A outer s H vs Q E hr h => ⟨tInit2 K "part " "part" "number", ?_, rd_init2 (by decide +kernel) h⟩)
  · obtain ⟨a, C, n, m, rfl, _⟩ := h
    rfl
  · exact pss_cons (ps_expr (pe_seinit rfl T.e_SayError.g T.super (pa_cons (pe_var (i := 0) rfl (by first | exact Or.inl rfl | exact Or.inr (Or.inl rfl) | exact Or.inr (Or.inr rfl)) db_self cd_self) (pa_cons (pe_joined (PJ.cons pe_str (PJ.cons (pe_fmt (pe_var (i := 1) rfl (by first | exact Or.inl rfl | exact Or.inr (Or.inl rfl) | exact Or.inr (Or.inr rfl)) db_part cd_part)) PJ.nil))) pa_nil)) rfl db_SayError)) (pss_cons (ps_ost (pe_var (i := 0) rfl (by first | exact Or.inl rfl | exact Or.inr (Or.inl rfl) | exact Or.inr (Or.inr rfl)) db_self cd_self) (pe_var (i := 1) rfl (by first | exact Or.inl rfl | exact Or.inr (Or.inl rfl) | exact Or.inr (Or.inr rfl)) db_part cd_part)) (pss_one (ps_ost (pe_var (i := 0) rfl (by first | exact Or.inl rfl | exact Or.inr (Or.inl rfl) | exact Or.inr (Or.inr rfl)) db_self cd_self) (pe_var (i := 2) rfl (by first | exact Or.inl rfl | exact Or.inr (Or.inl rfl) | exact Or.inr (Or.inr rfl)) db_number cd_number))))
theorem sci_Unsaid : FnScope ["self", "place"] ["self", "place"] (defScope si_Unsaid) := ⟨rfl, rfl, rfl, by decide +kernel, rfl, by decide +kernel, by decide +kernel⟩
theorem ok_init_Unsaid (T : Txt K mg) : FnOk P wd K mg base (L2.CX P wd) 1 T.e_Unsaid.fI T.e_Unsaid.fd ["self", "place"] (spI1 K "place") := by
  refine T.e_Unsaid.F.okX sci_Unsaid (fun vs H Q E h => ?_) (fun cdv A outer s H vs Q E hr h => ⟨tInit1 K "place " "place", ?_, rd_init1 (by decide +kernel) h⟩)
  · obtain ⟨a, C, n, rfl, _⟩ := h
    rfl
  · exact pss_cons (ps_expr (pe_seinit rfl T.e_SayError.g T.super (pa_cons (pe_var (i := 0) rfl (by first | exact Or.inl rfl | exact Or.inr (Or.inl rfl) | exact Or.inr (Or.inr rfl)) db_self cd_self) (pa_cons (pe_joined (PJ.cons pe_str (PJ.cons (pe_fmt (pe_var (i := 1) rfl (by first | exact Or.inl rfl | exact Or.inr (Or.inl rfl) | exact Or.inr (Or.inr rfl)) db_place cd_place)) PJ.nil))) pa_nil)) rfl db_SayError)) (pss_one (ps_ost (pe_var (i := 0) rfl (by first | exact Or.inl rfl | exact Or.inr (Or.inl rfl) | exact Or.inr (Or.inr rfl)) db_self cd_self) (pe_var (i := 1) rfl (by first | exact Or.inl rfl | exact Or.inr (Or.inl rfl) | exact Or.inr (Or.inr rfl)) db_place cd_place)))
end
end Yk15
namespace Yk15
open PySem L2 PySem.Spec PyProof.Rows Dm
section
variable {P : Program} {wd : World} {K : PySem.W.Frag} {mg : Str → Option Value} {base : Heap}
/-! is_of -/
abbrev ns_is_of : List Str := ["part", "signs", "low", "high", "sign"]
theorem sc_is_of : FnScope ns_is_of ["part", "signs", "low", "high"] (defScope s_is_of) := ⟨rfl, rfl, rfl, by decide +kernel, rfl, by decide +kernel, by decide +kernel⟩
theorem v_is_of_0 : Vis (defScope s_is_of) "part" := by first | exact Or.inl (by decide +kernel) | exact Or.inr (Or.inl (by decide +kernel)) | exact Or.inr (Or.inr (by decide +kernel))
theorem l_is_of_0 : Loc (defScope s_is_of) "part" := by first | exact Or.inl (by decide +kernel) | exact Or.inr (by decide +kernel)
theorem v_is_of_1 : Vis (defScope s_is_of) "signs" := by first | exact Or.inl (by decide +kernel) | exact Or.inr (Or.inl (by decide +kernel)) | exact Or.inr (Or.inr (by decide +kernel))
theorem l_is_of_1 : Loc (defScope s_is_of) "signs" := by first | exact Or.inl (by decide +kernel) | exact Or.inr (by decide +kernel)
theorem v_is_of_2 : Vis (defScope s_is_of) "low" := by first | exact Or.inl (by decide +kernel) | exact Or.inr (Or.inl (by decide +kernel)) | exact Or.inr (Or.inr (by decide +kernel))
theorem l_is_of_2 : Loc (defScope s_is_of) "low" := by first | exact Or.inl (by decide +kernel) | exact Or.inr (by decide +kernel)
theorem v_is_of_3 : Vis (defScope s_is_of) "high" := by first | exact Or.inl (by decide +kernel) | exact Or.inr (Or.inl (by decide +kernel)) | exact Or.inr (Or.inr (by decide +kernel))
theorem l_is_of_3 : Loc (defScope s_is_of) "high" := by first | exact Or.inl (by decide +kernel) | exact Or.inr (by decide +kernel)


noncomputable def b_is_of : Sn → Unit → SR Unit := (sRet (nD (fAnd (f1 (gIsi Ty.str) (fVar 0)) (fAnd (fChain gLe gLe (fVar 2) (fArgs gLen (aCons (fVar 0) aNil)) (fVar 3)) (fArgs (gAll fun bs => bs.all id) (aCons (fComp (fItems (fVar 0)) (.nm 4) [4] bYes (f2 (gIn id) (fVar 4) (fVar 1))) aNil))))))
noncomputable def F_is_of : List D → Unit → R Unit D := fnF 5 4 b_is_of
theorem ok_is_of (T : Txt K mg) : FnOk P wd K mg base (L2.CX P wd) 1 T.d_is_of.f T.d_is_of.fd ["part", "signs", "low", "high"] (spW K T.ca (fun _ => w0) F_is_of) := by
  refine fn_ok T.d_is_of.F sc_is_of fun cdv A outer s H E rho hr => ?_
  have hu := hr.units
  have tk : Takes (cxOf (L2.CX P wd) P wd K mg base ns_is_of "is_of" (defScope s_is_of) T.d_is_of.f cdv A outer s H E) (fun c d _ H => E c d H) := takes_of rfl rfl rfl rfl
  exact (dss_one (ds_ret (DE.n (de_and (de_isi Ty.str (by rfl) T.n_isinstance (by rfl) T.n_str bt_str (de_var 0 rfl v_is_of_0 db_part cd_part) nn_str db_str) (de_and (de_chain lf_le lf_le (de_var 2 rfl v_is_of_2 db_low cd_low) (de_callB cl_len (by rfl) T.n_len bt_len (da_cons (de_var 0 rfl v_is_of_0 db_part cd_part) da_nil) nn_len db_len) (de_var 3 rfl v_is_of_3 db_high cd_high)) (de_one (de_callB (cl_all rfl) (by rfl) T.n_all bt_all (da_cons (de_comp [("sign", 4)] rfl sc_is_of.nd (blkOk_by (N := ns_is_of) (sc := _) (show blkC ns_is_of (defScope s_is_of) _ _ = true by decide +kernel)) (di_val (de_var 0 rfl v_is_of_0 db_part cd_part)) (fun _ _ _ _ _ => (dg_name 4 sc_is_of.nd rfl (by first | exact Or.inl rfl | exact Or.inr rfl))) (fun _ _ _ _ _ => dts_nil) (fun _ _ _ _ _ => (de_cmp lf_in (de_var 4 rfl (by first | exact Or.inl rfl | exact Or.inr (Or.inl rfl) | exact Or.inr (Or.inr rfl)) db_sign cd_sign) (de_var 1 rfl (by first | exact Or.inl rfl | exact Or.inr (Or.inl rfl) | exact Or.inr (Or.inr rfl)) db_signs cd_signs)))) da_nil) nn_all db_all)))))))
/-! is_rising -/
abbrev ns_is_rising : List Str := ["text", "k"]
theorem sc_is_rising : FnScope ns_is_rising ["text"] (defScope s_is_rising) := ⟨rfl, rfl, rfl, by decide +kernel, rfl, by decide +kernel, by decide +kernel⟩
theorem v_is_rising_0 : Vis (defScope s_is_rising) "text" := by first | exact Or.inl (by decide +kernel) | exact Or.inr (Or.inl (by decide +kernel)) | exact Or.inr (Or.inr (by decide +kernel))
theorem l_is_rising_0 : Loc (defScope s_is_rising) "text" := by first | exact Or.inl (by decide +kernel) | exact Or.inr (by decide +kernel)


noncomputable def b_is_rising : Sn → Unit → SR Unit := (sRet (nD (fArgs (gAll fun bs => bs.all id) (aCons (fComp (fRng1 (aCons (f2 (gInt (fun i j => .int (i - j)) fun _ _ => true) (fArgs gLen (aCons (fVar 0) aNil)) (fC (.int 1))) aNil)) (.nm 1) [1] bYes (f2 gLt (f2 gIx (fVar 0) (fVar 1)) (f2 gIx (fVar 0) (f2 gAdd (fVar 1) (fC (.int 1)))))) aNil))))
noncomputable def F_is_rising : List D → Unit → R Unit D := fnF 2 1 b_is_rising
theorem ok_is_rising (T : Txt K mg) : FnOk P wd K mg base (L2.CX P wd) 1 T.d_is_rising.f T.d_is_rising.fd ["text"] (spW K T.ca (fun _ => w0) F_is_rising) := by
  refine fn_ok T.d_is_rising.F sc_is_rising fun cdv A outer s H E rho hr => ?_
  have hu := hr.units
  have tk : Takes (cxOf (L2.CX P wd) P wd K mg base ns_is_rising "is_rising" (defScope s_is_rising) T.d_is_rising.f cdv A outer s H E) (fun c d _ H => E c d H) := takes_of rfl rfl rfl rfl
  exact (dss_one (ds_ret (DE.n (de_callB (cl_all rfl) (by rfl) T.n_all bt_all (da_cons (de_comp [("k", 1)] rfl sc_is_rising.nd (blkOk_by (N := ns_is_rising) (sc := _) (show blkC ns_is_rising (defScope s_is_rising) _ _ = true by decide +kernel)) (di_range1 (by rfl) T.n_range (da_cons (de_bin lf_sub (de_callB cl_len (by rfl) T.n_len bt_len (da_cons (de_var 0 rfl v_is_rising_0 db_text cd_text) da_nil) nn_len db_len) de_int) da_nil)) (fun _ _ _ _ _ => (dg_name 1 sc_is_rising.nd rfl (by first | exact Or.inl rfl | exact Or.inr rfl))) (fun _ _ _ _ _ => dts_nil) (fun _ _ _ _ _ => (de_cmp lf_lt (de_ix (de_var 0 rfl (by first | exact Or.inl rfl | exact Or.inr (Or.inl rfl) | exact Or.inr (Or.inr rfl)) db_text cd_text) (de_var 1 rfl (by first | exact Or.inl rfl | exact Or.inr (Or.inl rfl) | exact Or.inr (Or.inr rfl)) db_k cd_k)) (de_ix (de_var 0 rfl (by first | exact Or.inl rfl | exact Or.inr (Or.inl rfl) | exact Or.inr (Or.inr rfl)) db_text cd_text) (de_bin lf_add (de_var 1 rfl (by first | exact Or.inl rfl | exact Or.inr (Or.inl rfl) | exact Or.inr (Or.inr rfl)) db_k cd_k) de_int))))) da_nil) nn_all db_all))))
/-! is_side -/
abbrev ns_is_side : List Str := ["part", "letters"]
theorem sc_is_side : FnScope ns_is_side ["part", "letters"] (defScope s_is_side) := ⟨rfl, rfl, rfl, by decide +kernel, rfl, by decide +kernel, by decide +kernel⟩
theorem v_is_side_0 : Vis (defScope s_is_side) "part" := by first | exact Or.inl (by decide +kernel) | exact Or.inr (Or.inl (by decide +kernel)) | exact Or.inr (Or.inr (by decide +kernel))
theorem l_is_side_0 : Loc (defScope s_is_side) "part" := by first | exact Or.inl (by decide +kernel) | exact Or.inr (by decide +kernel)
theorem v_is_side_1 : Vis (defScope s_is_side) "letters" := by first | exact Or.inl (by decide +kernel) | exact Or.inr (Or.inl (by decide +kernel)) | exact Or.inr (Or.inr (by decide +kernel))
theorem l_is_side_1 : Loc (defScope s_is_side) "letters" := by first | exact Or.inl (by decide +kernel) | exact Or.inr (by decide +kernel)
noncomputable def b_is_side : Sn → Unit → SR Unit := (sRet (nD (fAnd (fArgs (lift (fun _ => ()) (fun s _ => s) F_is_of) (aCons (fVar 0) (aCons (f2 gAdd (fC (.str [35])) (fVar 1)) (aCons (fC (.int 0)) (aCons (f2 gAdd (fC (.int 4)) (fC (.int 1))) aNil))))) (fArgs (lift (fun _ => ()) (fun s _ => s) F_is_rising) (aCons (fVar 0) aNil)))))
noncomputable def F_is_side : List D → Unit → R Unit D := fnF 2 2 b_is_side
theorem ok_is_side (T : Txt K mg) : FnOk P wd K mg base (L2.CX P wd) 2 T.d_is_side.f T.d_is_side.fd ["part", "letters"] (spW K T.ca (fun _ => w0) F_is_side) := by
  refine fn_ok T.d_is_side.F sc_is_side fun cdv A outer s H E rho hr => ?_
  have hu := hr.units
  have tk : Takes (cxOf (L2.CX P wd) P wd K mg base ns_is_side "is_side" (defScope s_is_side) T.d_is_side.f cdv A outer s H E) (fun c d _ H => E c d H) := takes_of rfl rfl rfl rfl
  exact (dss_one (ds_ret (DE.n (de_and (de_call Fit.pure (ok_is_of T) (hr.mono (by decide)) (by rfl) T.d_is_of.g T.d_is_of.F.kp T.d_is_of.b tk (da_cons (de_var 0 rfl v_is_side_0 db_part cd_part) (da_cons (de_bin lf_add (de_globS (l := [35]) (by rfl) T.c_BORDER rfl db_BORDER) (de_var 1 rfl v_is_side_1 db_letters cd_letters)) (da_cons de_int (da_cons (de_bin lf_add (de_globI (by rfl) T.c_MOST_LETTERS db_MOST_LETTERS) de_int) da_nil)))) db_is_of) (de_one (de_call Fit.pure (ok_is_rising T) (hr.mono (by decide)) (by rfl) T.d_is_rising.g T.d_is_rising.F.kp T.d_is_rising.b tk (da_cons (de_var 0 rfl v_is_side_0 db_part cd_part) da_nil) db_is_rising))))))
/-! is_rule -/
abbrev ns_is_rule : List Str := ["part", "letters"]
theorem sc_is_rule : FnScope ns_is_rule ["part", "letters"] (defScope s_is_rule) := ⟨rfl, rfl, rfl, by decide +kernel, rfl, by decide +kernel, by decide +kernel⟩
theorem v_is_rule_0 : Vis (defScope s_is_rule) "part" := by first | exact Or.inl (by decide +kernel) | exact Or.inr (Or.inl (by decide +kernel)) | exact Or.inr (Or.inr (by decide +kernel))
theorem l_is_rule_0 : Loc (defScope s_is_rule) "part" := by first | exact Or.inl (by decide +kernel) | exact Or.inr (by decide +kernel)
theorem v_is_rule_1 : Vis (defScope s_is_rule) "letters" := by first | exact Or.inl (by decide +kernel) | exact Or.inr (Or.inl (by decide +kernel)) | exact Or.inr (Or.inr (by decide +kernel))
theorem l_is_rule_1 : Loc (defScope s_is_rule) "letters" := by first | exact Or.inl (by decide +kernel) | exact Or.inr (by decide +kernel)
noncomputable def b_is_rule : Sn → Unit → SR Unit := (sSeq (sIf (nD (bOr (bNot (asB (f1 (gIsi Ty.tuple) (fVar 0)))) (bOr (asB (f2 (gEq not) (fArgs gLen (aCons (fVar 0) aNil)) (fC (.int 4)))) (bNot (asB (fArgs (lift (fun _ => ()) (fun s _ => s) F_is_of) (aCons (f2 gIx (fVar 0) (fC (.int 1))) (aCons (fVar 1) (aCons (fC (.int 1)) (aCons (fC (.int 2)) aNil)))))))))) (sRet (nD (fC (.bl false)))) sNil)
    (sRet (nD (fAnd (fArgs (lift (fun _ => ()) (fun s _ => s) F_is_side) (aCons (f2 gIx (fVar 0) (fC (.int 0))) (aCons (fVar 1) aNil))) (fAnd (fArgs (lift (fun _ => ()) (fun s _ => s) F_is_side) (aCons (f2 gIx (fVar 0) (fC (.int 2))) (aCons (fVar 1) aNil))) (fArgs (lift (fun _ => ()) (fun s _ => s) F_is_of) (aCons (f2 gIx (fVar 0) (fC (.int 3))) (aCons (fC (.str [65, 66, 67, 68, 69, 70, 71, 72, 73, 74, 75, 76, 77, 78, 79, 80, 81, 82, 83, 84, 85, 86, 87, 88, 89, 90])) (aCons (fC (.int 0)) (aCons (fC (.int 3)) aNil))))))))))
noncomputable def F_is_rule : List D → Unit → R Unit D := fnF 2 2 b_is_rule
theorem ok_is_rule (T : Txt K mg) : FnOk P wd K mg base (L2.CX P wd) 3 T.d_is_rule.f T.d_is_rule.fd ["part", "letters"] (spW K T.ca (fun _ => w0) F_is_rule) := by
  refine fn_ok T.d_is_rule.F sc_is_rule fun cdv A outer s H E rho hr => ?_
  have hu := hr.units
  have tk : Takes (cxOf (L2.CX P wd) P wd K mg base ns_is_rule "is_rule" (defScope s_is_rule) T.d_is_rule.f cdv A outer s H E) (fun c d _ H => E c d H) := takes_of rfl rfl rfl rfl
  exact (dss_cons (ds_if (DB.n (DW.db (dw_or (db_not (db_val (de_isi Ty.tuple (by rfl) T.n_isinstance (by rfl) T.n_tuple bt_tuple (de_var 0 rfl v_is_rule_0 db_part cd_part) nn_tuple db_tuple))) (dw_or (db_cmp (lf_ne hu) (de_callB cl_len (by rfl) T.n_len bt_len (da_cons (de_var 0 rfl v_is_rule_0 db_part cd_part) da_nil) nn_len db_len) de_int) (dw_or1 (db_not (db_val (de_call Fit.pure (ok_is_of T) (hr.mono (by decide)) (by rfl) T.d_is_of.g T.d_is_of.F.kp T.d_is_of.b tk (da_cons (de_ix (de_var 0 rfl v_is_rule_0 db_part cd_part) de_int) (da_cons (de_var 1 rfl v_is_rule_1 db_letters cd_letters) (da_cons de_int (da_cons (de_globI (by rfl) T.c_MOST_OWN db_MOST_OWN) da_nil)))) db_is_of)))))))) (dss_one (ds_ret (DE.n de_bl))) dss_nil)
      (dss_one (ds_ret (DE.n (de_and (de_call Fit.pure (ok_is_side T) (hr.mono (by decide)) (by rfl) T.d_is_side.g T.d_is_side.F.kp T.d_is_side.b tk (da_cons (de_ix (de_var 0 rfl v_is_rule_0 db_part cd_part) de_int) (da_cons (de_var 1 rfl v_is_rule_1 db_letters cd_letters) da_nil)) db_is_side) (de_and (de_call Fit.pure (ok_is_side T) (hr.mono (by decide)) (by rfl) T.d_is_side.g T.d_is_side.F.kp T.d_is_side.b tk (da_cons (de_ix (de_var 0 rfl v_is_rule_0 db_part cd_part) de_int) (da_cons (de_var 1 rfl v_is_rule_1 db_letters cd_letters) da_nil)) db_is_side) (de_one (de_call Fit.pure (ok_is_of T) (hr.mono (by decide)) (by rfl) T.d_is_of.g T.d_is_of.F.kp T.d_is_of.b tk (da_cons (de_ix (de_var 0 rfl v_is_rule_0 db_part cd_part) de_int) (da_cons (de_globS (l := [65, 66, 67, 68, 69, 70, 71, 72, 73, 74, 75, 76, 77, 78, 79, 80, 81, 82, 83, 84, 85, 86, 87, 88, 89, 90]) (by rfl) T.c_SOUNDS rfl db_SOUNDS) (da_cons de_int (da_cons (de_globI (by rfl) T.c_MOST_SOUNDS db_MOST_SOUNDS) da_nil)))) db_is_of))))))))
/-! is_letters -/
abbrev ns_is_letters : List Str := ["part"]
theorem sc_is_letters : FnScope ns_is_letters ["part"] (defScope s_is_letters) := ⟨rfl, rfl, rfl, by decide +kernel, rfl, by decide +kernel, by decide +kernel⟩
theorem v_is_letters_0 : Vis (defScope s_is_letters) "part" := by first | exact Or.inl (by decide +kernel) | exact Or.inr (Or.inl (by decide +kernel)) | exact Or.inr (Or.inr (by decide +kernel))
theorem l_is_letters_0 : Loc (defScope s_is_letters) "part" := by first | exact Or.inl (by decide +kernel) | exact Or.inr (by decide +kernel)
noncomputable def b_is_letters : Sn → Unit → SR Unit := (sRet (nD (fAnd (fArgs (lift (fun _ => ()) (fun s _ => s) F_is_of) (aCons (fVar 0) (aCons (fC (.str [97, 98, 99, 100, 101, 102, 103, 104, 105, 106, 107, 108, 109, 110, 111, 112, 113, 114, 115, 116, 117, 118, 119, 120, 121, 122])) (aCons (fC (.int 2)) (aCons (fC (.int 4)) aNil))))) (fArgs (lift (fun _ => ()) (fun s _ => s) F_is_rising) (aCons (fVar 0) aNil)))))
noncomputable def F_is_letters : List D → Unit → R Unit D := fnF 1 1 b_is_letters
theorem ok_is_letters (T : Txt K mg) : FnOk P wd K mg base (L2.CX P wd) 2 T.d_is_letters.f T.d_is_letters.fd ["part"] (spW K T.ca (fun _ => w0) F_is_letters) := by
  refine fn_ok T.d_is_letters.F sc_is_letters fun cdv A outer s H E rho hr => ?_
  have hu := hr.units
  have tk : Takes (cxOf (L2.CX P wd) P wd K mg base ns_is_letters "is_letters" (defScope s_is_letters) T.d_is_letters.f cdv A outer s H E) (fun c d _ H => E c d H) := takes_of rfl rfl rfl rfl
  exact (dss_one (ds_ret (DE.n (de_and (de_call Fit.pure (ok_is_of T) (hr.mono (by decide)) (by rfl) T.d_is_of.g T.d_is_of.F.kp T.d_is_of.b tk (da_cons (de_var 0 rfl v_is_letters_0 db_part cd_part) (da_cons (de_globS (l := [97, 98, 99, 100, 101, 102, 103, 104, 105, 106, 107, 108, 109, 110, 111, 112, 113, 114, 115, 116, 117, 118, 119, 120, 121, 122]) (by rfl) T.c_SIGNS rfl db_SIGNS) (da_cons (de_globI (by rfl) T.c_FEWEST_LETTERS db_FEWEST_LETTERS) (da_cons (de_globI (by rfl) T.c_MOST_LETTERS db_MOST_LETTERS) da_nil)))) db_is_of) (de_one (de_call Fit.pure (ok_is_rising T) (hr.mono (by decide)) (by rfl) T.d_is_rising.g T.d_is_rising.F.kp T.d_is_rising.b tk (da_cons (de_var 0 rfl v_is_letters_0 db_part cd_part) da_nil) db_is_rising))))))
/-! is_exception -/
abbrev ns_is_exception : List Str := ["part", "letters"]
theorem sc_is_exception : FnScope ns_is_exception ["part", "letters"] (defScope s_is_exception) := ⟨rfl, rfl, rfl, by decide +kernel, rfl, by decide +kernel, by decide +kernel⟩
theorem v_is_exception_0 : Vis (defScope s_is_exception) "part" := by first | exact Or.inl (by decide +kernel) | exact Or.inr (Or.inl (by decide +kernel)) | exact Or.inr (Or.inr (by decide +kernel))
theorem l_is_exception_0 : Loc (defScope s_is_exception) "part" := by first | exact Or.inl (by decide +kernel) | exact Or.inr (by decide +kernel)
theorem v_is_exception_1 : Vis (defScope s_is_exception) "letters" := by first | exact Or.inl (by decide +kernel) | exact Or.inr (Or.inl (by decide +kernel)) | exact Or.inr (Or.inr (by decide +kernel))
theorem l_is_exception_1 : Loc (defScope s_is_exception) "letters" := by first | exact Or.inl (by decide +kernel) | exact Or.inr (by decide +kernel)
noncomputable def b_is_exception : Sn → Unit → SR Unit := (sSeq (sIf (nD (bOr (bNot (asB (f1 (gIsi Ty.tuple) (fVar 0)))) (bOr (asB (f2 (gEq not) (fArgs gLen (aCons (fVar 0) aNil)) (fC (.int 2)))) (bNot (asB (fArgs (lift (fun _ => ()) (fun s _ => s) F_is_of) (aCons (f2 gIx (fVar 0) (fC (.int 0))) (aCons (fVar 1) (aCons (fC (.int 1)) (aCons (fC (.int 8)) aNil)))))))))) (sRet (nD (fC (.bl false)))) sNil)
    (sRet (nD (fArgs (lift (fun _ => ()) (fun s _ => s) F_is_of) (aCons (f2 gIx (fVar 0) (fC (.int 1))) (aCons (fC (.str [65, 66, 67, 68, 69, 70, 71, 72, 73, 74, 75, 76, 77, 78, 79, 80, 81, 82, 83, 84, 85, 86, 87, 88, 89, 90])) (aCons (fC (.int 0)) (aCons (fC (.int 36)) aNil))))))))
noncomputable def F_is_exception : List D → Unit → R Unit D := fnF 2 2 b_is_exception
theorem ok_is_exception (T : Txt K mg) : FnOk P wd K mg base (L2.CX P wd) 2 T.d_is_exception.f T.d_is_exception.fd ["part", "letters"] (spW K T.ca (fun _ => w0) F_is_exception) := by
  refine fn_ok T.d_is_exception.F sc_is_exception fun cdv A outer s H E rho hr => ?_
  have hu := hr.units
  have tk : Takes (cxOf (L2.CX P wd) P wd K mg base ns_is_exception "is_exception" (defScope s_is_exception) T.d_is_exception.f cdv A outer s H E) (fun c d _ H => E c d H) := takes_of rfl rfl rfl rfl
  exact (dss_cons (ds_if (DB.n (DW.db (dw_or (db_not (db_val (de_isi Ty.tuple (by rfl) T.n_isinstance (by rfl) T.n_tuple bt_tuple (de_var 0 rfl v_is_exception_0 db_part cd_part) nn_tuple db_tuple))) (dw_or (db_cmp (lf_ne hu) (de_callB cl_len (by rfl) T.n_len bt_len (da_cons (de_var 0 rfl v_is_exception_0 db_part cd_part) da_nil) nn_len db_len) de_int) (dw_or1 (db_not (db_val (de_call Fit.pure (ok_is_of T) (hr.mono (by decide)) (by rfl) T.d_is_of.g T.d_is_of.F.kp T.d_is_of.b tk (da_cons (de_ix (de_var 0 rfl v_is_exception_0 db_part cd_part) de_int) (da_cons (de_var 1 rfl v_is_exception_1 db_letters cd_letters) (da_cons de_int (da_cons (de_globI (by rfl) T.c_MOST_EXCEPTED db_MOST_EXCEPTED) da_nil)))) db_is_of)))))))) (dss_one (ds_ret (DE.n de_bl))) dss_nil)
      (dss_one (ds_ret (DE.n (de_call Fit.pure (ok_is_of T) (hr.mono (by decide)) (by rfl) T.d_is_of.g T.d_is_of.F.kp T.d_is_of.b tk (da_cons (de_ix (de_var 0 rfl v_is_exception_0 db_part cd_part) de_int) (da_cons (de_globS (l := [65, 66, 67, 68, 69, 70, 71, 72, 73, 74, 75, 76, 77, 78, 79, 80, 81, 82, 83, 84, 85, 86, 87, 88, 89, 90]) (by rfl) T.c_SOUNDS rfl db_SOUNDS) (da_cons de_int (da_cons (de_globI (by rfl) T.c_MOST_SAID db_MOST_SAID) da_nil)))) db_is_of)))))
/-! need_rules -/
abbrev ns_need_rules : List Str := ["letters", "rules", "number", "rule"]
theorem sc_need_rules : FnScope ns_need_rules ["letters", "rules"] (defScope s_need_rules) := ⟨rfl, rfl, rfl, by decide +kernel, rfl, by decide +kernel, by decide +kernel⟩
theorem v_need_rules_0 : Vis (defScope s_need_rules) "letters" := by first | exact Or.inl (by decide +kernel) | exact Or.inr (Or.inl (by decide +kernel)) | exact Or.inr (Or.inr (by decide +kernel))
theorem l_need_rules_0 : Loc (defScope s_need_rules) "letters" := by first | exact Or.inl (by decide +kernel) | exact Or.inr (by decide +kernel)
theorem v_need_rules_1 : Vis (defScope s_need_rules) "rules" := by first | exact Or.inl (by decide +kernel) | exact Or.inr (Or.inl (by decide +kernel)) | exact Or.inr (Or.inr (by decide +kernel))
theorem l_need_rules_1 : Loc (defScope s_need_rules) "rules" := by first | exact Or.inl (by decide +kernel) | exact Or.inr (by decide +kernel)
theorem v_need_rules_2 : Vis (defScope s_need_rules) "number" := by first | exact Or.inl (by decide +kernel) | exact Or.inr (Or.inl (by decide +kernel)) | exact Or.inr (Or.inr (by decide +kernel))
theorem l_need_rules_2 : Loc (defScope s_need_rules) "number" := by first | exact Or.inl (by decide +kernel) | exact Or.inr (by decide +kernel)
theorem v_need_rules_3 : Vis (defScope s_need_rules) "rule" := by first | exact Or.inl (by decide +kernel) | exact Or.inr (Or.inl (by decide +kernel)) | exact Or.inr (Or.inr (by decide +kernel))
theorem l_need_rules_3 : Loc (defScope s_need_rules) "rule" := by first | exact Or.inl (by decide +kernel) | exact Or.inr (by decide +kernel)
noncomputable def b_need_rules : Sn → Unit → SR Unit := (sSeq (sIf (nD (bNot (asB (fArgs (lift (fun _ => ()) (fun s _ => s) F_is_letters) (aCons (fVar 0) aNil))))) (sRaise (fErr2 .book "part" "number" (aCons (fC (.int 0)) (aCons (fC (.int 0)) aNil)))) sNil)
    (sSeq (sIf (nD (bNot (asB (f1 (gIsi Ty.tuple) (fVar 1))))) (sRaise (fErr2 .book "part" "number" (aCons (fC (.int 1)) (aCons (fC (.int 0)) aNil)))) sNil)
    (sFor (nD (fEnum (aCons (fVar 1) aNil))) (.tp [2, 3]) (sIf (nD (bOr (asB (f2 (gEq id) (fVar 2) (fC (.int 12)))) (bNot (asB (fArgs (lift (fun _ => ()) (fun s _ => s) F_is_rule) (aCons (fVar 3) (aCons (fVar 0) aNil))))))) (sRaise (fErr2 .book "part" "number" (aCons (fC (.int 1)) (aCons (fVar 2) aNil)))) sNil))))
noncomputable def F_need_rules : List D → Unit → R Unit D := fnF 4 2 b_need_rules
theorem ok_need_rules (T : Txt K mg) : FnOk P wd K mg base (L2.CX P wd) 4 T.d_need_rules.f T.d_need_rules.fd ["letters", "rules"] (spW K T.ca (fun _ => w0) F_need_rules) := by
  refine fn_ok T.d_need_rules.F sc_need_rules fun cdv A outer s H E rho hr => ?_
  have hu := hr.units
  have tk : Takes (cxOf (L2.CX P wd) P wd K mg base ns_need_rules "need_rules" (defScope s_need_rules) T.d_need_rules.f cdv A outer s H E) (fun c d _ H => E c d H) := takes_of rfl rfl rfl rfl
  exact (dss_cons (ds_if (DB.n (db_not (db_val (de_call Fit.pure (ok_is_letters T) (hr.mono (by decide)) (by rfl) T.d_is_letters.g T.d_is_letters.F.kp T.d_is_letters.b tk (da_cons (de_var 0 rfl v_need_rules_0 db_letters cd_letters) da_nil) db_is_letters)))) (dss_one (ds_raise rfl tk (dr_init2 (W := fun c d _ H => E c d H) .book T.e_BadBook.T T.no_BadBook_part T.no_BadBook_number T.e_BadBook.i T.e_BadBook.ti (ok_init_BadBook T) (hr.mono (by decide)) T.e_BadBook.bi tk (by rfl) T.e_BadBook.g (da_cons de_int (da_cons de_int da_nil)) rfl db_BadBook))) dss_nil)
      (dss_cons (ds_if (DB.n (db_not (db_val (de_isi Ty.tuple (by rfl) T.n_isinstance (by rfl) T.n_tuple bt_tuple (de_var 1 rfl v_need_rules_1 db_rules cd_rules) nn_tuple db_tuple)))) (dss_one (ds_raise rfl tk (dr_init2 (W := fun c d _ H => E c d H) .book T.e_BadBook.T T.no_BadBook_part T.no_BadBook_number T.e_BadBook.i T.e_BadBook.ti (ok_init_BadBook T) (hr.mono (by decide)) T.e_BadBook.bi tk (by rfl) T.e_BadBook.g (da_cons de_int (da_cons de_int da_nil)) rfl db_BadBook))) dss_nil)
      (dss_one (ds_for PassesOwn.leaving rfl (DI.n (di_enum (by rfl) T.n_enumerate (da_cons (de_var 1 rfl v_need_rules_1 db_rules cd_rules) da_nil))) (dg_tup rfl (dgs_cons (dg_name 2 sc_need_rules.nd rfl (by first | exact Or.inl rfl | exact Or.inr rfl)) (dgs_cons (dg_name 3 sc_need_rules.nd rfl (by first | exact Or.inl rfl | exact Or.inr rfl)) dgs_nil))) (dss_one (ds_if (DB.n (DW.db (dw_or (db_cmp (lf_eq hu) (de_var 2 rfl v_need_rules_2 db_number cd_number) (de_globI (by rfl) T.c_MOST_RULES db_MOST_RULES)) (dw_or1 (db_not (db_val (de_call Fit.pure (ok_is_rule T) (hr.mono (by decide)) (by rfl) T.d_is_rule.g T.d_is_rule.F.kp T.d_is_rule.b tk (da_cons (de_var 3 rfl v_need_rules_3 db_rule cd_rule) (da_cons (de_var 0 rfl v_need_rules_0 db_letters cd_letters) da_nil)) db_is_rule))))))) (dss_one (ds_raise rfl tk (dr_init2 (W := fun c d _ H => E c d H) .book T.e_BadBook.T T.no_BadBook_part T.no_BadBook_number T.e_BadBook.i T.e_BadBook.ti (ok_init_BadBook T) (hr.mono (by decide)) T.e_BadBook.bi tk (by rfl) T.e_BadBook.g (da_cons de_int (da_cons (de_var 2 rfl v_need_rules_2 db_number cd_number) da_nil)) rfl db_BadBook))) dss_nil))))))
/-! need_book -/
abbrev ns_need_book : List Str := ["book", "ahead", "letters", "rules", "exceptions", "number", "one"]
theorem sc_need_book : FnScope ns_need_book ["book"] (defScope s_need_book) := ⟨rfl, rfl, rfl, by decide +kernel, rfl, by decide +kernel, by decide +kernel⟩
theorem v_need_book_0 : Vis (defScope s_need_book) "book" := by first | exact Or.inl (by decide +kernel) | exact Or.inr (Or.inl (by decide +kernel)) | exact Or.inr (Or.inr (by decide +kernel))
theorem l_need_book_0 : Loc (defScope s_need_book) "book" := by first | exact Or.inl (by decide +kernel) | exact Or.inr (by decide +kernel)
theorem v_need_book_1 : Vis (defScope s_need_book) "ahead" := by first | exact Or.inl (by decide +kernel) | exact Or.inr (Or.inl (by decide +kernel)) | exact Or.inr (Or.inr (by decide +kernel))
theorem l_need_book_1 : Loc (defScope s_need_book) "ahead" := by first | exact Or.inl (by decide +kernel) | exact Or.inr (by decide +kernel)
theorem v_need_book_2 : Vis (defScope s_need_book) "letters" := by first | exact Or.inl (by decide +kernel) | exact Or.inr (Or.inl (by decide +kernel)) | exact Or.inr (Or.inr (by decide +kernel))
theorem l_need_book_2 : Loc (defScope s_need_book) "letters" := by first | exact Or.inl (by decide +kernel) | exact Or.inr (by decide +kernel)
theorem v_need_book_3 : Vis (defScope s_need_book) "rules" := by first | exact Or.inl (by decide +kernel) | exact Or.inr (Or.inl (by decide +kernel)) | exact Or.inr (Or.inr (by decide +kernel))
theorem l_need_book_3 : Loc (defScope s_need_book) "rules" := by first | exact Or.inl (by decide +kernel) | exact Or.inr (by decide +kernel)
theorem v_need_book_4 : Vis (defScope s_need_book) "exceptions" := by first | exact Or.inl (by decide +kernel) | exact Or.inr (Or.inl (by decide +kernel)) | exact Or.inr (Or.inr (by decide +kernel))
theorem l_need_book_4 : Loc (defScope s_need_book) "exceptions" := by first | exact Or.inl (by decide +kernel) | exact Or.inr (by decide +kernel)
theorem v_need_book_5 : Vis (defScope s_need_book) "number" := by first | exact Or.inl (by decide +kernel) | exact Or.inr (Or.inl (by decide +kernel)) | exact Or.inr (Or.inr (by decide +kernel))
theorem l_need_book_5 : Loc (defScope s_need_book) "number" := by first | exact Or.inl (by decide +kernel) | exact Or.inr (by decide +kernel)
theorem v_need_book_6 : Vis (defScope s_need_book) "one" := by first | exact Or.inl (by decide +kernel) | exact Or.inr (Or.inl (by decide +kernel)) | exact Or.inr (Or.inr (by decide +kernel))
theorem l_need_book_6 : Loc (defScope s_need_book) "one" := by first | exact Or.inl (by decide +kernel) | exact Or.inr (by decide +kernel)
noncomputable def b_need_book : Sn → Unit → SR Unit := (sSeq (sIf (nD (bOr (bNot (asB (f1 (gIsi Ty.tuple) (fVar 0)))) (asB (f2 (gEq not) (fArgs gLen (aCons (fVar 0) aNil)) (fC (.int 3)))))) (sRaise (fErr2 .book "part" "number" (aCons (f1 gNeg (fC (.int 1))) (aCons (fC (.int 0)) aNil)))) sNil)
    (sSeq (sTup (.tp [2, 3, 4]) (nD (fVar 0)))
    (sSeq (sDrop (nD (fArgs (lift (fun _ => ()) (fun s _ => s) F_need_rules) (aCons (fVar 2) (aCons (fVar 3) aNil)))))
    (sSeq (sIf (nD (bNot (asB (f1 (gIsi Ty.tuple) (fVar 4))))) (sRaise (fErr2 .book "part" "number" (aCons (fC (.int 2)) (aCons (fC (.int 0)) aNil)))) sNil)
    (sSeq (sSet 1 (nD (fC (.str []))))
    (sFor (nD (fEnum (aCons (fVar 4) aNil))) (.tp [5, 6]) (sSeq (sIf (nD (bOr (asB (f2 (gEq id) (fVar 5) (fC (.int 8)))) (bOr (bNot (asB (fArgs (lift (fun _ => ()) (fun s _ => s) F_is_exception) (aCons (fVar 6) (aCons (fVar 2) aNil))))) (asB (f2 gLe (f2 gIx (fVar 6) (fC (.int 0))) (fVar 1)))))) (sRaise (fErr2 .book "part" "number" (aCons (fC (.int 2)) (aCons (fVar 5) aNil)))) sNil)
    (sSet 1 (nD (f2 gIx (fVar 6) (fC (.int 0))))))))))))
noncomputable def F_need_book : List D → Unit → R Unit D := fnF 7 1 b_need_book
theorem ok_need_book (T : Txt K mg) : FnOk P wd K mg base (L2.CX P wd) 5 T.d_need_book.f T.d_need_book.fd ["book"] (spW K T.ca (fun _ => w0) F_need_book) := by
  refine fn_ok T.d_need_book.F sc_need_book fun cdv A outer s H E rho hr => ?_
  have hu := hr.units
  have tk : Takes (cxOf (L2.CX P wd) P wd K mg base ns_need_book "need_book" (defScope s_need_book) T.d_need_book.f cdv A outer s H E) (fun c d _ H => E c d H) := takes_of rfl rfl rfl rfl
  exact (dss_cons (ds_if (DB.n (DW.db (dw_or (db_not (db_val (de_isi Ty.tuple (by rfl) T.n_isinstance (by rfl) T.n_tuple bt_tuple (de_var 0 rfl v_need_book_0 db_book cd_book) nn_tuple db_tuple))) (dw_or1 (db_cmp (lf_ne hu) (de_callB cl_len (by rfl) T.n_len bt_len (da_cons (de_var 0 rfl v_need_book_0 db_book cd_book) da_nil) nn_len db_len) de_int))))) (dss_one (ds_raise rfl tk (dr_init2 (W := fun c d _ H => E c d H) .book T.e_BadBook.T T.no_BadBook_part T.no_BadBook_number T.e_BadBook.i T.e_BadBook.ti (ok_init_BadBook T) (hr.mono (by decide)) T.e_BadBook.bi tk (by rfl) T.e_BadBook.g (da_cons (de_neg de_int) (da_cons de_int da_nil)) rfl db_BadBook))) dss_nil)
      (dss_cons (ds_tup (dg_tup rfl (dgs_cons (dg_name 2 sc_need_book.nd rfl (by first | exact Or.inl rfl | exact Or.inr rfl)) (dgs_cons (dg_name 3 sc_need_book.nd rfl (by first | exact Or.inl rfl | exact Or.inr rfl)) (dgs_cons (dg_name 4 sc_need_book.nd rfl (by first | exact Or.inl rfl | exact Or.inr rfl)) dgs_nil)))) (DE.n (de_var 0 rfl v_need_book_0 db_book cd_book)))
      (dss_cons (ds_expr (DE.n (de_call Fit.pure (ok_need_rules T) (hr.mono (by decide)) (by rfl) T.d_need_rules.g T.d_need_rules.F.kp T.d_need_rules.b tk (da_cons (de_var 2 rfl v_need_book_2 db_letters cd_letters) (da_cons (de_var 3 rfl v_need_book_3 db_rules cd_rules) da_nil)) db_need_rules)))
      (dss_cons (ds_if (DB.n (db_not (db_val (de_isi Ty.tuple (by rfl) T.n_isinstance (by rfl) T.n_tuple bt_tuple (de_var 4 rfl v_need_book_4 db_exceptions cd_exceptions) nn_tuple db_tuple)))) (dss_one (ds_raise rfl tk (dr_init2 (W := fun c d _ H => E c d H) .book T.e_BadBook.T T.no_BadBook_part T.no_BadBook_number T.e_BadBook.i T.e_BadBook.ti (ok_init_BadBook T) (hr.mono (by decide)) T.e_BadBook.bi tk (by rfl) T.e_BadBook.g (da_cons de_int (da_cons de_int da_nil)) rfl db_BadBook))) dss_nil)
      (dss_cons (ds_set 1 sc_need_book.nd rfl l_need_book_1 (DE.n (de_str (l := []))))
      (dss_one (ds_for PassesOwn.leaving rfl (DI.n (di_enum (by rfl) T.n_enumerate (da_cons (de_var 4 rfl v_need_book_4 db_exceptions cd_exceptions) da_nil))) (dg_tup rfl (dgs_cons (dg_name 5 sc_need_book.nd rfl (by first | exact Or.inl rfl | exact Or.inr rfl)) (dgs_cons (dg_name 6 sc_need_book.nd rfl (by first | exact Or.inl rfl | exact Or.inr rfl)) dgs_nil))) (dss_cons (ds_if (DB.n (DW.db (dw_or (db_cmp (lf_eq hu) (de_var 5 rfl v_need_book_5 db_number cd_number) (de_globI (by rfl) T.c_MOST_EXCEPTIONS db_MOST_EXCEPTIONS)) (dw_or (db_not (db_val (de_call Fit.pure (ok_is_exception T) (hr.mono (by decide)) (by rfl) T.d_is_exception.g T.d_is_exception.F.kp T.d_is_exception.b tk (da_cons (de_var 6 rfl v_need_book_6 db_one cd_one) (da_cons (de_var 2 rfl v_need_book_2 db_letters cd_letters) da_nil)) db_is_exception))) (dw_or1 (db_cmp lf_le (de_ix (de_var 6 rfl v_need_book_6 db_one cd_one) de_int) (de_var 1 rfl v_need_book_1 db_ahead cd_ahead))))))) (dss_one (ds_raise rfl tk (dr_init2 (W := fun c d _ H => E c d H) .book T.e_BadBook.T T.no_BadBook_part T.no_BadBook_number T.e_BadBook.i T.e_BadBook.ti (ok_init_BadBook T) (hr.mono (by decide)) T.e_BadBook.bi tk (by rfl) T.e_BadBook.g (da_cons de_int (da_cons (de_var 5 rfl v_need_book_5 db_number cd_number) da_nil)) rfl db_BadBook))) dss_nil)
      (dss_one (ds_set 1 sc_need_book.nd rfl l_need_book_1 (DE.n (de_ix (de_var 6 rfl v_need_book_6 db_one cd_one) de_int))))))))))))
/-! need_word -/
abbrev ns_need_word : List Str := ["letters", "word"]
theorem sc_need_word : FnScope ns_need_word ["letters", "word"] (defScope s_need_word) := ⟨rfl, rfl, rfl, by decide +kernel, rfl, by decide +kernel, by decide +kernel⟩
theorem v_need_word_0 : Vis (defScope s_need_word) "letters" := by first | exact Or.inl (by decide +kernel) | exact Or.inr (Or.inl (by decide +kernel)) | exact Or.inr (Or.inr (by decide +kernel))
theorem l_need_word_0 : Loc (defScope s_need_word) "letters" := by first | exact Or.inl (by decide +kernel) | exact Or.inr (by decide +kernel)
theorem v_need_word_1 : Vis (defScope s_need_word) "word" := by first | exact Or.inl (by decide +kernel) | exact Or.inr (Or.inl (by decide +kernel)) | exact Or.inr (Or.inr (by decide +kernel))
theorem l_need_word_1 : Loc (defScope s_need_word) "word" := by first | exact Or.inl (by decide +kernel) | exact Or.inr (by decide +kernel)
noncomputable def b_need_word : Sn → Unit → SR Unit := (sIf (nD (bNot (asB (fArgs (lift (fun _ => ()) (fun s _ => s) F_is_of) (aCons (fVar 1) (aCons (fVar 0) (aCons (fC (.int 0)) (aCons (fC (.int 12)) aNil)))))))) (sRaise fun _ s => .ok ⟨.word, []⟩ s) sNil)
noncomputable def F_need_word : List D → Unit → R Unit D := fnF 2 2 b_need_word
theorem ok_need_word (T : Txt K mg) : FnOk P wd K mg base (L2.CX P wd) 3 T.d_need_word.f T.d_need_word.fd ["letters", "word"] (spW K T.ca (fun _ => w0) F_need_word) := by
  refine fn_ok T.d_need_word.F sc_need_word fun cdv A outer s H E rho hr => ?_
  have hu := hr.units
  have tk : Takes (cxOf (L2.CX P wd) P wd K mg base ns_need_word "need_word" (defScope s_need_word) T.d_need_word.f cdv A outer s H E) (fun c d _ H => E c d H) := takes_of rfl rfl rfl rfl
  exact (dss_one (ds_if (DB.n (db_not (db_val (de_call Fit.pure (ok_is_of T) (hr.mono (by decide)) (by rfl) T.d_is_of.g T.d_is_of.F.kp T.d_is_of.b tk (da_cons (de_var 1 rfl v_need_word_1 db_word cd_word) (da_cons (de_var 0 rfl v_need_word_0 db_letters cd_letters) (da_cons de_int (da_cons (de_globI (by rfl) T.c_MOST_WORD db_MOST_WORD) da_nil)))) db_is_of)))) (dss_one (ds_raise rfl tk (dr_own .word PySem.F.excBase_ValueError T.e_BadWord.ex T.e_BadWord.g T.e_BadWord.k (raises_own T.e_BadWord.b T.e_BadWord.t) (by rfl) rfl db_BadWord))) dss_nil))
/-! sign_at -/
abbrev ns_sign_at : List Str := ["word", "place"]
theorem sc_sign_at : FnScope ns_sign_at ["word", "place"] (defScope s_sign_at) := ⟨rfl, rfl, rfl, by decide +kernel, rfl, by decide +kernel, by decide +kernel⟩
theorem v_sign_at_0 : Vis (defScope s_sign_at) "word" := by first | exact Or.inl (by decide +kernel) | exact Or.inr (Or.inl (by decide +kernel)) | exact Or.inr (Or.inr (by decide +kernel))
theorem l_sign_at_0 : Loc (defScope s_sign_at) "word" := by first | exact Or.inl (by decide +kernel) | exact Or.inr (by decide +kernel)
theorem v_sign_at_1 : Vis (defScope s_sign_at) "place" := by first | exact Or.inl (by decide +kernel) | exact Or.inr (Or.inl (by decide +kernel)) | exact Or.inr (Or.inr (by decide +kernel))
theorem l_sign_at_1 : Loc (defScope s_sign_at) "place" := by first | exact Or.inl (by decide +kernel) | exact Or.inr (by decide +kernel)
noncomputable def b_sign_at : Sn → Unit → SR Unit := (sRet (nD (fIf (asB (fChain gLe gLt (fC (.int 0)) (fVar 1) (fArgs gLen (aCons (fVar 0) aNil)))) (f2 gIx (fVar 0) (fVar 1)) (fC (.str [35])))))
noncomputable def F_sign_at : List D → Unit → R Unit D := fnF 2 2 b_sign_at
theorem ok_sign_at (T : Txt K mg) : FnOk P wd K mg base (L2.CX P wd) 1 T.d_sign_at.f T.d_sign_at.fd ["word", "place"] (spW K T.ca (fun _ => w0) F_sign_at) := by
  refine fn_ok T.d_sign_at.F sc_sign_at fun cdv A outer s H E rho hr => ?_
  have hu := hr.units
  have tk : Takes (cxOf (L2.CX P wd) P wd K mg base ns_sign_at "sign_at" (defScope s_sign_at) T.d_sign_at.f cdv A outer s H E) (fun c d _ H => E c d H) := takes_of rfl rfl rfl rfl
  exact (dss_one (ds_ret (DE.n (de_if (db_chain lf_le lf_lt de_int (de_var 1 rfl v_sign_at_1 db_place cd_place) (de_callB cl_len (by rfl) T.n_len bt_len (da_cons (de_var 0 rfl v_sign_at_0 db_word cd_word) da_nil) nn_len db_len)) (de_ix (de_var 0 rfl v_sign_at_0 db_word cd_word) (de_var 1 rfl v_sign_at_1 db_place cd_place)) (de_globS (l := [35]) (by rfl) T.c_BORDER rfl db_BORDER)))))
/-! fits -/
abbrev ns_fits : List Str := ["rule", "word", "place", "ahead", "own", "behind", "sounds"]
theorem sc_fits : FnScope ns_fits ["rule", "word", "place"] (defScope s_fits) := ⟨rfl, rfl, rfl, by decide +kernel, rfl, by decide +kernel, by decide +kernel⟩
theorem v_fits_0 : Vis (defScope s_fits) "rule" := by first | exact Or.inl (by decide +kernel) | exact Or.inr (Or.inl (by decide +kernel)) | exact Or.inr (Or.inr (by decide +kernel))
theorem l_fits_0 : Loc (defScope s_fits) "rule" := by first | exact Or.inl (by decide +kernel) | exact Or.inr (by decide +kernel)
theorem v_fits_1 : Vis (defScope s_fits) "word" := by first | exact Or.inl (by decide +kernel) | exact Or.inr (Or.inl (by decide +kernel)) | exact Or.inr (Or.inr (by decide +kernel))
theorem l_fits_1 : Loc (defScope s_fits) "word" := by first | exact Or.inl (by decide +kernel) | exact Or.inr (by decide +kernel)
theorem v_fits_2 : Vis (defScope s_fits) "place" := by first | exact Or.inl (by decide +kernel) | exact Or.inr (Or.inl (by decide +kernel)) | exact Or.inr (Or.inr (by decide +kernel))
theorem l_fits_2 : Loc (defScope s_fits) "place" := by first | exact Or.inl (by decide +kernel) | exact Or.inr (by decide +kernel)
theorem v_fits_3 : Vis (defScope s_fits) "ahead" := by first | exact Or.inl (by decide +kernel) | exact Or.inr (Or.inl (by decide +kernel)) | exact Or.inr (Or.inr (by decide +kernel))
theorem l_fits_3 : Loc (defScope s_fits) "ahead" := by first | exact Or.inl (by decide +kernel) | exact Or.inr (by decide +kernel)
theorem v_fits_4 : Vis (defScope s_fits) "own" := by first | exact Or.inl (by decide +kernel) | exact Or.inr (Or.inl (by decide +kernel)) | exact Or.inr (Or.inr (by decide +kernel))
theorem l_fits_4 : Loc (defScope s_fits) "own" := by first | exact Or.inl (by decide +kernel) | exact Or.inr (by decide +kernel)
theorem v_fits_5 : Vis (defScope s_fits) "behind" := by first | exact Or.inl (by decide +kernel) | exact Or.inr (Or.inl (by decide +kernel)) | exact Or.inr (Or.inr (by decide +kernel))
theorem l_fits_5 : Loc (defScope s_fits) "behind" := by first | exact Or.inl (by decide +kernel) | exact Or.inr (by decide +kernel)
theorem v_fits_6 : Vis (defScope s_fits) "sounds" := by first | exact Or.inl (by decide +kernel) | exact Or.inr (Or.inl (by decide +kernel)) | exact Or.inr (Or.inr (by decide +kernel))
theorem l_fits_6 : Loc (defScope s_fits) "sounds" := by first | exact Or.inl (by decide +kernel) | exact Or.inr (by decide +kernel)
noncomputable def b_fits : Sn → Unit → SR Unit := (sSeq (sTup (.tp [3, 4, 5, 6]) (nD (fVar 0)))
    (sSeq (sIf (nD (asB (f2 (gEq not) (fSl (fVar 1) (oSome (fVar 2)) (oSome (f2 gAdd (fVar 2) (fArgs gLen (aCons (fVar 4) aNil))))) (fVar 4)))) (sRet (nD (fC (.bl false)))) sNil)
    (sSeq (sIf (nD (bAnd (asB (f2 (gEq not) (fVar 3) (fC (.str [])))) (asB (f2 (gIn not) (fArgs (lift (fun _ => ()) (fun s _ => s) F_sign_at) (aCons (fVar 1) (aCons (f2 (gInt (fun i j => .int (i - j)) fun _ _ => true) (fVar 2) (fC (.int 1))) aNil))) (fVar 3))))) (sRet (nD (fC (.bl false)))) sNil)
    (sRet (nD (fOr (f2 (gEq id) (fVar 5) (fC (.str []))) (f2 (gIn id) (fArgs (lift (fun _ => ()) (fun s _ => s) F_sign_at) (aCons (fVar 1) (aCons (f2 gAdd (fVar 2) (fArgs gLen (aCons (fVar 4) aNil))) aNil))) (fVar 5))))))))
noncomputable def F_fits : List D → Unit → R Unit D := fnF 7 3 b_fits
theorem ok_fits (T : Txt K mg) : FnOk P wd K mg base (L2.CX P wd) 2 T.d_fits.f T.d_fits.fd ["rule", "word", "place"] (spW K T.ca (fun _ => w0) F_fits) := by
  refine fn_ok T.d_fits.F sc_fits fun cdv A outer s H E rho hr => ?_
  have hu := hr.units
  have tk : Takes (cxOf (L2.CX P wd) P wd K mg base ns_fits "fits" (defScope s_fits) T.d_fits.f cdv A outer s H E) (fun c d _ H => E c d H) := takes_of rfl rfl rfl rfl
  exact (dss_cons (ds_tup (dg_tup rfl (dgs_cons (dg_name 3 sc_fits.nd rfl (by first | exact Or.inl rfl | exact Or.inr rfl)) (dgs_cons (dg_name 4 sc_fits.nd rfl (by first | exact Or.inl rfl | exact Or.inr rfl)) (dgs_cons (dg_name 5 sc_fits.nd rfl (by first | exact Or.inl rfl | exact Or.inr rfl)) (dgs_cons (dg_name 6 sc_fits.nd rfl (by first | exact Or.inl rfl | exact Or.inr rfl)) dgs_nil))))) (DE.n (de_var 0 rfl v_fits_0 db_rule cd_rule)))
      (dss_cons (ds_if (DB.n (db_cmp (lf_ne hu) (de_slice (de_var 1 rfl v_fits_1 db_word cd_word) (do_some (de_var 2 rfl v_fits_2 db_place cd_place)) (do_some (de_bin lf_add (de_var 2 rfl v_fits_2 db_place cd_place) (de_callB cl_len (by rfl) T.n_len bt_len (da_cons (de_var 4 rfl v_fits_4 db_own cd_own) da_nil) nn_len db_len)))) (de_var 4 rfl v_fits_4 db_own cd_own))) (dss_one (ds_ret (DE.n de_bl))) dss_nil)
      (dss_cons (ds_if (DB.n (DW.db (dw_and (db_cmp (lf_ne hu) (de_var 3 rfl v_fits_3 db_ahead cd_ahead) (de_str (l := []))) (dw_and1 (db_cmp lf_notin (de_call Fit.pure (ok_sign_at T) (hr.mono (by decide)) (by rfl) T.d_sign_at.g T.d_sign_at.F.kp T.d_sign_at.b tk (da_cons (de_var 1 rfl v_fits_1 db_word cd_word) (da_cons (de_bin lf_sub (de_var 2 rfl v_fits_2 db_place cd_place) de_int) da_nil)) db_sign_at) (de_var 3 rfl v_fits_3 db_ahead cd_ahead)))))) (dss_one (ds_ret (DE.n de_bl))) dss_nil)
      (dss_one (ds_ret (DE.n (de_or (de_cmp (lf_eq hu) (de_var 5 rfl v_fits_5 db_behind cd_behind) (de_str (l := []))) (de_one (de_cmp lf_in (de_call Fit.pure (ok_sign_at T) (hr.mono (by decide)) (by rfl) T.d_sign_at.g T.d_sign_at.F.kp T.d_sign_at.b tk (da_cons (de_var 1 rfl v_fits_1 db_word cd_word) (da_cons (de_bin lf_add (de_var 2 rfl v_fits_2 db_place cd_place) (de_callB cl_len (by rfl) T.n_len bt_len (da_cons (de_var 4 rfl v_fits_4 db_own cd_own) da_nil) nn_len db_len)) da_nil)) db_sign_at) (de_var 5 rfl v_fits_5 db_behind cd_behind))))))))))
/-! walk_of -/
abbrev ns_walk_of : List Str := ["rules", "word", "found", "place", "some", "number", "rule"]
theorem sc_walk_of : FnScope ns_walk_of ["rules", "word"] (defScope s_walk_of) := ⟨rfl, rfl, rfl, by decide +kernel, rfl, by decide +kernel, by decide +kernel⟩
theorem v_walk_of_0 : Vis (defScope s_walk_of) "rules" := by first | exact Or.inl (by decide +kernel) | exact Or.inr (Or.inl (by decide +kernel)) | exact Or.inr (Or.inr (by decide +kernel))
theorem l_walk_of_0 : Loc (defScope s_walk_of) "rules" := by first | exact Or.inl (by decide +kernel) | exact Or.inr (by decide +kernel)
theorem v_walk_of_1 : Vis (defScope s_walk_of) "word" := by first | exact Or.inl (by decide +kernel) | exact Or.inr (Or.inl (by decide +kernel)) | exact Or.inr (Or.inr (by decide +kernel))
theorem l_walk_of_1 : Loc (defScope s_walk_of) "word" := by first | exact Or.inl (by decide +kernel) | exact Or.inr (by decide +kernel)
theorem v_walk_of_2 : Vis (defScope s_walk_of) "found" := by first | exact Or.inl (by decide +kernel) | exact Or.inr (Or.inl (by decide +kernel)) | exact Or.inr (Or.inr (by decide +kernel))
theorem l_walk_of_2 : Loc (defScope s_walk_of) "found" := by first | exact Or.inl (by decide +kernel) | exact Or.inr (by decide +kernel)
theorem v_walk_of_3 : Vis (defScope s_walk_of) "place" := by first | exact Or.inl (by decide +kernel) | exact Or.inr (Or.inl (by decide +kernel)) | exact Or.inr (Or.inr (by decide +kernel))
theorem l_walk_of_3 : Loc (defScope s_walk_of) "place" := by first | exact Or.inl (by decide +kernel) | exact Or.inr (by decide +kernel)
theorem v_walk_of_4 : Vis (defScope s_walk_of) "some" := by first | exact Or.inl (by decide +kernel) | exact Or.inr (Or.inl (by decide +kernel)) | exact Or.inr (Or.inr (by decide +kernel))
theorem l_walk_of_4 : Loc (defScope s_walk_of) "some" := by first | exact Or.inl (by decide +kernel) | exact Or.inr (by decide +kernel)




theorem lk_walk_of_4 : List.lookup ("some" : Str) (defScope s_walk_of).names = some .local := by decide +kernel
noncomputable def b_walk_of : Sn → Unit → SR Unit := (sSeq (sNewL 2 (nD aNil))
    (sSeq (sSet 3 (nD (fC (.int 0))))
    (sSeq (whileD (nD (asB (f2 gLt (fVar 3) (fArgs gLen (aCons (fVar 1) aNil))))) (sSeq (sSet 4 (nD (fComp (fEnum (aCons (fVar 0) aNil)) (.tp [5, 6]) [5, 6] (asB (fArgs (lift (fun _ => ()) (fun s _ => s) F_fits) (aCons (fVar 6) (aCons (fVar 1) (aCons (fVar 3) aNil))))) (fVar 5))))
    (sSeq (sIf (nD (asB (f2 (gEq id) (fVar 4) (fLst aNil)))) (sRaise (fErr1 .unsaid "place" (aCons (fVar 3) aNil))) sNil)
    (sSeq (sApp 2 (nD (fTup (aCons (fVar 3) (aCons (f2 gIx (fVar 4) (fC (.int 0))) aNil)))))
    (sAug 3 gAddI (nD (fArgs gLen (aCons (f2 gIx (f2 gIx (fVar 0) (f2 gIx (fVar 4) (fC (.int 0)))) (fC (.int 1))) aNil))))))))
    (sRetO 2))))
noncomputable def F_walk_of : List D → Unit → R Unit D := fnF 7 2 b_walk_of
theorem ok_walk_of (T : Txt K mg) : FnOk P wd K mg base (L2.CX P wd) 3 T.d_walk_of.f T.d_walk_of.fd ["rules", "word"] (spW K T.ca (fun _ => w0) F_walk_of) := by
  refine fn_ok T.d_walk_of.F sc_walk_of fun cdv A outer s H E rho hr => ?_
  have hu := hr.units
  have tk : Takes (cxOf (L2.CX P wd) P wd K mg base ns_walk_of "walk_of" (defScope s_walk_of) T.d_walk_of.f cdv A outer s H E) (fun c d _ H => E c d H) := takes_of rfl rfl rfl rfl
  exact (dss_cons (ds_newL 2 sc_walk_of.nd rfl l_walk_of_2 da_nil)
      (dss_cons (ds_set 3 sc_walk_of.nd rfl l_walk_of_3 (DE.n de_int))
      (dss_cons (ds_while PassesOwn.leaving (DB.n (db_cmp lf_lt (de_var 3 rfl v_walk_of_3 db_place cd_place) (de_callB cl_len (by rfl) T.n_len bt_len (da_cons (de_var 1 rfl v_walk_of_1 db_word cd_word) da_nil) nn_len db_len))) (dss_cons (ds_setLc 4 [("number", 5), ("rule", 6)] rfl sc_walk_of.nd rfl lk_walk_of_4 (blkOk_by (N := ns_walk_of) (sc := _) (show blkC ns_walk_of (defScope s_walk_of) _ _ = true by decide +kernel)) (sw_true rfl lk_walk_of_4 rfl (by decide +kernel)) (di_enum (by rfl) T.n_enumerate (da_cons (de_var 0 rfl v_walk_of_0 db_rules cd_rules) da_nil)) (fun _ _ _ _ _ => (dg_tup rfl (dgs_cons (dg_name 5 sc_walk_of.nd rfl (by first | exact Or.inl rfl | exact Or.inr rfl)) (dgs_cons (dg_name 6 sc_walk_of.nd rfl (by first | exact Or.inl rfl | exact Or.inr rfl)) dgs_nil)))) (fun _ _ _ _ _ => (dts_one (db_val (de_call Fit.pure (ok_fits T) (hr.mono (by decide)) (by rfl) T.d_fits.g T.d_fits.F.kp T.d_fits.b takes0 (da_cons (de_var 6 rfl (by first | exact Or.inl rfl | exact Or.inr (Or.inl rfl) | exact Or.inr (Or.inr rfl)) db_rule cd_rule) (da_cons (de_var 1 rfl (by first | exact Or.inl rfl | exact Or.inr (Or.inl rfl) | exact Or.inr (Or.inr rfl)) db_word cd_word) (da_cons (de_var 3 rfl (by first | exact Or.inl rfl | exact Or.inr (Or.inl rfl) | exact Or.inr (Or.inr rfl)) db_place cd_place) da_nil))) db_fits)))) (fun _ _ _ _ _ => (de_var 5 rfl (by first | exact Or.inl rfl | exact Or.inr (Or.inl rfl) | exact Or.inr (Or.inr rfl)) db_number cd_number)))
      (dss_cons (ds_if (DB.n (db_cmp (lf_eq hu) (de_var 4 rfl v_walk_of_4 db_some cd_some) (de_lst da_nil))) (dss_one (ds_raise rfl tk (dr_init1 (W := fun c d _ H => E c d H) .unsaid T.e_Unsaid.T T.no_Unsaid_place T.e_Unsaid.i T.e_Unsaid.ti (ok_init_Unsaid T) (hr.mono (by decide)) T.e_Unsaid.bi tk (by rfl) T.e_Unsaid.g (da_cons (de_var 3 rfl v_walk_of_3 db_place cd_place) da_nil) rfl db_Unsaid))) dss_nil)
      (dss_cons (ds_app 2 (DE.n (de_tup (da_cons (de_var 3 rfl v_walk_of_3 db_place cd_place) (da_cons (de_ix (de_var 4 rfl v_walk_of_4 db_some cd_some) de_int) da_nil)))) rfl v_walk_of_2 db_found cd_found)
      (dss_one (ds_aug 3 ip2_add (DE.n (de_callB cl_len (by rfl) T.n_len bt_len (da_cons (de_ix (de_ix (de_var 0 rfl v_walk_of_0 db_rules cd_rules) (de_ix (de_var 4 rfl v_walk_of_4 db_some cd_some) de_int)) de_int) da_nil) nn_len db_len)) sc_walk_of.nd rfl l_walk_of_3))))))
      (dss_one (ds_retO 2 rfl v_walk_of_2 db_found cd_found)))))
noncomputable def bL_walk_of : Sn → Unit → SR Unit := (sSeq (sNewL 2 (nD aNil))
    (sSeq (sSet 3 (nD (fC (.int 0))))
    (sSeq (whileD (nD (asB (f2 gLt (fVar 3) (fArgs gLen (aCons (fVar 1) aNil))))) (sSeq (sSet 4 (nD (fComp (fEnum (aCons (fVar 0) aNil)) (.tp [5, 6]) [5, 6] (asB (fArgs (lift (fun _ => ()) (fun s _ => s) F_fits) (aCons (fVar 6) (aCons (fVar 1) (aCons (fVar 3) aNil))))) (fVar 5))))
    (sSeq (sIf (nD (asB (f2 (gEq id) (fVar 4) (fLst aNil)))) (sRaise (fErr1 .unsaid "place" (aCons (fVar 3) aNil))) sNil)
    (sSeq (sApp 2 (nD (fTup (aCons (fVar 3) (aCons (f2 gIx (fVar 4) (fC (.int 0))) aNil)))))
    (sAug 3 gAddI (nD (fArgs gLen (aCons (f2 gIx (f2 gIx (fVar 0) (f2 gIx (fVar 4) (fC (.int 0)))) (fC (.int 1))) aNil))))))))
    (sRetO 2))))
noncomputable def FL_walk_of : List D → Unit → R Unit (List D) := fnL 7 2 bL_walk_of
theorem okL_walk_of (T : Txt K mg) : FnOk P wd K mg base (L2.CX P wd) 3 T.d_walk_of.f T.d_walk_of.fd ["rules", "word"] (spL K T.ca (fun _ => w0) FL_walk_of) := by
  refine fnL_ok T.d_walk_of.F sc_walk_of fun cdv A outer s H E rho hr => ?_
  have hu := hr.units
  have tk : Takes (cxOf (L2.CX P wd) P wd K mg base ns_walk_of "walk_of" (defScope s_walk_of) T.d_walk_of.f cdv A outer s H E) (fun c d _ H => E c d H) := takes_of rfl rfl rfl rfl
  exact (dss_cons (ds_newL 2 sc_walk_of.nd rfl l_walk_of_2 da_nil)
      (dss_cons (ds_set 3 sc_walk_of.nd rfl l_walk_of_3 (DE.n de_int))
      (dss_cons (ds_while PassesOwn.leaving (DB.n (db_cmp lf_lt (de_var 3 rfl v_walk_of_3 db_place cd_place) (de_callB cl_len (by rfl) T.n_len bt_len (da_cons (de_var 1 rfl v_walk_of_1 db_word cd_word) da_nil) nn_len db_len))) (dss_cons (ds_setLc 4 [("number", 5), ("rule", 6)] rfl sc_walk_of.nd rfl lk_walk_of_4 (blkOk_by (N := ns_walk_of) (sc := _) (show blkC ns_walk_of (defScope s_walk_of) _ _ = true by decide +kernel)) (sw_true rfl lk_walk_of_4 rfl (by decide +kernel)) (di_enum (by rfl) T.n_enumerate (da_cons (de_var 0 rfl v_walk_of_0 db_rules cd_rules) da_nil)) (fun _ _ _ _ _ => (dg_tup rfl (dgs_cons (dg_name 5 sc_walk_of.nd rfl (by first | exact Or.inl rfl | exact Or.inr rfl)) (dgs_cons (dg_name 6 sc_walk_of.nd rfl (by first | exact Or.inl rfl | exact Or.inr rfl)) dgs_nil)))) (fun _ _ _ _ _ => (dts_one (db_val (de_call Fit.pure (ok_fits T) (hr.mono (by decide)) (by rfl) T.d_fits.g T.d_fits.F.kp T.d_fits.b takes0 (da_cons (de_var 6 rfl (by first | exact Or.inl rfl | exact Or.inr (Or.inl rfl) | exact Or.inr (Or.inr rfl)) db_rule cd_rule) (da_cons (de_var 1 rfl (by first | exact Or.inl rfl | exact Or.inr (Or.inl rfl) | exact Or.inr (Or.inr rfl)) db_word cd_word) (da_cons (de_var 3 rfl (by first | exact Or.inl rfl | exact Or.inr (Or.inl rfl) | exact Or.inr (Or.inr rfl)) db_place cd_place) da_nil))) db_fits)))) (fun _ _ _ _ _ => (de_var 5 rfl (by first | exact Or.inl rfl | exact Or.inr (Or.inl rfl) | exact Or.inr (Or.inr rfl)) db_number cd_number)))
      (dss_cons (ds_if (DB.n (db_cmp (lf_eq hu) (de_var 4 rfl v_walk_of_4 db_some cd_some) (de_lst da_nil))) (dss_one (ds_raise rfl tk (dr_init1 (W := fun c d _ H => E c d H) .unsaid T.e_Unsaid.T T.no_Unsaid_place T.e_Unsaid.i T.e_Unsaid.ti (ok_init_Unsaid T) (hr.mono (by decide)) T.e_Unsaid.bi tk (by rfl) T.e_Unsaid.g (da_cons (de_var 3 rfl v_walk_of_3 db_place cd_place) da_nil) rfl db_Unsaid))) dss_nil)
      (dss_cons (ds_app 2 (DE.n (de_tup (da_cons (de_var 3 rfl v_walk_of_3 db_place cd_place) (da_cons (de_ix (de_var 4 rfl v_walk_of_4 db_some cd_some) de_int) da_nil)))) rfl v_walk_of_2 db_found cd_found)
      (dss_one (ds_aug 3 ip2_add (DE.n (de_callB cl_len (by rfl) T.n_len bt_len (da_cons (de_ix (de_ix (de_var 0 rfl v_walk_of_0 db_rules cd_rules) (de_ix (de_var 4 rfl v_walk_of_4 db_some cd_some) de_int)) de_int) da_nil) nn_len db_len)) sc_walk_of.nd rfl l_walk_of_3))))))
      (dss_one (ds_retO 2 rfl v_walk_of_2 db_found cd_found)))))
/-! by_rules -/
abbrev ns_by_rules : List Str := ["rules", "word", "place", "number"]
theorem sc_by_rules : FnScope ns_by_rules ["rules", "word"] (defScope s_by_rules) := ⟨rfl, rfl, rfl, by decide +kernel, rfl, by decide +kernel, by decide +kernel⟩
theorem v_by_rules_0 : Vis (defScope s_by_rules) "rules" := by first | exact Or.inl (by decide +kernel) | exact Or.inr (Or.inl (by decide +kernel)) | exact Or.inr (Or.inr (by decide +kernel))
theorem l_by_rules_0 : Loc (defScope s_by_rules) "rules" := by first | exact Or.inl (by decide +kernel) | exact Or.inr (by decide +kernel)
theorem v_by_rules_1 : Vis (defScope s_by_rules) "word" := by first | exact Or.inl (by decide +kernel) | exact Or.inr (Or.inl (by decide +kernel)) | exact Or.inr (Or.inr (by decide +kernel))
theorem l_by_rules_1 : Loc (defScope s_by_rules) "word" := by first | exact Or.inl (by decide +kernel) | exact Or.inr (by decide +kernel)




noncomputable def b_by_rules : Sn → Unit → SR Unit := (sRet (nD (fJoin (fC (.str [])) (fComp (fItems (fArgs (lift (fun _ => ()) (fun s _ => s) F_walk_of) (aCons (fVar 0) (aCons (fVar 1) aNil)))) (.tp [2, 3]) [2, 3] bYes (f2 gIx (f2 gIx (fVar 0) (fVar 3)) (fC (.int 3)))))))
noncomputable def F_by_rules : List D → Unit → R Unit D := fnF 4 2 b_by_rules
theorem ok_by_rules (T : Txt K mg) : FnOk P wd K mg base (L2.CX P wd) 4 T.d_by_rules.f T.d_by_rules.fd ["rules", "word"] (spW K T.ca (fun _ => w0) F_by_rules) := by
  refine fn_ok T.d_by_rules.F sc_by_rules fun cdv A outer s H E rho hr => ?_
  have hu := hr.units
  have tk : Takes (cxOf (L2.CX P wd) P wd K mg base ns_by_rules "by_rules" (defScope s_by_rules) T.d_by_rules.f cdv A outer s H E) (fun c d _ H => E c d H) := takes_of rfl rfl rfl rfl
  exact (dss_one (ds_ret (DE.n (de_join (de_str (l := [])) (de_comp [("place", 2), ("number", 3)] rfl sc_by_rules.nd (blkOk_by (N := ns_by_rules) (sc := _) (show blkC ns_by_rules (defScope s_by_rules) _ _ = true by decide +kernel)) (di_val (de_call Fit.pure (ok_walk_of T) (hr.mono (by decide)) (by rfl) T.d_walk_of.g T.d_walk_of.F.kp T.d_walk_of.b tk (da_cons (de_var 0 rfl v_by_rules_0 db_rules cd_rules) (da_cons (de_var 1 rfl v_by_rules_1 db_word cd_word) da_nil)) db_walk_of)) (fun _ _ _ _ _ => (dg_tup rfl (dgs_cons (dg_name 2 sc_by_rules.nd rfl (by first | exact Or.inl rfl | exact Or.inr rfl)) (dgs_cons (dg_name 3 sc_by_rules.nd rfl (by first | exact Or.inl rfl | exact Or.inr rfl)) dgs_nil)))) (fun _ _ _ _ _ => dts_nil) (fun _ _ _ _ _ => (de_ix (de_ix (de_var 0 rfl (by first | exact Or.inl rfl | exact Or.inr (Or.inl rfl) | exact Or.inr (Or.inr rfl)) db_rules cd_rules) (de_var 3 rfl (by first | exact Or.inl rfl | exact Or.inr (Or.inl rfl) | exact Or.inr (Or.inr rfl)) db_number cd_number)) de_int)))))))
/-! said_by -/
abbrev ns_said_by : List Str := ["book", "word", "excepted"]
theorem sc_said_by : FnScope ns_said_by ["book", "word"] (defScope s_said_by) := ⟨rfl, rfl, rfl, by decide +kernel, rfl, by decide +kernel, by decide +kernel⟩
theorem v_said_by_0 : Vis (defScope s_said_by) "book" := by first | exact Or.inl (by decide +kernel) | exact Or.inr (Or.inl (by decide +kernel)) | exact Or.inr (Or.inr (by decide +kernel))
theorem l_said_by_0 : Loc (defScope s_said_by) "book" := by first | exact Or.inl (by decide +kernel) | exact Or.inr (by decide +kernel)
theorem v_said_by_1 : Vis (defScope s_said_by) "word" := by first | exact Or.inl (by decide +kernel) | exact Or.inr (Or.inl (by decide +kernel)) | exact Or.inr (Or.inr (by decide +kernel))
theorem l_said_by_1 : Loc (defScope s_said_by) "word" := by first | exact Or.inl (by decide +kernel) | exact Or.inr (by decide +kernel)
theorem v_said_by_2 : Vis (defScope s_said_by) "excepted" := by first | exact Or.inl (by decide +kernel) | exact Or.inr (Or.inl (by decide +kernel)) | exact Or.inr (Or.inr (by decide +kernel))
theorem l_said_by_2 : Loc (defScope s_said_by) "excepted" := by first | exact Or.inl (by decide +kernel) | exact Or.inr (by decide +kernel)
noncomputable def b_said_by : Sn → Unit → SR Unit := (sSeq (sSet 2 (nD (fArgs gDct (aCons (f2 gIx (fVar 0) (fC (.int 2))) aNil))))
    (sSeq (sIf (nD (asB (f2 (gInK id) (fVar 1) (fVar 2)))) (sRet (nD (f2 gGet (fVar 2) (fVar 1)))) sNil)
    (sTry ct_Unsaid (sRet (nD (fArgs (lift (fun _ => ()) (fun s _ => s) F_by_rules) (aCons (f2 gIx (fVar 0) (fC (.int 1))) (aCons (fVar 1) aNil))))) (sRet (nD (fC .non))))))
noncomputable def F_said_by : List D → Unit → R Unit D := fnF 3 2 b_said_by
theorem ok_said_by (T : Txt K mg) : FnOk P wd K mg base (L2.CX P wd) 5 T.d_said_by.f T.d_said_by.fd ["book", "word"] (spW K T.ca (fun _ => w0) F_said_by) := by
  refine fn_ok T.d_said_by.F sc_said_by fun cdv A outer s H E rho hr => ?_
  have hu := hr.units
  have tk : Takes (cxOf (L2.CX P wd) P wd K mg base ns_said_by "said_by" (defScope s_said_by) T.d_said_by.f cdv A outer s H E) (fun c d _ H => E c d H) := takes_of rfl rfl rfl rfl
  exact (dss_cons (ds_set 2 sc_said_by.nd rfl l_said_by_2 (DE.n (de_callT (cl_dct rfl) (by rfl) T.n_dict bt_dict (da_cons (de_ix (de_var 0 rfl v_said_by_0 db_book cd_book) de_int) da_nil) nn_dict db_dict)))
      (dss_cons (ds_if (DB.n (db_din hu (de_var 1 rfl v_said_by_1 db_word cd_word) (de_var 2 rfl v_said_by_2 db_excepted cd_excepted))) (dss_one (ds_ret (DE.n (de_dget hu (de_var 2 rfl v_said_by_2 db_excepted cd_excepted) (de_var 1 rfl v_said_by_1 db_word cd_word))))) dss_nil)
      (dss_one (ds_try (C := T.e_Unsaid.C) ct_Unsaid rfl rfl ⟨by rfl, db_Unsaid, .inl T.e_Unsaid.g⟩ (T.ct_Unsaid_ok) tk (fun _ _ _ tk _ => (dss_one (ds_ret (DE.n (de_call Fit.pure (ok_by_rules T) (hr.mono (by decide)) (by rfl) T.d_by_rules.g T.d_by_rules.F.kp T.d_by_rules.b tk (da_cons (de_ix (de_var 0 rfl v_said_by_0 db_book cd_book) de_int) (da_cons (de_var 1 rfl v_said_by_1 db_word cd_word) da_nil)) db_by_rules))))) (fun _ _ => (dss_one (ds_ret (DE.n de_non))))))))
/-! said -/
abbrev ns_said : List Str := ["book", "word", "excepted"]
theorem sc_said : FnScope ns_said ["book", "word"] (defScope s_said) := ⟨rfl, rfl, rfl, by decide +kernel, rfl, by decide +kernel, by decide +kernel⟩
theorem v_said_0 : Vis (defScope s_said) "book" := by first | exact Or.inl (by decide +kernel) | exact Or.inr (Or.inl (by decide +kernel)) | exact Or.inr (Or.inr (by decide +kernel))
theorem l_said_0 : Loc (defScope s_said) "book" := by first | exact Or.inl (by decide +kernel) | exact Or.inr (by decide +kernel)
theorem v_said_1 : Vis (defScope s_said) "word" := by first | exact Or.inl (by decide +kernel) | exact Or.inr (Or.inl (by decide +kernel)) | exact Or.inr (Or.inr (by decide +kernel))
theorem l_said_1 : Loc (defScope s_said) "word" := by first | exact Or.inl (by decide +kernel) | exact Or.inr (by decide +kernel)
theorem v_said_2 : Vis (defScope s_said) "excepted" := by first | exact Or.inl (by decide +kernel) | exact Or.inr (Or.inl (by decide +kernel)) | exact Or.inr (Or.inr (by decide +kernel))
theorem l_said_2 : Loc (defScope s_said) "excepted" := by first | exact Or.inl (by decide +kernel) | exact Or.inr (by decide +kernel)
noncomputable def b_said : Sn → Unit → SR Unit := (sSeq (sDrop (nD (fArgs (lift (fun _ => ()) (fun s _ => s) F_need_book) (aCons (fVar 0) aNil))))
    (sSeq (sDrop (nD (fArgs (lift (fun _ => ()) (fun s _ => s) F_need_word) (aCons (f2 gIx (fVar 0) (fC (.int 0))) (aCons (fVar 1) aNil)))))
    (sSeq (sSet 2 (nD (fArgs gDct (aCons (f2 gIx (fVar 0) (fC (.int 2))) aNil))))
    (sRet (nD (fIf (asB (f2 (gInK id) (fVar 1) (fVar 2))) (f2 gGet (fVar 2) (fVar 1)) (fArgs (lift (fun _ => ()) (fun s _ => s) F_by_rules) (aCons (f2 gIx (fVar 0) (fC (.int 1))) (aCons (fVar 1) aNil)))))))))
noncomputable def F_said : List D → Unit → R Unit D := fnF 3 2 b_said
theorem ok_said (T : Txt K mg) : FnOk P wd K mg base (L2.CX P wd) 6 T.d_said.f T.d_said.fd ["book", "word"] (spW K T.ca (fun _ => w0) F_said) := by
  refine fn_ok T.d_said.F sc_said fun cdv A outer s H E rho hr => ?_
  have hu := hr.units
  have tk : Takes (cxOf (L2.CX P wd) P wd K mg base ns_said "said" (defScope s_said) T.d_said.f cdv A outer s H E) (fun c d _ H => E c d H) := takes_of rfl rfl rfl rfl
  exact (dss_cons (ds_expr (DE.n (de_call Fit.pure (ok_need_book T) (hr.mono (by decide)) (by rfl) T.d_need_book.g T.d_need_book.F.kp T.d_need_book.b tk (da_cons (de_var 0 rfl v_said_0 db_book cd_book) da_nil) db_need_book)))
      (dss_cons (ds_expr (DE.n (de_call Fit.pure (ok_need_word T) (hr.mono (by decide)) (by rfl) T.d_need_word.g T.d_need_word.F.kp T.d_need_word.b tk (da_cons (de_ix (de_var 0 rfl v_said_0 db_book cd_book) de_int) (da_cons (de_var 1 rfl v_said_1 db_word cd_word) da_nil)) db_need_word)))
      (dss_cons (ds_set 2 sc_said.nd rfl l_said_2 (DE.n (de_callT (cl_dct rfl) (by rfl) T.n_dict bt_dict (da_cons (de_ix (de_var 0 rfl v_said_0 db_book cd_book) de_int) da_nil) nn_dict db_dict)))
      (dss_one (ds_ret (DE.n (de_if (db_din hu (de_var 1 rfl v_said_1 db_word cd_word) (de_var 2 rfl v_said_2 db_excepted cd_excepted)) (de_dget hu (de_var 2 rfl v_said_2 db_excepted cd_excepted) (de_var 1 rfl v_said_1 db_word cd_word)) (de_call Fit.pure (ok_by_rules T) (hr.mono (by decide)) (by rfl) T.d_by_rules.g T.d_by_rules.F.kp T.d_by_rules.b tk (da_cons (de_ix (de_var 0 rfl v_said_0 db_book cd_book) de_int) (da_cons (de_var 1 rfl v_said_1 db_word cd_word) da_nil)) db_by_rules))))))))
/-! needless -/
abbrev ns_needless : List Str := ["book", "bare", "word", "sounds"]
theorem sc_needless : FnScope ns_needless ["book"] (defScope s_needless) := ⟨rfl, rfl, rfl, by decide +kernel, rfl, by decide +kernel, by decide +kernel⟩
theorem v_needless_0 : Vis (defScope s_needless) "book" := by first | exact Or.inl (by decide +kernel) | exact Or.inr (Or.inl (by decide +kernel)) | exact Or.inr (Or.inr (by decide +kernel))
theorem l_needless_0 : Loc (defScope s_needless) "book" := by first | exact Or.inl (by decide +kernel) | exact Or.inr (by decide +kernel)
theorem v_needless_1 : Vis (defScope s_needless) "bare" := by first | exact Or.inl (by decide +kernel) | exact Or.inr (Or.inl (by decide +kernel)) | exact Or.inr (Or.inr (by decide +kernel))
theorem l_needless_1 : Loc (defScope s_needless) "bare" := by first | exact Or.inl (by decide +kernel) | exact Or.inr (by decide +kernel)




noncomputable def b_needless : Sn → Unit → SR Unit := (sSeq (sDrop (nD (fArgs (lift (fun _ => ()) (fun s _ => s) F_need_book) (aCons (fVar 0) aNil))))
    (sSeq (sSet 1 (nD (fTup (aCons (f2 gIx (fVar 0) (fC (.int 0))) (aCons (f2 gIx (fVar 0) (fC (.int 1))) (aCons (fTup aNil) aNil))))))
    (sRet (nD (fComp (fItems (f2 gIx (fVar 0) (fC (.int 2)))) (.tp [2, 3]) [2, 3] (asB (f2 (gEq id) (fArgs (lift (fun _ => ()) (fun s _ => s) F_said_by) (aCons (fVar 1) (aCons (fVar 2) aNil))) (fVar 3))) (fVar 2))))))
noncomputable def F_needless : List D → Unit → R Unit D := fnF 4 1 b_needless
theorem ok_needless (T : Txt K mg) : FnOk P wd K mg base (L2.CX P wd) 6 T.d_needless.f T.d_needless.fd ["book"] (spW K T.ca (fun _ => w0) F_needless) := by
  refine fn_ok T.d_needless.F sc_needless fun cdv A outer s H E rho hr => ?_
  have hu := hr.units
  have tk : Takes (cxOf (L2.CX P wd) P wd K mg base ns_needless "needless" (defScope s_needless) T.d_needless.f cdv A outer s H E) (fun c d _ H => E c d H) := takes_of rfl rfl rfl rfl
  exact (dss_cons (ds_expr (DE.n (de_call Fit.pure (ok_need_book T) (hr.mono (by decide)) (by rfl) T.d_need_book.g T.d_need_book.F.kp T.d_need_book.b tk (da_cons (de_var 0 rfl v_needless_0 db_book cd_book) da_nil) db_need_book)))
      (dss_cons (ds_set 1 sc_needless.nd rfl l_needless_1 (DE.n (de_tup (da_cons (de_ix (de_var 0 rfl v_needless_0 db_book cd_book) de_int) (da_cons (de_ix (de_var 0 rfl v_needless_0 db_book cd_book) de_int) (da_cons (de_tup da_nil) da_nil))))))
      (dss_one (ds_ret (DE.n (de_comp [("word", 2), ("sounds", 3)] rfl sc_needless.nd (blkOk_by (N := ns_needless) (sc := _) (show blkC ns_needless (defScope s_needless) _ _ = true by decide +kernel)) (di_val (de_ix (de_var 0 rfl v_needless_0 db_book cd_book) de_int)) (fun _ _ _ _ _ => (dg_tup rfl (dgs_cons (dg_name 2 sc_needless.nd rfl (by first | exact Or.inl rfl | exact Or.inr rfl)) (dgs_cons (dg_name 3 sc_needless.nd rfl (by first | exact Or.inl rfl | exact Or.inr rfl)) dgs_nil)))) (fun _ _ _ _ _ => (dts_one (db_cmp (lf_eq hu) (de_call Fit.pure (ok_said_by T) (hr.mono (by decide)) (by rfl) T.d_said_by.g T.d_said_by.F.kp T.d_said_by.b takes0 (da_cons (de_var 1 rfl (by first | exact Or.inl rfl | exact Or.inr (Or.inl rfl) | exact Or.inr (Or.inr rfl)) db_bare cd_bare) (da_cons (de_var 2 rfl (by first | exact Or.inl rfl | exact Or.inr (Or.inl rfl) | exact Or.inr (Or.inr rfl)) db_word cd_word) da_nil)) db_said_by) (de_var 3 rfl (by first | exact Or.inl rfl | exact Or.inr (Or.inl rfl) | exact Or.inr (Or.inr rfl)) db_sounds cd_sounds)))) (fun _ _ _ _ _ => (de_var 2 rfl (by first | exact Or.inl rfl | exact Or.inr (Or.inl rfl) | exact Or.inr (Or.inr rfl)) db_word cd_word))))))))
noncomputable def bL_needless : Sn → Unit → SR Unit := (sSeq (sDrop (nD (fArgs (lift (fun _ => ()) (fun s _ => s) F_need_book) (aCons (fVar 0) aNil))))
    (sSeq (sSet 1 (nD (fTup (aCons (f2 gIx (fVar 0) (fC (.int 0))) (aCons (f2 gIx (fVar 0) (fC (.int 1))) (aCons (fTup aNil) aNil))))))
    (sRetL (nD (fCompL (fItems (f2 gIx (fVar 0) (fC (.int 2)))) (.tp [2, 3]) [2, 3] (asB (f2 (gEq id) (fArgs (lift (fun _ => ()) (fun s _ => s) F_said_by) (aCons (fVar 1) (aCons (fVar 2) aNil))) (fVar 3))) (fVar 2))))))
noncomputable def FL_needless : List D → Unit → R Unit (List D) := fnL 4 1 bL_needless
theorem okL_needless (T : Txt K mg) : FnOk P wd K mg base (L2.CX P wd) 6 T.d_needless.f T.d_needless.fd ["book"] (spL K T.ca (fun _ => w0) FL_needless) := by
  refine fnL_ok T.d_needless.F sc_needless fun cdv A outer s H E rho hr => ?_
  have hu := hr.units
  have tk : Takes (cxOf (L2.CX P wd) P wd K mg base ns_needless "needless" (defScope s_needless) T.d_needless.f cdv A outer s H E) (fun c d _ H => E c d H) := takes_of rfl rfl rfl rfl
  exact (dss_cons (ds_expr (DE.n (de_call Fit.pure (ok_need_book T) (hr.mono (by decide)) (by rfl) T.d_need_book.g T.d_need_book.F.kp T.d_need_book.b tk (da_cons (de_var 0 rfl v_needless_0 db_book cd_book) da_nil) db_need_book)))
      (dss_cons (ds_set 1 sc_needless.nd rfl l_needless_1 (DE.n (de_tup (da_cons (de_ix (de_var 0 rfl v_needless_0 db_book cd_book) de_int) (da_cons (de_ix (de_var 0 rfl v_needless_0 db_book cd_book) de_int) (da_cons (de_tup da_nil) da_nil))))))
      (dss_one (ds_retL (dl_comp [("word", 2), ("sounds", 3)] rfl sc_needless.nd (blkOk_by (N := ns_needless) (sc := _) (show blkC ns_needless (defScope s_needless) _ _ = true by decide +kernel)) (di_val (de_ix (de_var 0 rfl v_needless_0 db_book cd_book) de_int)) (fun _ _ _ _ _ => (dg_tup rfl (dgs_cons (dg_name 2 sc_needless.nd rfl (by first | exact Or.inl rfl | exact Or.inr rfl)) (dgs_cons (dg_name 3 sc_needless.nd rfl (by first | exact Or.inl rfl | exact Or.inr rfl)) dgs_nil)))) (fun _ _ _ _ _ => (dts_one (db_cmp (lf_eq hu) (de_call Fit.pure (ok_said_by T) (hr.mono (by decide)) (by rfl) T.d_said_by.g T.d_said_by.F.kp T.d_said_by.b takes0 (da_cons (de_var 1 rfl (by first | exact Or.inl rfl | exact Or.inr (Or.inl rfl) | exact Or.inr (Or.inr rfl)) db_bare cd_bare) (da_cons (de_var 2 rfl (by first | exact Or.inl rfl | exact Or.inr (Or.inl rfl) | exact Or.inr (Or.inr rfl)) db_word cd_word) da_nil)) db_said_by) (de_var 3 rfl (by first | exact Or.inl rfl | exact Or.inr (Or.inl rfl) | exact Or.inr (Or.inr rfl)) db_sounds cd_sounds)))) (fun _ _ _ _ _ => (de_var 2 rfl (by first | exact Or.inl rfl | exact Or.inr (Or.inl rfl) | exact Or.inr (Or.inr rfl)) db_word cd_word)))))))
/-! _law_taken -/
abbrev ns__law_taken : List Str := ["_law_row_here", "_law_many", "_law_found", "_law_cell"]
theorem sc__law_taken : FnScope ns__law_taken ["_law_row_here", "_law_many"] (defScope s__law_taken) := ⟨rfl, rfl, rfl, by decide +kernel, rfl, by decide +kernel, by decide +kernel⟩
theorem v__law_taken_0 : Vis (defScope s__law_taken) "_law_row_here" := by first | exact Or.inl (by decide +kernel) | exact Or.inr (Or.inl (by decide +kernel)) | exact Or.inr (Or.inr (by decide +kernel))
theorem l__law_taken_0 : Loc (defScope s__law_taken) "_law_row_here" := by first | exact Or.inl (by decide +kernel) | exact Or.inr (by decide +kernel)
theorem v__law_taken_1 : Vis (defScope s__law_taken) "_law_many" := by first | exact Or.inl (by decide +kernel) | exact Or.inr (Or.inl (by decide +kernel)) | exact Or.inr (Or.inr (by decide +kernel))
theorem l__law_taken_1 : Loc (defScope s__law_taken) "_law_many" := by first | exact Or.inl (by decide +kernel) | exact Or.inr (by decide +kernel)
theorem v__law_taken_2 : Vis (defScope s__law_taken) "_law_found" := by first | exact Or.inl (by decide +kernel) | exact Or.inr (Or.inl (by decide +kernel)) | exact Or.inr (Or.inr (by decide +kernel))
theorem l__law_taken_2 : Loc (defScope s__law_taken) "_law_found" := by first | exact Or.inl (by decide +kernel) | exact Or.inr (by decide +kernel)
theorem v__law_taken_3 : Vis (defScope s__law_taken) "_law_cell" := by first | exact Or.inl (by decide +kernel) | exact Or.inr (Or.inl (by decide +kernel)) | exact Or.inr (Or.inr (by decide +kernel))
theorem l__law_taken_3 : Loc (defScope s__law_taken) "_law_cell" := by first | exact Or.inl (by decide +kernel) | exact Or.inr (by decide +kernel)
noncomputable def b__law_taken : Sn → RS → SR RS := (sSeq (sIf (nD (asB (f2 gGt (f2 gIxR (fVar 0) (fC (.int 2))) (fC (.int 0))))) (sSeq (sSet 2 (nD (f2 (gInt (fun i j => .int (i % j)) fun _ j => decide (0 < j)) (f2 gIxR (fVar 0) (fC (.int 2))) (fVar 1))))
    (sSeq (sRow 2 (nD (fVar 0)) (nD (f2 (gInt (fun i j => .int (i / j)) fun _ j => decide (0 < j ∧ j < 1073741824)) (f2 gIxR (fVar 0) (fC (.int 2))) (fVar 1))))
    (sRet (nD (fVar 2))))) sNil)
    (sSeq (sIf (nD (asB (f2 gLt (f2 gIxR (fVar 0) (fC (.int 1))) (fArgs gLenR (aCons (f2 gIxR (fVar 0) (fC (.int 0))) aNil))))) (sSeq (sSet 3 (nD (f2 gIxR (f2 gIxR (fVar 0) (fC (.int 0))) (f2 gIxR (fVar 0) (fC (.int 1))))))
    (sSeq (sRow 1 (nD (fVar 0)) (nD (f2 gAdd (f2 gIxR (fVar 0) (fC (.int 1))) (fC (.int 1)))))
    (sSeq (sIf (nD (asB (f2 gGe (fVar 3) (f2 (gInt (fun i j => .int (i ^ j.toNat)) fun i j => decide (0 ≤ j ∧ j ≤ 1000000 ∧ i.natAbs < 2 ^ 64)) (fC (.int 10)) (fC (.int 18)))))) (sRow 2 (nD (fVar 0)) (nD (f2 (gInt (fun i j => .int (i / j)) fun _ j => decide (0 < j ∧ j < 1073741824)) (fVar 3) (fVar 1)))) sNil)
    (sRet (nD (f2 (gInt (fun i j => .int (i % j)) fun _ j => decide (0 < j)) (fVar 3) (fVar 1))))))) sNil)
    (sSeq (sRow 3 (nD (fVar 0)) (nD (f2 (gInt (fun i j => .int (i % j)) fun _ j => decide (0 < j)) (f2 gAdd (f2 (gInt (fun i j => .int (i * j)) fun i j => decide (i.natAbs.log2 + j.natAbs.log2 < 1000000)) (f2 gIxR (fVar 0) (fC (.int 3))) (fC (.int 48271))) (fC (.int 12345))) (fC (.int 2147483647)))))
    (sRet (nD (f2 (gInt (fun i j => .int (i % j)) fun _ j => decide (0 < j)) (f2 (gInt (fun i j => .int (i / j)) fun _ j => decide (0 < j ∧ j < 1073741824)) (f2 gIxR (fVar 0) (fC (.int 3))) (fC (.int 1009))) (fVar 1)))))))
noncomputable def F__law_taken : List D → RS → R RS D := fnF 4 2 b__law_taken
theorem ok__law_taken (T : Txt K mg) : FnOk P wd K mg base (L2.CX P wd) 1 T.d__law_taken.f T.d__law_taken.fd ["_law_row_here", "_law_many"] (spW K T.ca (rowW K) F__law_taken) := by
  refine fn_ok T.d__law_taken.F sc__law_taken fun cdv A outer s H E rho hr => ?_
  have hu := hr.units
  have tk : Takes (cxOf (L2.CX P wd) P wd K mg base ns__law_taken "_law_taken" (defScope s__law_taken) T.d__law_taken.f cdv A outer s H E) (fun c d _ H => E c d H) := takes_of rfl rfl rfl rfl
  exact (dss_cons (ds_if (DB.n (db_cmp lf_gt (de_ixR (de_var 0 rfl v__law_taken_0 db__law_row_here cd__law_row_here) de_int) de_int)) (dss_cons (ds_set 2 sc__law_taken.nd rfl l__law_taken_2 (DE.n (de_bin lf_mod (de_ixR (de_var 0 rfl v__law_taken_0 db__law_row_here cd__law_row_here) de_int) (de_var 1 rfl v__law_taken_1 db__law_many cd__law_many))))
      (dss_cons (ds_row 2 (DE.n (de_var 0 rfl v__law_taken_0 db__law_row_here cd__law_row_here)) (DE.n (de_bin lf_fdiv (de_ixR (de_var 0 rfl v__law_taken_0 db__law_row_here cd__law_row_here) de_int) (de_var 1 rfl v__law_taken_1 db__law_many cd__law_many))))
      (dss_one (ds_ret (DE.n (de_var 2 rfl v__law_taken_2 db__law_found cd__law_found)))))) dss_nil)
      (dss_cons (ds_if (DB.n (db_cmp lf_lt (de_ixR (de_var 0 rfl v__law_taken_0 db__law_row_here cd__law_row_here) de_int) (de_callB cl_lenR (by rfl) T.n_len bt_len (da_cons (de_ixR (de_var 0 rfl v__law_taken_0 db__law_row_here cd__law_row_here) de_int) da_nil) nn_len db_len))) (dss_cons (ds_set 3 sc__law_taken.nd rfl l__law_taken_3 (DE.n (de_ixR (de_ixR (de_var 0 rfl v__law_taken_0 db__law_row_here cd__law_row_here) de_int) (de_ixR (de_var 0 rfl v__law_taken_0 db__law_row_here cd__law_row_here) de_int))))
      (dss_cons (ds_row 1 (DE.n (de_var 0 rfl v__law_taken_0 db__law_row_here cd__law_row_here)) (DE.n (de_bin lf_add (de_ixR (de_var 0 rfl v__law_taken_0 db__law_row_here cd__law_row_here) de_int) de_int)))
      (dss_cons (ds_if (DB.n (db_cmp lf_ge (de_var 3 rfl v__law_taken_3 db__law_cell cd__law_cell) (de_bin lf_pow de_int de_int))) (dss_one (ds_row 2 (DE.n (de_var 0 rfl v__law_taken_0 db__law_row_here cd__law_row_here)) (DE.n (de_bin lf_fdiv (de_var 3 rfl v__law_taken_3 db__law_cell cd__law_cell) (de_var 1 rfl v__law_taken_1 db__law_many cd__law_many))))) dss_nil)
      (dss_one (ds_ret (DE.n (de_bin lf_mod (de_var 3 rfl v__law_taken_3 db__law_cell cd__law_cell) (de_var 1 rfl v__law_taken_1 db__law_many cd__law_many)))))))) dss_nil)
      (dss_cons (ds_row 3 (DE.n (de_var 0 rfl v__law_taken_0 db__law_row_here cd__law_row_here)) (DE.n (de_bin lf_mod (de_bin lf_add (de_bin lf_mul (de_ixR (de_var 0 rfl v__law_taken_0 db__law_row_here cd__law_row_here) de_int) de_int) de_int) de_int)))
      (dss_one (ds_ret (DE.n (de_bin lf_mod (de_bin lf_fdiv (de_ixR (de_var 0 rfl v__law_taken_0 db__law_row_here cd__law_row_here) de_int) de_int) (de_var 1 rfl v__law_taken_1 db__law_many cd__law_many))))))))
/-! _law_letters -/
abbrev ns__law_letters : List Str := ["_law_row_here"]
theorem sc__law_letters : FnScope ns__law_letters ["_law_row_here"] (defScope s__law_letters) := ⟨rfl, rfl, rfl, by decide +kernel, rfl, by decide +kernel, by decide +kernel⟩
theorem v__law_letters_0 : Vis (defScope s__law_letters) "_law_row_here" := by first | exact Or.inl (by decide +kernel) | exact Or.inr (Or.inl (by decide +kernel)) | exact Or.inr (Or.inr (by decide +kernel))
theorem l__law_letters_0 : Loc (defScope s__law_letters) "_law_row_here" := by first | exact Or.inl (by decide +kernel) | exact Or.inr (by decide +kernel)
noncomputable def b__law_letters : Sn → RS → SR RS := (sRet (nD (f2 gIx (fLst (aCons (fC (.str [97, 98])) (aCons (fC (.str [97, 98, 99])) (aCons (fC (.str [97, 99])) (aCons (fC (.str [97, 98, 99, 100])) aNil))))) (fArgs (lift id (fun _ s => s) F__law_taken) (aCons (fVar 0) (aCons (fC (.int 4)) aNil))))))
noncomputable def F__law_letters : List D → RS → R RS D := fnF 1 1 b__law_letters
theorem ok__law_letters (T : Txt K mg) : FnOk P wd K mg base (L2.CX P wd) 2 T.d__law_letters.f T.d__law_letters.fd ["_law_row_here"] (spW K T.ca (rowW K) F__law_letters) := by
  refine fn_ok T.d__law_letters.F sc__law_letters fun cdv A outer s H E rho hr => ?_
  have hu := hr.units
  have tk : Takes (cxOf (L2.CX P wd) P wd K mg base ns__law_letters "_law_letters" (defScope s__law_letters) T.d__law_letters.f cdv A outer s H E) (fun c d _ H => E c d H) := takes_of rfl rfl rfl rfl
  exact (dss_one (ds_ret (DE.n (de_ix (de_lst (da_cons (de_str (l := [97, 98])) (da_cons (de_str (l := [97, 98, 99])) (da_cons (de_str (l := [97, 99])) (da_cons (de_str (l := [97, 98, 99, 100])) da_nil))))) (de_call Fit.same (ok__law_taken T) (hr.mono (by decide)) (by rfl) T.d__law_taken.g T.d__law_taken.F.kp T.d__law_taken.b tk (da_cons (de_var 0 rfl v__law_letters_0 db__law_row_here cd__law_row_here) (da_cons de_int da_nil)) db__law_taken)))))
/-! _law_side -/
abbrev ns__law_side : List Str := ["_law_row_here", "_law_letters_here", "_law_sign"]
theorem sc__law_side : FnScope ns__law_side ["_law_row_here", "_law_letters_here"] (defScope s__law_side) := ⟨rfl, rfl, rfl, by decide +kernel, rfl, by decide +kernel, by decide +kernel⟩
theorem v__law_side_0 : Vis (defScope s__law_side) "_law_row_here" := by first | exact Or.inl (by decide +kernel) | exact Or.inr (Or.inl (by decide +kernel)) | exact Or.inr (Or.inr (by decide +kernel))
theorem l__law_side_0 : Loc (defScope s__law_side) "_law_row_here" := by first | exact Or.inl (by decide +kernel) | exact Or.inr (by decide +kernel)
theorem v__law_side_1 : Vis (defScope s__law_side) "_law_letters_here" := by first | exact Or.inl (by decide +kernel) | exact Or.inr (Or.inl (by decide +kernel)) | exact Or.inr (Or.inr (by decide +kernel))
theorem l__law_side_1 : Loc (defScope s__law_side) "_law_letters_here" := by first | exact Or.inl (by decide +kernel) | exact Or.inr (by decide +kernel)


noncomputable def b__law_side : Sn → RS → SR RS := (sSeq (sIf (nD (asB (f2 (gEq id) (fArgs (lift id (fun _ s => s) F__law_taken) (aCons (fVar 0) (aCons (fC (.int 2)) aNil))) (fC (.int 0))))) (sRet (nD (fC (.str [])))) sNil)
    (sRet (nD (fJoin (fC (.str [])) (fComp (fItems (f2 gAdd (fC (.str [35])) (fVar 1))) (.nm 2) [2] (asB (f2 (gEq id) (fArgs (lift id (fun _ s => s) F__law_taken) (aCons (fVar 0) (aCons (fC (.int 2)) aNil))) (fC (.int 0)))) (fVar 2))))))
noncomputable def F__law_side : List D → RS → R RS D := fnF 3 2 b__law_side
theorem ok__law_side (T : Txt K mg) : FnOk P wd K mg base (L2.CX P wd) 2 T.d__law_side.f T.d__law_side.fd ["_law_row_here", "_law_letters_here"] (spW K T.ca (rowW K) F__law_side) := by
  refine fn_ok T.d__law_side.F sc__law_side fun cdv A outer s H E rho hr => ?_
  have hu := hr.units
  have tk : Takes (cxOf (L2.CX P wd) P wd K mg base ns__law_side "_law_side" (defScope s__law_side) T.d__law_side.f cdv A outer s H E) (fun c d _ H => E c d H) := takes_of rfl rfl rfl rfl
  exact (dss_cons (ds_if (DB.n (db_cmp (lf_eq hu) (de_call Fit.same (ok__law_taken T) (hr.mono (by decide)) (by rfl) T.d__law_taken.g T.d__law_taken.F.kp T.d__law_taken.b tk (da_cons (de_var 0 rfl v__law_side_0 db__law_row_here cd__law_row_here) (da_cons de_int da_nil)) db__law_taken) de_int)) (dss_one (ds_ret (DE.n (de_str (l := []))))) dss_nil)
      (dss_one (ds_ret (DE.n (de_join (de_str (l := [])) (de_comp [("_law_sign", 2)] rfl sc__law_side.nd (blkOk_by (N := ns__law_side) (sc := _) (show blkC ns__law_side (defScope s__law_side) _ _ = true by decide +kernel)) (di_val (de_bin lf_add (de_str (l := [35])) (de_var 1 rfl v__law_side_1 db__law_letters_here cd__law_letters_here))) (fun _ _ _ _ _ => (dg_name 2 sc__law_side.nd rfl (by first | exact Or.inl rfl | exact Or.inr rfl))) (fun _ _ _ _ _ => (dts_one (db_cmp (lf_eq hu) (de_call Fit.same (ok__law_taken T) (hr.mono (by decide)) (by rfl) T.d__law_taken.g T.d__law_taken.F.kp T.d__law_taken.b takes0 (da_cons (de_var 0 rfl (by first | exact Or.inl rfl | exact Or.inr (Or.inl rfl) | exact Or.inr (Or.inr rfl)) db__law_row_here cd__law_row_here) (da_cons de_int da_nil)) db__law_taken) de_int))) (fun _ _ _ _ _ => (de_var 2 rfl (by first | exact Or.inl rfl | exact Or.inr (Or.inl rfl) | exact Or.inr (Or.inr rfl)) db__law_sign cd__law_sign))))))))
/-! _law_text -/
abbrev ns__law_text : List Str := ["_law_row_here", "_law_signs", "_law_fewest", "_law_many", "_law_k"]
theorem sc__law_text : FnScope ns__law_text ["_law_row_here", "_law_signs", "_law_fewest", "_law_many"] (defScope s__law_text) := ⟨rfl, rfl, rfl, by decide +kernel, rfl, by decide +kernel, by decide +kernel⟩
theorem v__law_text_0 : Vis (defScope s__law_text) "_law_row_here" := by first | exact Or.inl (by decide +kernel) | exact Or.inr (Or.inl (by decide +kernel)) | exact Or.inr (Or.inr (by decide +kernel))
theorem l__law_text_0 : Loc (defScope s__law_text) "_law_row_here" := by first | exact Or.inl (by decide +kernel) | exact Or.inr (by decide +kernel)
theorem v__law_text_1 : Vis (defScope s__law_text) "_law_signs" := by first | exact Or.inl (by decide +kernel) | exact Or.inr (Or.inl (by decide +kernel)) | exact Or.inr (Or.inr (by decide +kernel))
theorem l__law_text_1 : Loc (defScope s__law_text) "_law_signs" := by first | exact Or.inl (by decide +kernel) | exact Or.inr (by decide +kernel)
theorem v__law_text_2 : Vis (defScope s__law_text) "_law_fewest" := by first | exact Or.inl (by decide +kernel) | exact Or.inr (Or.inl (by decide +kernel)) | exact Or.inr (Or.inr (by decide +kernel))
theorem l__law_text_2 : Loc (defScope s__law_text) "_law_fewest" := by first | exact Or.inl (by decide +kernel) | exact Or.inr (by decide +kernel)
theorem v__law_text_3 : Vis (defScope s__law_text) "_law_many" := by first | exact Or.inl (by decide +kernel) | exact Or.inr (Or.inl (by decide +kernel)) | exact Or.inr (Or.inr (by decide +kernel))
theorem l__law_text_3 : Loc (defScope s__law_text) "_law_many" := by first | exact Or.inl (by decide +kernel) | exact Or.inr (by decide +kernel)


noncomputable def b__law_text : Sn → RS → SR RS := (sRet (nD (fJoin (fC (.str [])) (fComp (fRng1 (aCons (f2 gAdd (fVar 2) (fArgs (lift id (fun _ s => s) F__law_taken) (aCons (fVar 0) (aCons (f2 gAdd (f2 (gInt (fun i j => .int (i - j)) fun _ _ => true) (fVar 3) (fVar 2)) (fC (.int 1))) aNil)))) aNil)) (.nm 4) [4] bYes (f2 gIx (fVar 1) (fArgs (lift id (fun _ s => s) F__law_taken) (aCons (fVar 0) (aCons (fArgs gLen (aCons (fVar 1) aNil)) aNil))))))))
noncomputable def F__law_text : List D → RS → R RS D := fnF 5 4 b__law_text
theorem ok__law_text (T : Txt K mg) : FnOk P wd K mg base (L2.CX P wd) 2 T.d__law_text.f T.d__law_text.fd ["_law_row_here", "_law_signs", "_law_fewest", "_law_many"] (spW K T.ca (rowW K) F__law_text) := by
  refine fn_ok T.d__law_text.F sc__law_text fun cdv A outer s H E rho hr => ?_
  have hu := hr.units
  have tk : Takes (cxOf (L2.CX P wd) P wd K mg base ns__law_text "_law_text" (defScope s__law_text) T.d__law_text.f cdv A outer s H E) (fun c d _ H => E c d H) := takes_of rfl rfl rfl rfl
  exact (dss_one (ds_ret (DE.n (de_join (de_str (l := [])) (de_comp [("_law_k", 4)] rfl sc__law_text.nd (blkOk_by (N := ns__law_text) (sc := _) (show blkC ns__law_text (defScope s__law_text) _ _ = true by decide +kernel)) (di_range1 (by rfl) T.n_range (da_cons (de_bin lf_add (de_var 2 rfl v__law_text_2 db__law_fewest cd__law_fewest) (de_call Fit.same (ok__law_taken T) (hr.mono (by decide)) (by rfl) T.d__law_taken.g T.d__law_taken.F.kp T.d__law_taken.b tk (da_cons (de_var 0 rfl v__law_text_0 db__law_row_here cd__law_row_here) (da_cons (de_bin lf_add (de_bin lf_sub (de_var 3 rfl v__law_text_3 db__law_many cd__law_many) (de_var 2 rfl v__law_text_2 db__law_fewest cd__law_fewest)) de_int) da_nil)) db__law_taken)) da_nil)) (fun _ _ _ _ _ => (dg_name 4 sc__law_text.nd rfl (by first | exact Or.inl rfl | exact Or.inr rfl))) (fun _ _ _ _ _ => dts_nil) (fun _ _ _ _ _ => (de_ix (de_var 1 rfl (by first | exact Or.inl rfl | exact Or.inr (Or.inl rfl) | exact Or.inr (Or.inr rfl)) db__law_signs cd__law_signs) (de_call Fit.same (ok__law_taken T) (hr.mono (by decide)) (by rfl) T.d__law_taken.g T.d__law_taken.F.kp T.d__law_taken.b takes0 (da_cons (de_var 0 rfl (by first | exact Or.inl rfl | exact Or.inr (Or.inl rfl) | exact Or.inr (Or.inr rfl)) db__law_row_here cd__law_row_here) (da_cons (de_callB cl_len (by rfl) T.n_len bt_len (da_cons (de_var 1 rfl (by first | exact Or.inl rfl | exact Or.inr (Or.inl rfl) | exact Or.inr (Or.inr rfl)) db__law_signs cd__law_signs) da_nil) nn_len db_len) da_nil)) db__law_taken))))))))
/-! _law_rule -/
abbrev ns__law_rule : List Str := ["_law_row_here", "_law_letters_here", "_law_ahead", "_law_own"]
theorem sc__law_rule : FnScope ns__law_rule ["_law_row_here", "_law_letters_here"] (defScope s__law_rule) := ⟨rfl, rfl, rfl, by decide +kernel, rfl, by decide +kernel, by decide +kernel⟩
theorem v__law_rule_0 : Vis (defScope s__law_rule) "_law_row_here" := by first | exact Or.inl (by decide +kernel) | exact Or.inr (Or.inl (by decide +kernel)) | exact Or.inr (Or.inr (by decide +kernel))
theorem l__law_rule_0 : Loc (defScope s__law_rule) "_law_row_here" := by first | exact Or.inl (by decide +kernel) | exact Or.inr (by decide +kernel)
theorem v__law_rule_1 : Vis (defScope s__law_rule) "_law_letters_here" := by first | exact Or.inl (by decide +kernel) | exact Or.inr (Or.inl (by decide +kernel)) | exact Or.inr (Or.inr (by decide +kernel))
theorem l__law_rule_1 : Loc (defScope s__law_rule) "_law_letters_here" := by first | exact Or.inl (by decide +kernel) | exact Or.inr (by decide +kernel)
theorem v__law_rule_2 : Vis (defScope s__law_rule) "_law_ahead" := by first | exact Or.inl (by decide +kernel) | exact Or.inr (Or.inl (by decide +kernel)) | exact Or.inr (Or.inr (by decide +kernel))
theorem l__law_rule_2 : Loc (defScope s__law_rule) "_law_ahead" := by first | exact Or.inl (by decide +kernel) | exact Or.inr (by decide +kernel)
theorem v__law_rule_3 : Vis (defScope s__law_rule) "_law_own" := by first | exact Or.inl (by decide +kernel) | exact Or.inr (Or.inl (by decide +kernel)) | exact Or.inr (Or.inr (by decide +kernel))
theorem l__law_rule_3 : Loc (defScope s__law_rule) "_law_own" := by first | exact Or.inl (by decide +kernel) | exact Or.inr (by decide +kernel)
theorem lk__law_rule_2 : List.lookup ("_law_ahead" : Str) (defScope s__law_rule).names = some .local := by decide +kernel
theorem lk__law_rule_3 : List.lookup ("_law_own" : Str) (defScope s__law_rule).names = some .local := by decide +kernel
noncomputable def b__law_rule : Sn → RS → SR RS := (sSeq (sPar 2 3 (nD (aCons (fArgs (lift id (fun _ s => s) F__law_side) (aCons (fVar 0) (aCons (fVar 1) aNil))) (aCons (fArgs (lift id (fun _ s => s) F__law_text) (aCons (fVar 0) (aCons (fVar 1) (aCons (fC (.int 1)) (aCons (fC (.int 2)) aNil))))) aNil))))
    (sRet (nD (fTup (aCons (fVar 2) (aCons (fVar 3) (aCons (fArgs (lift id (fun _ s => s) F__law_side) (aCons (fVar 0) (aCons (fVar 1) aNil))) (aCons (fArgs (lift id (fun _ s => s) F__law_text) (aCons (fVar 0) (aCons (fC (.str [65, 66])) (aCons (fC (.int 0)) (aCons (f2 gIx (fLst (aCons (fC (.int 1)) (aCons (fC (.int 1)) (aCons (fC (.int 3)) aNil)))) (fArgs (lift id (fun _ s => s) F__law_taken) (aCons (fVar 0) (aCons (fC (.int 3)) aNil)))) aNil))))) aNil))))))))
noncomputable def F__law_rule : List D → RS → R RS D := fnF 4 2 b__law_rule
theorem ok__law_rule (T : Txt K mg) : FnOk P wd K mg base (L2.CX P wd) 3 T.d__law_rule.f T.d__law_rule.fd ["_law_row_here", "_law_letters_here"] (spW K T.ca (rowW K) F__law_rule) := by
  refine fn_ok T.d__law_rule.F sc__law_rule fun cdv A outer s H E rho hr => ?_
  have hu := hr.units
  have tk : Takes (cxOf (L2.CX P wd) P wd K mg base ns__law_rule "_law_rule" (defScope s__law_rule) T.d__law_rule.f cdv A outer s H E) (fun c d _ H => E c d H) := takes_of rfl rfl rfl rfl
  exact (dss_cons (ds_par 2 3 rfl sc__law_rule.nd rfl rfl (by decide) lk__law_rule_2 lk__law_rule_3 (da_cons (de_call Fit.same (ok__law_side T) (hr.mono (by decide)) (by rfl) T.d__law_side.g T.d__law_side.F.kp T.d__law_side.b tk (da_cons (de_var 0 rfl v__law_rule_0 db__law_row_here cd__law_row_here) (da_cons (de_var 1 rfl v__law_rule_1 db__law_letters_here cd__law_letters_here) da_nil)) db__law_side) (da_cons (de_call Fit.same (ok__law_text T) (hr.mono (by decide)) (by rfl) T.d__law_text.g T.d__law_text.F.kp T.d__law_text.b tk (da_cons (de_var 0 rfl v__law_rule_0 db__law_row_here cd__law_row_here) (da_cons (de_var 1 rfl v__law_rule_1 db__law_letters_here cd__law_letters_here) (da_cons de_int (da_cons de_int da_nil)))) db__law_text) da_nil)))
      (dss_one (ds_ret (DE.n (de_tup (da_cons (de_var 2 rfl v__law_rule_2 db__law_ahead cd__law_ahead) (da_cons (de_var 3 rfl v__law_rule_3 db__law_own cd__law_own) (da_cons (de_call Fit.same (ok__law_side T) (hr.mono (by decide)) (by rfl) T.d__law_side.g T.d__law_side.F.kp T.d__law_side.b tk (da_cons (de_var 0 rfl v__law_rule_0 db__law_row_here cd__law_row_here) (da_cons (de_var 1 rfl v__law_rule_1 db__law_letters_here cd__law_letters_here) da_nil)) db__law_side) (da_cons (de_call Fit.same (ok__law_text T) (hr.mono (by decide)) (by rfl) T.d__law_text.g T.d__law_text.F.kp T.d__law_text.b tk (da_cons (de_var 0 rfl v__law_rule_0 db__law_row_here cd__law_row_here) (da_cons (de_str (l := [65, 66])) (da_cons de_int (da_cons (de_ix (de_lst (da_cons de_int (da_cons de_int (da_cons de_int da_nil)))) (de_call Fit.same (ok__law_taken T) (hr.mono (by decide)) (by rfl) T.d__law_taken.g T.d__law_taken.F.kp T.d__law_taken.b tk (da_cons (de_var 0 rfl v__law_rule_0 db__law_row_here cd__law_row_here) (da_cons de_int da_nil)) db__law_taken)) da_nil)))) db__law_text) da_nil)))))))))
/-! _law_rules -/
abbrev ns__law_rules : List Str := ["_law_row_here", "_law_letters_here", "_law_most", "_law_found", "_law_letter", "_law_k"]
theorem sc__law_rules : FnScope ns__law_rules ["_law_row_here", "_law_letters_here", "_law_most"] (defScope s__law_rules) := ⟨rfl, rfl, rfl, by decide +kernel, rfl, by decide +kernel, by decide +kernel⟩
theorem v__law_rules_0 : Vis (defScope s__law_rules) "_law_row_here" := by first | exact Or.inl (by decide +kernel) | exact Or.inr (Or.inl (by decide +kernel)) | exact Or.inr (Or.inr (by decide +kernel))
theorem l__law_rules_0 : Loc (defScope s__law_rules) "_law_row_here" := by first | exact Or.inl (by decide +kernel) | exact Or.inr (by decide +kernel)
theorem v__law_rules_1 : Vis (defScope s__law_rules) "_law_letters_here" := by first | exact Or.inl (by decide +kernel) | exact Or.inr (Or.inl (by decide +kernel)) | exact Or.inr (Or.inr (by decide +kernel))
theorem l__law_rules_1 : Loc (defScope s__law_rules) "_law_letters_here" := by first | exact Or.inl (by decide +kernel) | exact Or.inr (by decide +kernel)
theorem v__law_rules_2 : Vis (defScope s__law_rules) "_law_most" := by first | exact Or.inl (by decide +kernel) | exact Or.inr (Or.inl (by decide +kernel)) | exact Or.inr (Or.inr (by decide +kernel))
theorem l__law_rules_2 : Loc (defScope s__law_rules) "_law_most" := by first | exact Or.inl (by decide +kernel) | exact Or.inr (by decide +kernel)
theorem v__law_rules_3 : Vis (defScope s__law_rules) "_law_found" := by first | exact Or.inl (by decide +kernel) | exact Or.inr (Or.inl (by decide +kernel)) | exact Or.inr (Or.inr (by decide +kernel))
theorem l__law_rules_3 : Loc (defScope s__law_rules) "_law_found" := by first | exact Or.inl (by decide +kernel) | exact Or.inr (by decide +kernel)
theorem v__law_rules_4 : Vis (defScope s__law_rules) "_law_letter" := by first | exact Or.inl (by decide +kernel) | exact Or.inr (Or.inl (by decide +kernel)) | exact Or.inr (Or.inr (by decide +kernel))
theorem l__law_rules_4 : Loc (defScope s__law_rules) "_law_letter" := by first | exact Or.inl (by decide +kernel) | exact Or.inr (by decide +kernel)


theorem lk__law_rules_3 : List.lookup ("_law_found" : Str) (defScope s__law_rules).names = some .local := by decide +kernel
noncomputable def b__law_rules : Sn → RS → SR RS := (sSeq (sOwn 3 (nD (fCompL (fRng1 (aCons (fArgs (lift id (fun _ s => s) F__law_taken) (aCons (fVar 0) (aCons (f2 gAdd (fVar 2) (fC (.int 1))) aNil))) aNil)) (.nm 5) [5] bYes (fArgs (lift id (fun _ s => s) F__law_rule) (aCons (fVar 0) (aCons (fVar 1) aNil))))))
    (sSeq (sIf (nD (asB (f2 gGt (fArgs (lift id (fun _ s => s) F__law_taken) (aCons (fVar 0) (aCons (fC (.int 4)) aNil))) (fC (.int 0))))) (sFor (nD (fItems (fVar 1))) (.nm 4) (sApp 3 (nD (fTup (aCons (fC (.str [])) (aCons (fVar 4) (aCons (fC (.str [])) (aCons (f2 gIx (fLst (aCons (fC (.str [65])) (aCons (fC (.str [66])) (aCons (fC (.str [])) (aCons (fC (.str [65, 66])) aNil))))) (fArgs (lift id (fun _ s => s) F__law_taken) (aCons (fVar 0) (aCons (fC (.int 4)) aNil)))) aNil)))))))) sNil)
    (sFrz 3 (sRet (nD (fArgs gTupOf (aCons (fVar 3) aNil)))))))
noncomputable def F__law_rules : List D → RS → R RS D := fnF 6 3 b__law_rules
theorem ok__law_rules (T : Txt K mg) : FnOk P wd K mg base (L2.CX P wd) 4 T.d__law_rules.f T.d__law_rules.fd ["_law_row_here", "_law_letters_here", "_law_most"] (spW K T.ca (rowW K) F__law_rules) := by
  refine fn_ok T.d__law_rules.F sc__law_rules fun cdv A outer s H E rho hr => ?_
  have hu := hr.units
  have tk : Takes (cxOf (L2.CX P wd) P wd K mg base ns__law_rules "_law_rules" (defScope s__law_rules) T.d__law_rules.f cdv A outer s H E) (fun c d _ H => E c d H) := takes_of rfl rfl rfl rfl
  exact (dss_cons (ds_ownLc 3 [("_law_k", 5)] rfl sc__law_rules.nd rfl lk__law_rules_3 (blkOk_by (N := ns__law_rules) (sc := _) (show blkC ns__law_rules (defScope s__law_rules) _ _ = true by decide +kernel)) (sw_true rfl lk__law_rules_3 rfl (by decide +kernel)) (di_range1 (by rfl) T.n_range (da_cons (de_call Fit.same (ok__law_taken T) (hr.mono (by decide)) (by rfl) T.d__law_taken.g T.d__law_taken.F.kp T.d__law_taken.b tk (da_cons (de_var 0 rfl v__law_rules_0 db__law_row_here cd__law_row_here) (da_cons (de_bin lf_add (de_var 2 rfl v__law_rules_2 db__law_most cd__law_most) de_int) da_nil)) db__law_taken) da_nil)) (fun _ _ _ _ _ => (dg_name 5 sc__law_rules.nd rfl (by first | exact Or.inl rfl | exact Or.inr rfl))) (fun _ _ _ _ _ => dts_nil) (fun _ _ _ _ _ => (de_call Fit.same (ok__law_rule T) (hr.mono (by decide)) (by rfl) T.d__law_rule.g T.d__law_rule.F.kp T.d__law_rule.b takes0 (da_cons (de_var 0 rfl (by first | exact Or.inl rfl | exact Or.inr (Or.inl rfl) | exact Or.inr (Or.inr rfl)) db__law_row_here cd__law_row_here) (da_cons (de_var 1 rfl (by first | exact Or.inl rfl | exact Or.inr (Or.inl rfl) | exact Or.inr (Or.inr rfl)) db__law_letters_here cd__law_letters_here) da_nil)) db__law_rule)))
      (dss_cons (ds_if (DB.n (db_cmp lf_gt (de_call Fit.same (ok__law_taken T) (hr.mono (by decide)) (by rfl) T.d__law_taken.g T.d__law_taken.F.kp T.d__law_taken.b tk (da_cons (de_var 0 rfl v__law_rules_0 db__law_row_here cd__law_row_here) (da_cons de_int da_nil)) db__law_taken) de_int)) (dss_one (ds_for PassesOwn.leaving rfl (DI.n (di_val (de_var 1 rfl v__law_rules_1 db__law_letters_here cd__law_letters_here))) (dg_name 4 sc__law_rules.nd rfl (by first | exact Or.inl rfl | exact Or.inr rfl)) (dss_one (ds_app 3 (DE.n (de_tup (da_cons (de_str (l := [])) (da_cons (de_var 4 rfl v__law_rules_4 db__law_letter cd__law_letter) (da_cons (de_str (l := [])) (da_cons (de_ix (de_lst (da_cons (de_str (l := [65])) (da_cons (de_str (l := [66])) (da_cons (de_str (l := [])) (da_cons (de_str (l := [65, 66])) da_nil))))) (de_call Fit.same (ok__law_taken T) (hr.mono (by decide)) (by rfl) T.d__law_taken.g T.d__law_taken.F.kp T.d__law_taken.b tk (da_cons (de_var 0 rfl v__law_rules_0 db__law_row_here cd__law_row_here) (da_cons de_int da_nil)) db__law_taken)) da_nil)))))) rfl v__law_rules_3 db__law_found cd__law_found)))) dss_nil)
      (dss_frz 3 (dss_one (ds_ret (DE.n (de_callT cl_tuple (by rfl) T.n_tuple bt_tuple (da_cons (de_var 3 rfl v__law_rules_3 db__law_found cd__law_found) da_nil) nn_tuple db_tuple)))))))
/-! _law_fits -/
abbrev ns__law_fits : List Str := ["_law_rule_here", "_law_word", "_law_place", "_law_far", "_law_at", "_law_end"]
theorem sc__law_fits : FnScope ns__law_fits ["_law_rule_here", "_law_word", "_law_place"] (defScope s__law_fits) := ⟨rfl, rfl, rfl, by decide +kernel, rfl, by decide +kernel, by decide +kernel⟩
theorem v__law_fits_0 : Vis (defScope s__law_fits) "_law_rule_here" := by first | exact Or.inl (by decide +kernel) | exact Or.inr (Or.inl (by decide +kernel)) | exact Or.inr (Or.inr (by decide +kernel))
theorem l__law_fits_0 : Loc (defScope s__law_fits) "_law_rule_here" := by first | exact Or.inl (by decide +kernel) | exact Or.inr (by decide +kernel)
theorem v__law_fits_1 : Vis (defScope s__law_fits) "_law_word" := by first | exact Or.inl (by decide +kernel) | exact Or.inr (Or.inl (by decide +kernel)) | exact Or.inr (Or.inr (by decide +kernel))
theorem l__law_fits_1 : Loc (defScope s__law_fits) "_law_word" := by first | exact Or.inl (by decide +kernel) | exact Or.inr (by decide +kernel)
theorem v__law_fits_2 : Vis (defScope s__law_fits) "_law_place" := by first | exact Or.inl (by decide +kernel) | exact Or.inr (Or.inl (by decide +kernel)) | exact Or.inr (Or.inr (by decide +kernel))
theorem l__law_fits_2 : Loc (defScope s__law_fits) "_law_place" := by first | exact Or.inl (by decide +kernel) | exact Or.inr (by decide +kernel)
theorem v__law_fits_3 : Vis (defScope s__law_fits) "_law_far" := by first | exact Or.inl (by decide +kernel) | exact Or.inr (Or.inl (by decide +kernel)) | exact Or.inr (Or.inr (by decide +kernel))
theorem l__law_fits_3 : Loc (defScope s__law_fits) "_law_far" := by first | exact Or.inl (by decide +kernel) | exact Or.inr (by decide +kernel)
theorem v__law_fits_4 : Vis (defScope s__law_fits) "_law_at" := by first | exact Or.inl (by decide +kernel) | exact Or.inr (Or.inl (by decide +kernel)) | exact Or.inr (Or.inr (by decide +kernel))
theorem l__law_fits_4 : Loc (defScope s__law_fits) "_law_at" := by first | exact Or.inl (by decide +kernel) | exact Or.inr (by decide +kernel)
theorem v__law_fits_5 : Vis (defScope s__law_fits) "_law_end" := by first | exact Or.inl (by decide +kernel) | exact Or.inr (Or.inl (by decide +kernel)) | exact Or.inr (Or.inr (by decide +kernel))
theorem l__law_fits_5 : Loc (defScope s__law_fits) "_law_end" := by first | exact Or.inl (by decide +kernel) | exact Or.inr (by decide +kernel)
theorem lk__law_fits_4 : List.lookup ("_law_at" : Str) (defScope s__law_fits).names = some .local := by decide +kernel
theorem lk__law_fits_5 : List.lookup ("_law_end" : Str) (defScope s__law_fits).names = some .local := by decide +kernel
noncomputable def b__law_fits : Sn → Unit → SR Unit := (sSeq (sSet 3 (nD (f2 gAdd (f2 gAdd (fC (.str [35])) (fVar 1)) (fC (.str [35])))))
    (sSeq (sPar 4 5 (nD (aCons (f2 gAdd (fVar 2) (fC (.int 1))) (aCons (f2 gAdd (f2 gAdd (fVar 2) (fC (.int 1))) (fArgs gLen (aCons (f2 gIx (fVar 0) (fC (.int 1))) aNil))) aNil))))
    (sSeq (sIf (nD (asB (f2 (gEq not) (fSl (fVar 3) (oSome (fVar 4)) (oSome (fVar 5))) (f2 gIx (fVar 0) (fC (.int 1)))))) (sRet (nD (fC (.bl false)))) sNil)
    (sRet (nD (fAnd (fOr (f2 (gEq id) (f2 gIx (fVar 0) (fC (.int 0))) (fC (.str []))) (f2 (gIn id) (f2 gIx (fVar 3) (f2 (gInt (fun i j => .int (i - j)) fun _ _ => true) (fVar 4) (fC (.int 1)))) (f2 gIx (fVar 0) (fC (.int 0))))) (fOr (f2 (gEq id) (f2 gIx (fVar 0) (fC (.int 2))) (fC (.str []))) (f2 (gIn id) (f2 gIx (fVar 3) (fVar 5)) (f2 gIx (fVar 0) (fC (.int 2)))))))))))
noncomputable def F__law_fits : List D → Unit → R Unit D := fnF 6 3 b__law_fits
theorem ok__law_fits (T : Txt K mg) : FnOk P wd K mg base (L2.CX P wd) 1 T.d__law_fits.f T.d__law_fits.fd ["_law_rule_here", "_law_word", "_law_place"] (spW K T.ca (fun _ => w0) F__law_fits) := by
  refine fn_ok T.d__law_fits.F sc__law_fits fun cdv A outer s H E rho hr => ?_
  have hu := hr.units
  have tk : Takes (cxOf (L2.CX P wd) P wd K mg base ns__law_fits "_law_fits" (defScope s__law_fits) T.d__law_fits.f cdv A outer s H E) (fun c d _ H => E c d H) := takes_of rfl rfl rfl rfl
  exact (dss_cons (ds_set 3 sc__law_fits.nd rfl l__law_fits_3 (DE.n (de_bin lf_add (de_bin lf_add (de_str (l := [35])) (de_var 1 rfl v__law_fits_1 db__law_word cd__law_word)) (de_str (l := [35])))))
      (dss_cons (ds_par 4 5 rfl sc__law_fits.nd rfl rfl (by decide) lk__law_fits_4 lk__law_fits_5 (da_cons (de_bin lf_add (de_var 2 rfl v__law_fits_2 db__law_place cd__law_place) de_int) (da_cons (de_bin lf_add (de_bin lf_add (de_var 2 rfl v__law_fits_2 db__law_place cd__law_place) de_int) (de_callB cl_len (by rfl) T.n_len bt_len (da_cons (de_ix (de_var 0 rfl v__law_fits_0 db__law_rule_here cd__law_rule_here) de_int) da_nil) nn_len db_len)) da_nil)))
      (dss_cons (ds_if (DB.n (db_cmp (lf_ne hu) (de_slice (de_var 3 rfl v__law_fits_3 db__law_far cd__law_far) (do_some (de_var 4 rfl v__law_fits_4 db__law_at cd__law_at)) (do_some (de_var 5 rfl v__law_fits_5 db__law_end cd__law_end))) (de_ix (de_var 0 rfl v__law_fits_0 db__law_rule_here cd__law_rule_here) de_int))) (dss_one (ds_ret (DE.n de_bl))) dss_nil)
      (dss_one (ds_ret (DE.n (de_and (de_or (de_cmp (lf_eq hu) (de_ix (de_var 0 rfl v__law_fits_0 db__law_rule_here cd__law_rule_here) de_int) (de_str (l := []))) (de_one (de_cmp lf_in (de_ix (de_var 3 rfl v__law_fits_3 db__law_far cd__law_far) (de_bin lf_sub (de_var 4 rfl v__law_fits_4 db__law_at cd__law_at) de_int)) (de_ix (de_var 0 rfl v__law_fits_0 db__law_rule_here cd__law_rule_here) de_int)))) (de_one (de_or (de_cmp (lf_eq hu) (de_ix (de_var 0 rfl v__law_fits_0 db__law_rule_here cd__law_rule_here) de_int) (de_str (l := []))) (de_one (de_cmp lf_in (de_ix (de_var 3 rfl v__law_fits_3 db__law_far cd__law_far) (de_var 5 rfl v__law_fits_5 db__law_end cd__law_end)) (de_ix (de_var 0 rfl v__law_fits_0 db__law_rule_here cd__law_rule_here) de_int))))))))))))
/-! _law_walk -/
abbrev ns__law_walk : List Str := ["_law_rules_here", "_law_word", "_law_place", "_law_found", "_law_some", "_law_k"]
theorem sc__law_walk : FnScope ns__law_walk ["_law_rules_here", "_law_word"] (defScope s__law_walk) := ⟨rfl, rfl, rfl, by decide +kernel, rfl, by decide +kernel, by decide +kernel⟩
theorem v__law_walk_0 : Vis (defScope s__law_walk) "_law_rules_here" := by first | exact Or.inl (by decide +kernel) | exact Or.inr (Or.inl (by decide +kernel)) | exact Or.inr (Or.inr (by decide +kernel))
theorem l__law_walk_0 : Loc (defScope s__law_walk) "_law_rules_here" := by first | exact Or.inl (by decide +kernel) | exact Or.inr (by decide +kernel)
theorem v__law_walk_1 : Vis (defScope s__law_walk) "_law_word" := by first | exact Or.inl (by decide +kernel) | exact Or.inr (Or.inl (by decide +kernel)) | exact Or.inr (Or.inr (by decide +kernel))
theorem l__law_walk_1 : Loc (defScope s__law_walk) "_law_word" := by first | exact Or.inl (by decide +kernel) | exact Or.inr (by decide +kernel)
theorem v__law_walk_2 : Vis (defScope s__law_walk) "_law_place" := by first | exact Or.inl (by decide +kernel) | exact Or.inr (Or.inl (by decide +kernel)) | exact Or.inr (Or.inr (by decide +kernel))
theorem l__law_walk_2 : Loc (defScope s__law_walk) "_law_place" := by first | exact Or.inl (by decide +kernel) | exact Or.inr (by decide +kernel)
theorem v__law_walk_3 : Vis (defScope s__law_walk) "_law_found" := by first | exact Or.inl (by decide +kernel) | exact Or.inr (Or.inl (by decide +kernel)) | exact Or.inr (Or.inr (by decide +kernel))
theorem l__law_walk_3 : Loc (defScope s__law_walk) "_law_found" := by first | exact Or.inl (by decide +kernel) | exact Or.inr (by decide +kernel)
theorem v__law_walk_4 : Vis (defScope s__law_walk) "_law_some" := by first | exact Or.inl (by decide +kernel) | exact Or.inr (Or.inl (by decide +kernel)) | exact Or.inr (Or.inr (by decide +kernel))
theorem l__law_walk_4 : Loc (defScope s__law_walk) "_law_some" := by first | exact Or.inl (by decide +kernel) | exact Or.inr (by decide +kernel)


theorem lk__law_walk_4 : List.lookup ("_law_some" : Str) (defScope s__law_walk).names = some .local := by decide +kernel
noncomputable def b__law_walk : Sn → Unit → SR Unit := (sSeq (sParL 2 3 (nD (fC (.int 0))) (nD (fLstL aNil)))
    (sSeq (whileD (nD (asB (f2 gLt (fVar 2) (fArgs gLen (aCons (fVar 1) aNil))))) (sSeq (sSet 4 (nD (fComp (fRng1 (aCons (fArgs gLen (aCons (fVar 0) aNil)) aNil)) (.nm 5) [5] (asB (fArgs (lift (fun _ => ()) (fun s _ => s) F__law_fits) (aCons (f2 gIx (fVar 0) (fVar 5)) (aCons (fVar 1) (aCons (fVar 2) aNil))))) (fVar 5))))
    (sSeq (sIf (nD (asB (f2 (gEq id) (fVar 4) (fLst aNil)))) (sRet (nD (fTup (aCons (fC (.str [117, 110, 115, 97, 105, 100])) (aCons (fVar 2) aNil))))) sNil)
    (sSeq (sApp 3 (nD (fTup (aCons (fVar 2) (aCons (f2 gIx (fVar 4) (fC (.int 0))) aNil)))))
    (sSet 2 (nD (f2 gAdd (fVar 2) (fArgs gLen (aCons (f2 gIx (f2 gIx (fVar 0) (f2 gIx (fVar 4) (fC (.int 0)))) (fC (.int 1))) aNil)))))))))
    (sFrz 3 (sRet (nD (fTup (aCons (fC (.str [])) (aCons (fVar 3) aNil))))))))
noncomputable def F__law_walk : List D → Unit → R Unit D := fnF 6 2 b__law_walk
theorem ok__law_walk (T : Txt K mg) : FnOk P wd K mg base (L2.CX P wd) 2 T.d__law_walk.f T.d__law_walk.fd ["_law_rules_here", "_law_word"] (spW K T.ca (fun _ => w0) F__law_walk) := by
  refine fn_ok T.d__law_walk.F sc__law_walk fun cdv A outer s H E rho hr => ?_
  have hu := hr.units
  have tk : Takes (cxOf (L2.CX P wd) P wd K mg base ns__law_walk "_law_walk" (defScope s__law_walk) T.d__law_walk.f cdv A outer s H E) (fun c d _ H => E c d H) := takes_of rfl rfl rfl rfl
  exact (dss_cons (ds_parLC 2 3 rfl sc__law_walk.nd rfl rfl l__law_walk_2 l__law_walk_3 de_int (dl_lst da_nil))
      (dss_cons (ds_while PassesOwn.leaving (DB.n (db_cmp lf_lt (de_var 2 rfl v__law_walk_2 db__law_place cd__law_place) (de_callB cl_len (by rfl) T.n_len bt_len (da_cons (de_var 1 rfl v__law_walk_1 db__law_word cd__law_word) da_nil) nn_len db_len))) (dss_cons (ds_setLc 4 [("_law_k", 5)] rfl sc__law_walk.nd rfl lk__law_walk_4 (blkOk_by (N := ns__law_walk) (sc := _) (show blkC ns__law_walk (defScope s__law_walk) _ _ = true by decide +kernel)) (sw_true rfl lk__law_walk_4 rfl (by decide +kernel)) (di_range1 (by rfl) T.n_range (da_cons (de_callB cl_len (by rfl) T.n_len bt_len (da_cons (de_var 0 rfl v__law_walk_0 db__law_rules_here cd__law_rules_here) da_nil) nn_len db_len) da_nil)) (fun _ _ _ _ _ => (dg_name 5 sc__law_walk.nd rfl (by first | exact Or.inl rfl | exact Or.inr rfl))) (fun _ _ _ _ _ => (dts_one (db_val (de_call Fit.pure (ok__law_fits T) (hr.mono (by decide)) (by rfl) T.d__law_fits.g T.d__law_fits.F.kp T.d__law_fits.b takes0 (da_cons (de_ix (de_var 0 rfl (by first | exact Or.inl rfl | exact Or.inr (Or.inl rfl) | exact Or.inr (Or.inr rfl)) db__law_rules_here cd__law_rules_here) (de_var 5 rfl (by first | exact Or.inl rfl | exact Or.inr (Or.inl rfl) | exact Or.inr (Or.inr rfl)) db__law_k cd__law_k)) (da_cons (de_var 1 rfl (by first | exact Or.inl rfl | exact Or.inr (Or.inl rfl) | exact Or.inr (Or.inr rfl)) db__law_word cd__law_word) (da_cons (de_var 2 rfl (by first | exact Or.inl rfl | exact Or.inr (Or.inl rfl) | exact Or.inr (Or.inr rfl)) db__law_place cd__law_place) da_nil))) db__law_fits)))) (fun _ _ _ _ _ => (de_var 5 rfl (by first | exact Or.inl rfl | exact Or.inr (Or.inl rfl) | exact Or.inr (Or.inr rfl)) db__law_k cd__law_k)))
      (dss_cons (ds_if (DB.n (db_cmp (lf_eq hu) (de_var 4 rfl v__law_walk_4 db__law_some cd__law_some) (de_lst da_nil))) (dss_one (ds_ret (DE.n (de_tup (da_cons (de_str (l := [117, 110, 115, 97, 105, 100])) (da_cons (de_var 2 rfl v__law_walk_2 db__law_place cd__law_place) da_nil)))))) dss_nil)
      (dss_cons (ds_app 3 (DE.n (de_tup (da_cons (de_var 2 rfl v__law_walk_2 db__law_place cd__law_place) (da_cons (de_ix (de_var 4 rfl v__law_walk_4 db__law_some cd__law_some) de_int) da_nil)))) rfl v__law_walk_3 db__law_found cd__law_found)
      (dss_one (ds_set 2 sc__law_walk.nd rfl l__law_walk_2 (DE.n (de_bin lf_add (de_var 2 rfl v__law_walk_2 db__law_place cd__law_place) (de_callB cl_len (by rfl) T.n_len bt_len (da_cons (de_ix (de_ix (de_var 0 rfl v__law_walk_0 db__law_rules_here cd__law_rules_here) (de_ix (de_var 4 rfl v__law_walk_4 db__law_some cd__law_some) de_int)) de_int) da_nil) nn_len db_len)))))))))
      (dss_frz 3 (dss_one (ds_ret (DE.n (de_tup (da_cons (de_str (l := [])) (da_cons (de_var 3 rfl v__law_walk_3 db__law_found cd__law_found) da_nil)))))))))
/-! _law_said -/
abbrev ns__law_said : List Str := ["_law_book", "_law_word", "_law_found", "_law_other", "_law_sounds", "_law_place", "_law_number"]
theorem sc__law_said : FnScope ns__law_said ["_law_book", "_law_word"] (defScope s__law_said) := ⟨rfl, rfl, rfl, by decide +kernel, rfl, by decide +kernel, by decide +kernel⟩
theorem v__law_said_0 : Vis (defScope s__law_said) "_law_book" := by first | exact Or.inl (by decide +kernel) | exact Or.inr (Or.inl (by decide +kernel)) | exact Or.inr (Or.inr (by decide +kernel))
theorem l__law_said_0 : Loc (defScope s__law_said) "_law_book" := by first | exact Or.inl (by decide +kernel) | exact Or.inr (by decide +kernel)
theorem v__law_said_1 : Vis (defScope s__law_said) "_law_word" := by first | exact Or.inl (by decide +kernel) | exact Or.inr (Or.inl (by decide +kernel)) | exact Or.inr (Or.inr (by decide +kernel))
theorem l__law_said_1 : Loc (defScope s__law_said) "_law_word" := by first | exact Or.inl (by decide +kernel) | exact Or.inr (by decide +kernel)
theorem v__law_said_2 : Vis (defScope s__law_said) "_law_found" := by first | exact Or.inl (by decide +kernel) | exact Or.inr (Or.inl (by decide +kernel)) | exact Or.inr (Or.inr (by decide +kernel))
theorem l__law_said_2 : Loc (defScope s__law_said) "_law_found" := by first | exact Or.inl (by decide +kernel) | exact Or.inr (by decide +kernel)
theorem v__law_said_3 : Vis (defScope s__law_said) "_law_other" := by first | exact Or.inl (by decide +kernel) | exact Or.inr (Or.inl (by decide +kernel)) | exact Or.inr (Or.inr (by decide +kernel))
theorem l__law_said_3 : Loc (defScope s__law_said) "_law_other" := by first | exact Or.inl (by decide +kernel) | exact Or.inr (by decide +kernel)
theorem v__law_said_4 : Vis (defScope s__law_said) "_law_sounds" := by first | exact Or.inl (by decide +kernel) | exact Or.inr (Or.inl (by decide +kernel)) | exact Or.inr (Or.inr (by decide +kernel))
theorem l__law_said_4 : Loc (defScope s__law_said) "_law_sounds" := by first | exact Or.inl (by decide +kernel) | exact Or.inr (by decide +kernel)




noncomputable def b__law_said : Sn → Unit → SR Unit := (sSeq (sFor (nD (fItems (f2 gIx (fVar 0) (fC (.int 2))))) (.tp [3, 4]) (sIf (nD (asB (f2 (gEq id) (fVar 3) (fVar 1)))) (sRet (nD (fTup (aCons (fC (.str [])) (aCons (fVar 4) aNil))))) sNil))
    (sSeq (sSet 2 (nD (fArgs (lift (fun _ => ()) (fun s _ => s) F__law_walk) (aCons (f2 gIx (fVar 0) (fC (.int 1))) (aCons (fVar 1) aNil)))))
    (sSeq (sIf (nD (asB (f2 (gEq not) (f2 gIx (fVar 2) (fC (.int 0))) (fC (.str []))))) (sRet (nD (fVar 2))) sNil)
    (sRet (nD (fTup (aCons (fC (.str [])) (aCons (fJoin (fC (.str [])) (fComp (fItems (f2 gIx (fVar 2) (fC (.int 1)))) (.tp [5, 6]) [5, 6] bYes (f2 gIx (f2 gIx (f2 gIx (fVar 0) (fC (.int 1))) (fVar 6)) (fC (.int 3))))) aNil))))))))
noncomputable def F__law_said : List D → Unit → R Unit D := fnF 7 2 b__law_said
theorem ok__law_said (T : Txt K mg) : FnOk P wd K mg base (L2.CX P wd) 3 T.d__law_said.f T.d__law_said.fd ["_law_book", "_law_word"] (spW K T.ca (fun _ => w0) F__law_said) := by
  refine fn_ok T.d__law_said.F sc__law_said fun cdv A outer s H E rho hr => ?_
  have hu := hr.units
  have tk : Takes (cxOf (L2.CX P wd) P wd K mg base ns__law_said "_law_said" (defScope s__law_said) T.d__law_said.f cdv A outer s H E) (fun c d _ H => E c d H) := takes_of rfl rfl rfl rfl
  exact (dss_cons (ds_for PassesOwn.leaving rfl (DI.n (di_val (de_ix (de_var 0 rfl v__law_said_0 db__law_book cd__law_book) de_int))) (dg_tup rfl (dgs_cons (dg_name 3 sc__law_said.nd rfl (by first | exact Or.inl rfl | exact Or.inr rfl)) (dgs_cons (dg_name 4 sc__law_said.nd rfl (by first | exact Or.inl rfl | exact Or.inr rfl)) dgs_nil))) (dss_one (ds_if (DB.n (db_cmp (lf_eq hu) (de_var 3 rfl v__law_said_3 db__law_other cd__law_other) (de_var 1 rfl v__law_said_1 db__law_word cd__law_word))) (dss_one (ds_ret (DE.n (de_tup (da_cons (de_str (l := [])) (da_cons (de_var 4 rfl v__law_said_4 db__law_sounds cd__law_sounds) da_nil)))))) dss_nil)))
      (dss_cons (ds_set 2 sc__law_said.nd rfl l__law_said_2 (DE.n (de_call Fit.pure (ok__law_walk T) (hr.mono (by decide)) (by rfl) T.d__law_walk.g T.d__law_walk.F.kp T.d__law_walk.b tk (da_cons (de_ix (de_var 0 rfl v__law_said_0 db__law_book cd__law_book) de_int) (da_cons (de_var 1 rfl v__law_said_1 db__law_word cd__law_word) da_nil)) db__law_walk)))
      (dss_cons (ds_if (DB.n (db_cmp (lf_ne hu) (de_ix (de_var 2 rfl v__law_said_2 db__law_found cd__law_found) de_int) (de_str (l := [])))) (dss_one (ds_ret (DE.n (de_var 2 rfl v__law_said_2 db__law_found cd__law_found)))) dss_nil)
      (dss_one (ds_ret (DE.n (de_tup (da_cons (de_str (l := [])) (da_cons (de_join (de_str (l := [])) (de_comp [("_law_place", 5), ("_law_number", 6)] rfl sc__law_said.nd (blkOk_by (N := ns__law_said) (sc := _) (show blkC ns__law_said (defScope s__law_said) _ _ = true by decide +kernel)) (di_val (de_ix (de_var 2 rfl v__law_said_2 db__law_found cd__law_found) de_int)) (fun _ _ _ _ _ => (dg_tup rfl (dgs_cons (dg_name 5 sc__law_said.nd rfl (by first | exact Or.inl rfl | exact Or.inr rfl)) (dgs_cons (dg_name 6 sc__law_said.nd rfl (by first | exact Or.inl rfl | exact Or.inr rfl)) dgs_nil)))) (fun _ _ _ _ _ => dts_nil) (fun _ _ _ _ _ => (de_ix (de_ix (de_ix (de_var 0 rfl (by first | exact Or.inl rfl | exact Or.inr (Or.inl rfl) | exact Or.inr (Or.inr rfl)) db__law_book cd__law_book) de_int) (de_var 6 rfl (by first | exact Or.inl rfl | exact Or.inr (Or.inl rfl) | exact Or.inr (Or.inr rfl)) db__law_number cd__law_number)) de_int)))) da_nil)))))))))
/-! _law_alike -/
abbrev ns__law_alike : List Str := ["_law_found", "_law_due", "_law_same_kind", "_law_k"]
theorem sc__law_alike : FnScope ns__law_alike ["_law_found", "_law_due"] (defScope s__law_alike) := ⟨rfl, rfl, rfl, by decide +kernel, rfl, by decide +kernel, by decide +kernel⟩
theorem v__law_alike_0 : Vis (defScope s__law_alike) "_law_found" := by first | exact Or.inl (by decide +kernel) | exact Or.inr (Or.inl (by decide +kernel)) | exact Or.inr (Or.inr (by decide +kernel))
theorem l__law_alike_0 : Loc (defScope s__law_alike) "_law_found" := by first | exact Or.inl (by decide +kernel) | exact Or.inr (by decide +kernel)
theorem v__law_alike_1 : Vis (defScope s__law_alike) "_law_due" := by first | exact Or.inl (by decide +kernel) | exact Or.inr (Or.inl (by decide +kernel)) | exact Or.inr (Or.inr (by decide +kernel))
theorem l__law_alike_1 : Loc (defScope s__law_alike) "_law_due" := by first | exact Or.inl (by decide +kernel) | exact Or.inr (by decide +kernel)
theorem v__law_alike_2 : Vis (defScope s__law_alike) "_law_same_kind" := by first | exact Or.inl (by decide +kernel) | exact Or.inr (Or.inl (by decide +kernel)) | exact Or.inr (Or.inr (by decide +kernel))
theorem l__law_alike_2 : Loc (defScope s__law_alike) "_law_same_kind" := by first | exact Or.inl (by decide +kernel) | exact Or.inr (by decide +kernel)


noncomputable def b__law_alike (FR : List D → Unit → R Unit D) : Sn → Unit → SR Unit := (sSeq (sIf (nD (asB (f1 (gIsi2 Ty.tuple Ty.list) (fVar 1)))) (sSeq (sIf (nD (bOr (asB (f2 (gEq not) (f1 (gIsi Ty.tuple) (fVar 0)) (f1 (gIsi Ty.tuple) (fVar 1)))) (bNot (asB (f1 (gIsi2 Ty.tuple Ty.list) (fVar 0)))))) (sRet (nD (fC (.bl false)))) sNil)
    (sSeq (sIf (nD (asB (f2 (gEq not) (fArgs gLen (aCons (fVar 0) aNil)) (fArgs gLen (aCons (fVar 1) aNil))))) (sRet (nD (fC (.bl false)))) sNil)
    (sRet (nD (f2 (gEq id) (fComp (fRng1 (aCons (fArgs gLen (aCons (fVar 1) aNil)) aNil)) (.nm 3) [3] (bNot (asB (fArgs (lift id (fun _ s => s) FR) (aCons (f2 gIx (fVar 0) (fVar 3)) (aCons (f2 gIx (fVar 1) (fVar 3)) aNil))))) (fVar 3)) (fLst aNil)))))) sNil)
    (sSeq (sIf (nD (bOr (asB (f2 (gIs id) (fVar 1) (fC .non))) (asB (f2 (gIs id) (fVar 0) (fC .non))))) (sRet (nD (fAnd (f2 (gIs id) (fVar 1) (fC .non)) (f2 (gIs id) (fVar 0) (fC .non))))) sNil)
    (sSeq (sSet 2 (nD (f2 (gEq id) (f1 (gIsi Ty.str) (fVar 1)) (f1 (gIsi Ty.str) (fVar 0)))))
    (sRet (nD (fAnd (fVar 2) (fAnd (f2 (gEq id) (f1 (gIsi Ty.bool) (fVar 1)) (f1 (gIsi Ty.bool) (fVar 0))) (f2 (gEq id) (fVar 0) (fVar 1)))))))))
noncomputable def FR__law_alike : Nat → List D → Unit → R Unit D
  | 0 => fun _ _ => .no
  | n + 1 => fnF 4 2 (b__law_alike (FR__law_alike n))
theorem step__law_alike (T : Txt K mg) {kk : Nat} {FR : List D → Unit → R Unit D} (IH : FnOk P wd K mg base (L2.CX P wd) kk T.d__law_alike.f T.d__law_alike.fd ["_law_found", "_law_due"] (spW K T.ca (fun _ => w0) FR)) : FnOk P wd K mg base (L2.CX P wd) (kk + 1) T.d__law_alike.f T.d__law_alike.fd ["_law_found", "_law_due"] (spW K T.ca (fun _ => w0) (fnF 4 2 (b__law_alike FR))) := by
  refine fn_ok T.d__law_alike.F sc__law_alike fun cdv A outer s H E rho hr => ?_
  have hu := hr.units
  have tk : Takes (cxOf (L2.CX P wd) P wd K mg base ns__law_alike "_law_alike" (defScope s__law_alike) T.d__law_alike.f cdv A outer s H E) (fun c d _ H => E c d H) := takes_of rfl rfl rfl rfl
  exact (dss_cons (ds_if (DB.n (db_val (de_isi2 Ty.tuple Ty.list (by rfl) T.n_isinstance (by rfl) T.n_tuple bt_tuple (by rfl) T.n_list bt_list (de_var 1 rfl v__law_alike_1 db__law_due cd__law_due) nn_tuple db_tuple nn_list db_list))) (dss_cons (ds_if (DB.n (DW.db (dw_or (db_cmp (lf_ne hu) (de_isi Ty.tuple (by rfl) T.n_isinstance (by rfl) T.n_tuple bt_tuple (de_var 0 rfl v__law_alike_0 db__law_found cd__law_found) nn_tuple db_tuple) (de_isi Ty.tuple (by rfl) T.n_isinstance (by rfl) T.n_tuple bt_tuple (de_var 1 rfl v__law_alike_1 db__law_due cd__law_due) nn_tuple db_tuple)) (dw_or1 (db_not (db_val (de_isi2 Ty.tuple Ty.list (by rfl) T.n_isinstance (by rfl) T.n_tuple bt_tuple (by rfl) T.n_list bt_list (de_var 0 rfl v__law_alike_0 db__law_found cd__law_found) nn_tuple db_tuple nn_list db_list))))))) (dss_one (ds_ret (DE.n de_bl))) dss_nil)
      (dss_cons (ds_if (DB.n (db_cmp (lf_ne hu) (de_callB cl_len (by rfl) T.n_len bt_len (da_cons (de_var 0 rfl v__law_alike_0 db__law_found cd__law_found) da_nil) nn_len db_len) (de_callB cl_len (by rfl) T.n_len bt_len (da_cons (de_var 1 rfl v__law_alike_1 db__law_due cd__law_due) da_nil) nn_len db_len))) (dss_one (ds_ret (DE.n de_bl))) dss_nil)
      (dss_one (ds_ret (DE.n (de_cmp (lf_eq hu) (de_comp [("_law_k", 3)] rfl sc__law_alike.nd (blkOk_by (N := ns__law_alike) (sc := _) (show blkC ns__law_alike (defScope s__law_alike) _ _ = true by decide +kernel)) (di_range1 (by rfl) T.n_range (da_cons (de_callB cl_len (by rfl) T.n_len bt_len (da_cons (de_var 1 rfl v__law_alike_1 db__law_due cd__law_due) da_nil) nn_len db_len) da_nil)) (fun _ _ _ _ _ => (dg_name 3 sc__law_alike.nd rfl (by first | exact Or.inl rfl | exact Or.inr rfl))) (fun _ _ _ _ _ => (dts_one (db_not (db_val (de_call Fit.same (by exact IH) (by exact hr) (by rfl) T.d__law_alike.g T.d__law_alike.F.kp T.d__law_alike.b takes0 (da_cons (de_ix (de_var 0 rfl (by first | exact Or.inl rfl | exact Or.inr (Or.inl rfl) | exact Or.inr (Or.inr rfl)) db__law_found cd__law_found) (de_var 3 rfl (by first | exact Or.inl rfl | exact Or.inr (Or.inl rfl) | exact Or.inr (Or.inr rfl)) db__law_k cd__law_k)) (da_cons (de_ix (de_var 1 rfl (by first | exact Or.inl rfl | exact Or.inr (Or.inl rfl) | exact Or.inr (Or.inr rfl)) db__law_due cd__law_due) (de_var 3 rfl (by first | exact Or.inl rfl | exact Or.inr (Or.inl rfl) | exact Or.inr (Or.inr rfl)) db__law_k cd__law_k)) da_nil)) db__law_alike))))) (fun _ _ _ _ _ => (de_var 3 rfl (by first | exact Or.inl rfl | exact Or.inr (Or.inl rfl) | exact Or.inr (Or.inr rfl)) db__law_k cd__law_k))) (de_lst da_nil))))))) dss_nil)
      (dss_cons (ds_if (DB.n (DW.db (dw_or (db_cmp lf_is (de_var 1 rfl v__law_alike_1 db__law_due cd__law_due) de_non) (dw_or1 (db_cmp lf_is (de_var 0 rfl v__law_alike_0 db__law_found cd__law_found) de_non))))) (dss_one (ds_ret (DE.n (de_and (de_cmp lf_is (de_var 1 rfl v__law_alike_1 db__law_due cd__law_due) de_non) (de_one (de_cmp lf_is (de_var 0 rfl v__law_alike_0 db__law_found cd__law_found) de_non)))))) dss_nil)
      (dss_cons (ds_set 2 sc__law_alike.nd rfl l__law_alike_2 (DE.n (de_cmp (lf_eq hu) (de_isi Ty.str (by rfl) T.n_isinstance (by rfl) T.n_str bt_str (de_var 1 rfl v__law_alike_1 db__law_due cd__law_due) nn_str db_str) (de_isi Ty.str (by rfl) T.n_isinstance (by rfl) T.n_str bt_str (de_var 0 rfl v__law_alike_0 db__law_found cd__law_found) nn_str db_str))))
      (dss_one (ds_ret (DE.n (de_and (de_var 2 rfl v__law_alike_2 db__law_same_kind cd__law_same_kind) (de_and (de_cmp (lf_eq hu) (de_isi Ty.bool (by rfl) T.n_isinstance (by rfl) T.n_bool bt_bool (de_var 1 rfl v__law_alike_1 db__law_due cd__law_due) nn_bool db_bool) (de_isi Ty.bool (by rfl) T.n_isinstance (by rfl) T.n_bool bt_bool (de_var 0 rfl v__law_alike_0 db__law_found cd__law_found) nn_bool db_bool)) (de_one (de_cmp (lf_eq hu) (de_var 0 rfl v__law_alike_0 db__law_found cd__law_found) (de_var 1 rfl v__law_alike_1 db__law_due cd__law_due)))))))))))
theorem okR__law_alike (T : Txt K mg) : ∀ n, FnOk P wd K mg base (L2.CX P wd) n T.d__law_alike.f T.d__law_alike.fd ["_law_found", "_law_due"] (spW K T.ca (fun _ => w0) (FR__law_alike n))
  | 0 => fn_never T.d__law_alike.F sc__law_alike
  | n + 1 => step__law_alike T (okR__law_alike T n)
noncomputable abbrev F__law_alike : List D → Unit → R Unit D := FR__law_alike 6
theorem ok__law_alike (T : Txt K mg) : FnOk P wd K mg base (L2.CX P wd) 6 T.d__law_alike.f T.d__law_alike.fd ["_law_found", "_law_due"] (spW K T.ca (fun _ => w0) F__law_alike) := okR__law_alike T 6
end
end Yk15
namespace Yk15
open PySem L2 PySem.Spec PyProof.Rows Dm
section
variable {P : Program} {wd : World} {K : PySem.W.Frag} {mg : Str → Option Value} {base : Heap}
abbrev ns__law_row : List Str := ["_law_script", "_law_mixed", "_law_cell"]
theorem sc__law_row : FnScope ns__law_row ["_law_script"] (defScope s__law_row) := ⟨rfl, rfl, rfl, by decide +kernel, rfl, by decide +kernel, by decide +kernel⟩
theorem v__law_row_0 : Vis (defScope s__law_row) "_law_script" := by first | exact Or.inl (by decide +kernel) | exact Or.inr (Or.inl (by decide +kernel)) | exact Or.inr (Or.inr (by decide +kernel))
theorem l__law_row_0 : Loc (defScope s__law_row) "_law_script" := by first | exact Or.inl (by decide +kernel) | exact Or.inr (by decide +kernel)
theorem v__law_row_1 : Vis (defScope s__law_row) "_law_mixed" := by first | exact Or.inl (by decide +kernel) | exact Or.inr (Or.inl (by decide +kernel)) | exact Or.inr (Or.inr (by decide +kernel))
theorem l__law_row_1 : Loc (defScope s__law_row) "_law_mixed" := by first | exact Or.inl (by decide +kernel) | exact Or.inr (by decide +kernel)
theorem v__law_row_2 : Vis (defScope s__law_row) "_law_cell" := by first | exact Or.inl (by decide +kernel) | exact Or.inr (Or.inl (by decide +kernel)) | exact Or.inr (Or.inr (by decide +kernel))
theorem l__law_row_2 : Loc (defScope s__law_row) "_law_cell" := by first | exact Or.inl (by decide +kernel) | exact Or.inr (by decide +kernel)
noncomputable def bL__law_row : Sn → List Int → SR (List Int) := (sSeq (sSet 1 (nD (fC (.int 7)))) (sSeq (sFor (nD (fScr (fVar 0))) (.nm 2) (sSet 1 (nD (f2 (gInt (fun i j => .int (i % j)) fun _ j => decide (0 < j)) (f2 gAdd (f2 gAdd (f2 (gInt (fun i j => .int (i * j)) fun i j => decide (i.natAbs.log2 + j.natAbs.log2 < 1000000)) (fVar 1) (fC (.int 48271))) (fVar 2)) (fC (.int 11))) (fC (.int 2147483647)))))) (sRetL (nD (fLstL (aCons (fVar 0) (aCons (fC (.int 0)) (aCons (fC (.int 0)) (aCons (fVar 1) aNil)))))))))
noncomputable def FL__law_row : List D → List Int → R (List Int) (List D) := fnL 3 1 bL__law_row
theorem okL__law_row (T : Txt K mg) : FnOk P wd K mg base (L2.CX P wd) 1 T.d__law_row.f T.d__law_row.fd ["_law_script"] (spL K T.ca (scW K) FL__law_row) := by
  refine fnL_ok T.d__law_row.F sc__law_row fun cdv A outer s H E rho hr => ?_
  have hu := hr.units
  exact (dss_cons (ds_set 1 sc__law_row.nd rfl l__law_row_1 (DE.n de_int)) (dss_cons (ds_for PassesOwn.leaving rfl (DI.n (di_scr (de_var 0 rfl v__law_row_0 db__law_script cd__law_script))) (dg_name 2 sc__law_row.nd rfl (by first | exact Or.inl rfl | exact Or.inr rfl)) (dss_one (ds_set 1 sc__law_row.nd rfl l__law_row_1 (DE.n (de_bin lf_mod (de_bin lf_add (de_bin lf_add (de_bin lf_mul (de_var 1 rfl v__law_row_1 db__law_mixed cd__law_mixed) de_int) (de_var 2 rfl v__law_row_2 db__law_cell cd__law_cell)) de_int) de_int))))) (dss_one (ds_retL (dl_lst (da_cons (de_var 0 rfl v__law_row_0 db__law_script cd__law_script) (da_cons de_int (da_cons de_int (da_cons (de_var 1 rfl v__law_row_1 db__law_mixed cd__law_mixed) da_nil)))))))))
end
end Yk15
namespace Yk15
open PySem L2 PySem.Spec PyProof.Rows Dm
section
variable {P : Program} {wd : World} {K : PySem.W.Frag} {mg : Str → Option Value} {base : Heap}
abbrev ns_law : List Str := ["_law_script", "_law_row_here", "_law_turn", "_law_letters_here", "_law_k", "_law_book", "_law_due", "_law_told", "_law_left", "_law_rules_here", "_law_found", "_law_word", "_law_plain", "_law_one"]
theorem sc_law : FnScope ns_law ["_law_script"] (defScope s_law) := ⟨rfl, rfl, rfl, by decide +kernel, rfl, by decide +kernel, by decide +kernel⟩
theorem v_law_0 : Vis (defScope s_law) "_law_script" := by first | exact Or.inl (by decide +kernel) | exact Or.inr (Or.inl (by decide +kernel)) | exact Or.inr (Or.inr (by decide +kernel))
theorem l_law_0 : Loc (defScope s_law) "_law_script" := by first | exact Or.inl (by decide +kernel) | exact Or.inr (by decide +kernel)
theorem v_law_1 : Vis (defScope s_law) "_law_row_here" := by first | exact Or.inl (by decide +kernel) | exact Or.inr (Or.inl (by decide +kernel)) | exact Or.inr (Or.inr (by decide +kernel))
theorem l_law_1 : Loc (defScope s_law) "_law_row_here" := by first | exact Or.inl (by decide +kernel) | exact Or.inr (by decide +kernel)
theorem v_law_2 : Vis (defScope s_law) "_law_turn" := by first | exact Or.inl (by decide +kernel) | exact Or.inr (Or.inl (by decide +kernel)) | exact Or.inr (Or.inr (by decide +kernel))
theorem l_law_2 : Loc (defScope s_law) "_law_turn" := by first | exact Or.inl (by decide +kernel) | exact Or.inr (by decide +kernel)
theorem v_law_3 : Vis (defScope s_law) "_law_letters_here" := by first | exact Or.inl (by decide +kernel) | exact Or.inr (Or.inl (by decide +kernel)) | exact Or.inr (Or.inr (by decide +kernel))
theorem l_law_3 : Loc (defScope s_law) "_law_letters_here" := by first | exact Or.inl (by decide +kernel) | exact Or.inr (by decide +kernel)
theorem v_law_4 : Vis (defScope s_law) "_law_k" := by first | exact Or.inl (by decide +kernel) | exact Or.inr (Or.inl (by decide +kernel)) | exact Or.inr (Or.inr (by decide +kernel))
theorem l_law_4 : Loc (defScope s_law) "_law_k" := by first | exact Or.inl (by decide +kernel) | exact Or.inr (by decide +kernel)
theorem v_law_5 : Vis (defScope s_law) "_law_book" := by first | exact Or.inl (by decide +kernel) | exact Or.inr (Or.inl (by decide +kernel)) | exact Or.inr (Or.inr (by decide +kernel))
theorem l_law_5 : Loc (defScope s_law) "_law_book" := by first | exact Or.inl (by decide +kernel) | exact Or.inr (by decide +kernel)
theorem v_law_6 : Vis (defScope s_law) "_law_due" := by first | exact Or.inl (by decide +kernel) | exact Or.inr (Or.inl (by decide +kernel)) | exact Or.inr (Or.inr (by decide +kernel))
theorem l_law_6 : Loc (defScope s_law) "_law_due" := by first | exact Or.inl (by decide +kernel) | exact Or.inr (by decide +kernel)
theorem v_law_7 : Vis (defScope s_law) "_law_told" := by first | exact Or.inl (by decide +kernel) | exact Or.inr (Or.inl (by decide +kernel)) | exact Or.inr (Or.inr (by decide +kernel))
theorem l_law_7 : Loc (defScope s_law) "_law_told" := by first | exact Or.inl (by decide +kernel) | exact Or.inr (by decide +kernel)
theorem v_law_8 : Vis (defScope s_law) "_law_left" := by first | exact Or.inl (by decide +kernel) | exact Or.inr (Or.inl (by decide +kernel)) | exact Or.inr (Or.inr (by decide +kernel))
theorem l_law_8 : Loc (defScope s_law) "_law_left" := by first | exact Or.inl (by decide +kernel) | exact Or.inr (by decide +kernel)
theorem v_law_9 : Vis (defScope s_law) "_law_rules_here" := by first | exact Or.inl (by decide +kernel) | exact Or.inr (Or.inl (by decide +kernel)) | exact Or.inr (Or.inr (by decide +kernel))
theorem l_law_9 : Loc (defScope s_law) "_law_rules_here" := by first | exact Or.inl (by decide +kernel) | exact Or.inr (by decide +kernel)
theorem v_law_10 : Vis (defScope s_law) "_law_found" := by first | exact Or.inl (by decide +kernel) | exact Or.inr (Or.inl (by decide +kernel)) | exact Or.inr (Or.inr (by decide +kernel))
theorem l_law_10 : Loc (defScope s_law) "_law_found" := by first | exact Or.inl (by decide +kernel) | exact Or.inr (by decide +kernel)
theorem v_law_11 : Vis (defScope s_law) "_law_word" := by first | exact Or.inl (by decide +kernel) | exact Or.inr (Or.inl (by decide +kernel)) | exact Or.inr (Or.inr (by decide +kernel))
theorem l_law_11 : Loc (defScope s_law) "_law_word" := by first | exact Or.inl (by decide +kernel) | exact Or.inr (by decide +kernel)
theorem v_law_12 : Vis (defScope s_law) "_law_plain" := by first | exact Or.inl (by decide +kernel) | exact Or.inr (Or.inl (by decide +kernel)) | exact Or.inr (Or.inr (by decide +kernel))
theorem l_law_12 : Loc (defScope s_law) "_law_plain" := by first | exact Or.inl (by decide +kernel) | exact Or.inr (by decide +kernel)
noncomputable def b_law : Sn → RS → SR RS := (sSeq (sFor (nD (fRng1 (aCons (fC (.int 4)) aNil))) (.nm 2) (sSeq (sSet 3 (nD (fArgs (lift id (fun _ s => s) F__law_letters) (aCons (fVar 1) aNil))))
    (sSeq (sParK 9 10 (nD (fArgs (lift id (fun _ s => s) F__law_rules) (aCons (fVar 1) (aCons (fVar 3) (aCons (fC (.int 5)) aNil))))))
    (sSeq (sFor (nD (fRng1 (aCons (fArgs (lift id (fun _ s => s) F__law_taken) (aCons (fVar 1) (aCons (fC (.int 9)) aNil))) aNil))) (.nm 4) (sSeq (sSet 11 (nD (fArgs (lift id (fun _ s => s) F__law_text) (aCons (fVar 1) (aCons (fVar 3) (aCons (fC (.int 1)) (aCons (fC (.int 8)) aNil)))))))
    (sSeq (sSet 12 (nD (fArgs (lift (fun _ => ()) (fun s _ => s) F__law_said) (aCons (fTup (aCons (fVar 3) (aCons (fVar 9) (aCons (fTup aNil) aNil)))) (aCons (fVar 11) aNil)))))
    (sPutK 10 (nD (fVar 11)) (nD (fIf (bAnd (asB (f2 (gEq id) (f2 gIx (fVar 12) (fC (.int 0))) (fC (.str [])))) (asB (f2 (gEq id) (fArgs (lift id (fun _ s => s) F__law_taken) (aCons (fVar 1) (aCons (fC (.int 2)) aNil))) (fC (.int 0))))) (f2 gIx (fVar 12) (fC (.int 1))) (fArgs (lift id (fun _ s => s) F__law_text) (aCons (fVar 1) (aCons (fC (.str [65, 66])) (aCons (fC (.int 0)) (aCons (fC (.int 3)) aNil)))))))))))
    (sFrzK 10 (sSeq (sSet 5 (nD (fTup (aCons (fVar 3) (aCons (fVar 9) (aCons (fArgs gTupOf (aCons (f1 gSortIt (fVar 10)) aNil)) aNil))))))
    (sSeq (sSet 6 (nD (fComp (fItems (fArgs gSortK (aCons (fVar 10) aNil))) (.nm 11) [11] (asB (f2 (gEq id) (fArgs (lift (fun _ => ()) (fun s _ => s) F__law_said) (aCons (fTup (aCons (fVar 3) (aCons (fVar 9) (aCons (fTup aNil) aNil)))) (aCons (fVar 11) aNil))) (fTup (aCons (fC (.str [])) (aCons (f2 gGet (fVar 10) (fVar 11)) aNil))))) (fVar 11))))
    (sSeq (sOwn 7 (nD (fArgsL (liftL (fun _ => ()) (fun s _ => s) FL_needless) (aCons (fVar 5) aNil))))
    (sSeq (sIf (pB smR [7] (bNot (asB (fArgs (lift (fun _ => ()) (fun s _ => s) F__law_alike) (aCons (fVar 7) (aCons (fVar 6) aNil)))))) (sRet (nD (fC (.bl false)))) sNil)
    (sSeq (sApp 7 (nD (fC (.str []))))
    (sSeq (sSet 8 (nD (fTup (aCons (fVar 3) (aCons (fVar 9) (aCons (fArgs gTupOf (aCons (fComp (fItems (f2 gIx (fVar 5) (fC (.int 2)))) (.nm 13) [13] (asB (f2 (gIn not) (f2 gIx (fVar 13) (fC (.int 0))) (fVar 6))) (fVar 13)) aNil)) aNil))))))
    (sSeq (sIf (nD (bOr (asB (f2 (gEq not) (fArgs (lift (fun _ => ()) (fun s _ => s) F_needless) (aCons (fVar 5) aNil)) (fVar 6))) (asB (f2 (gEq not) (fArgs (lift (fun _ => ()) (fun s _ => s) F_needless) (aCons (fVar 8) aNil)) (fLst aNil))))) (sRet (nD (fC (.bl false)))) sNil)
    (sIf (nD (asB (f2 (gEq not) (fComp (fKeys (fVar 10)) (.nm 11) [11] (asB (f2 (gEq not) (fArgs (lift (fun _ => ()) (fun s _ => s) F_said) (aCons (fVar 8) (aCons (fVar 11) aNil))) (f2 gGet (fVar 10) (fVar 11)))) (fVar 11)) (fLst aNil)))) (sRet (nD (fC (.bl false)))) sNil)))))))))))))
    (sRet (nD (fC (.bl true)))))
theorem rest_law (T : Txt K mg) {f : Addr} {cdv : Value} (A : Around) (outer : List Env) (s : Shared) (H : Hp) (E : XK) (rho : Nat → Addr) (hr : Room 6 (A.deeper (envOfC "law" (defScope s_law) s.heap.objs.size f cdv))) :
    DSs ⟨rho, T.ca⟩ (rowT K [] ⟨rho, T.ca⟩) (fun c d _ H' => E c d H') (cxOf (L2.CX P wd) P wd K mg base ns_law "law" (defScope s_law) f cdv A outer s H E) (defBody s_law).tail b_law := by
  have hu := hr.units
  have tk : Takes (cxOf (L2.CX P wd) P wd K mg base ns_law "law" (defScope s_law) f cdv A outer s H E) (fun c d _ H => E c d H) := takes_of rfl rfl rfl rfl
  exact (dss_cons (ds_for PassesOwn.leaving rfl (DI.n (di_range1 (by rfl) T.n_range (da_cons de_int da_nil))) (dg_name 2 sc_law.nd rfl (by first | exact Or.inl rfl | exact Or.inr rfl)) (dss_cons (ds_set 3 sc_law.nd rfl l_law_3 (DE.n (de_call Fit.row (ok__law_letters T) (hr.mono (by decide)) (by rfl) T.d__law_letters.g T.d__law_letters.F.kp T.d__law_letters.b tk (da_cons (de_var 1 rfl v_law_1 db__law_row_here cd__law_row_here) da_nil) db__law_letters)))
      (dss_cons (ds_parKC 9 10 rfl sc_law.nd rfl rfl l_law_9 l_law_10 (de_call Fit.row (ok__law_rules T) (hr.mono (by decide)) (by rfl) T.d__law_rules.g T.d__law_rules.F.kp T.d__law_rules.b tk (da_cons (de_var 1 rfl v_law_1 db__law_row_here cd__law_row_here) (da_cons (de_var 3 rfl v_law_3 db__law_letters_here cd__law_letters_here) (da_cons de_int da_nil))) db__law_rules))
      (dss_cons (ds_for PassesOwn.leaving rfl (DI.n (di_range1 (by rfl) T.n_range (da_cons (de_call Fit.row (ok__law_taken T) (hr.mono (by decide)) (by rfl) T.d__law_taken.g T.d__law_taken.F.kp T.d__law_taken.b tk (da_cons (de_var 1 rfl v_law_1 db__law_row_here cd__law_row_here) (da_cons de_int da_nil)) db__law_taken) da_nil))) (dg_name 4 sc_law.nd rfl (by first | exact Or.inl rfl | exact Or.inr rfl)) (dss_cons (ds_set 11 sc_law.nd rfl l_law_11 (DE.n (de_call Fit.row (ok__law_text T) (hr.mono (by decide)) (by rfl) T.d__law_text.g T.d__law_text.F.kp T.d__law_text.b tk (da_cons (de_var 1 rfl v_law_1 db__law_row_here cd__law_row_here) (da_cons (de_var 3 rfl v_law_3 db__law_letters_here cd__law_letters_here) (da_cons de_int (da_cons de_int da_nil)))) db__law_text)))
      (dss_cons (ds_set 12 sc_law.nd rfl l_law_12 (DE.n (de_call Fit.pure (ok__law_said T) (hr.mono (by decide)) (by rfl) T.d__law_said.g T.d__law_said.F.kp T.d__law_said.b tk (da_cons (de_tup (da_cons (de_var 3 rfl v_law_3 db__law_letters_here cd__law_letters_here) (da_cons (de_var 9 rfl v_law_9 db__law_rules_here cd__law_rules_here) (da_cons (de_tup da_nil) da_nil)))) (da_cons (de_var 11 rfl v_law_11 db__law_word cd__law_word) da_nil)) db__law_said)))
      (dss_one (ds_putK 10 hu (DE.n (de_var 11 rfl v_law_11 db__law_word cd__law_word)) (DE.n (de_if (DW.db (dw_and (db_cmp (lf_eq hu) (de_ix (de_var 12 rfl v_law_12 db__law_plain cd__law_plain) de_int) (de_str (l := []))) (dw_and1 (db_cmp (lf_eq hu) (de_call Fit.row (ok__law_taken T) (hr.mono (by decide)) (by rfl) T.d__law_taken.g T.d__law_taken.F.kp T.d__law_taken.b tk (da_cons (de_var 1 rfl v_law_1 db__law_row_here cd__law_row_here) (da_cons de_int da_nil)) db__law_taken) de_int)))) (de_ix (de_var 12 rfl v_law_12 db__law_plain cd__law_plain) de_int) (de_call Fit.row (ok__law_text T) (hr.mono (by decide)) (by rfl) T.d__law_text.g T.d__law_text.F.kp T.d__law_text.b tk (da_cons (de_var 1 rfl v_law_1 db__law_row_here cd__law_row_here) (da_cons (de_str (l := [65, 66])) (da_cons de_int (da_cons de_int da_nil)))) db__law_text))) rfl v_law_10 db__law_found cd__law_found)))))
      (dss_frzK 10 (dss_cons (ds_set 5 sc_law.nd rfl l_law_5 (DE.n (de_tup (da_cons (de_var 3 rfl v_law_3 db__law_letters_here cd__law_letters_here) (da_cons (de_var 9 rfl v_law_9 db__law_rules_here cd__law_rules_here) (da_cons (de_callT cl_tuple (by rfl) T.n_tuple bt_tuple (da_cons (de_sortItems rfl hu (de_var 10 rfl v_law_10 db__law_found cd__law_found) (by rfl) T.n_sorted) da_nil) nn_tuple db_tuple) da_nil))))))
      (dss_cons (ds_set 6 sc_law.nd rfl l_law_6 (DE.n (de_comp [("_law_word", 11)] rfl sc_law.nd (blkOk_by (N := ns_law) (sc := _) (show blkC ns_law (defScope s_law) _ _ = true by decide +kernel)) (di_val (de_callB (cl_sortK rfl) (by rfl) T.n_sorted bt_sorted (da_cons (de_var 10 rfl v_law_10 db__law_found cd__law_found) da_nil) nn_sorted db_sorted)) (fun _ _ _ _ _ => (dg_name 11 sc_law.nd rfl (by first | exact Or.inl rfl | exact Or.inr rfl))) (fun _ _ _ _ _ => (dts_one (db_cmp (lf_eq hu) (de_call Fit.pure (ok__law_said T) (hr.mono (by decide)) (by rfl) T.d__law_said.g T.d__law_said.F.kp T.d__law_said.b takes0 (da_cons (de_tup (da_cons (de_var 3 rfl (by first | exact Or.inl rfl | exact Or.inr (Or.inl rfl) | exact Or.inr (Or.inr rfl)) db__law_letters_here cd__law_letters_here) (da_cons (de_var 9 rfl (by first | exact Or.inl rfl | exact Or.inr (Or.inl rfl) | exact Or.inr (Or.inr rfl)) db__law_rules_here cd__law_rules_here) (da_cons (de_tup da_nil) da_nil)))) (da_cons (de_var 11 rfl (by first | exact Or.inl rfl | exact Or.inr (Or.inl rfl) | exact Or.inr (Or.inr rfl)) db__law_word cd__law_word) da_nil)) db__law_said) (de_tup (da_cons (de_str (l := [])) (da_cons (de_dget hu (de_var 10 rfl (by first | exact Or.inl rfl | exact Or.inr (Or.inl rfl) | exact Or.inr (Or.inr rfl)) db__law_found cd__law_found) (de_var 11 rfl (by first | exact Or.inl rfl | exact Or.inr (Or.inl rfl) | exact Or.inr (Or.inr rfl)) db__law_word cd__law_word)) da_nil)))))) (fun _ _ _ _ _ => (de_var 11 rfl (by first | exact Or.inl rfl | exact Or.inr (Or.inl rfl) | exact Or.inr (Or.inr rfl)) db__law_word cd__law_word)))))
      (dss_cons (ds_own 7 sc_law.nd rfl l_law_7 (dl_call FitL.pure (okL_needless T) (hr.mono (by decide)) (by rfl) T.d_needless.g T.d_needless.F.kp T.d_needless.b tk (da_cons (de_var 5 rfl v_law_5 db__law_book cd__law_book) da_nil) db_needless))
      (dss_cons (ds_if (DB.peek bkT [7] (db_not (db_val (de_call Fit.pure (ok__law_alike T) (hr.mono (by decide)) (by rfl) T.d__law_alike.g T.d__law_alike.F.kp T.d__law_alike.b tk (da_cons (de_var 7 rfl v_law_7 db__law_told cd__law_told) (da_cons (de_var 6 rfl v_law_6 db__law_due cd__law_due) da_nil)) db__law_alike)))) (dss_one (ds_ret (DE.n de_bl))) dss_nil)
      (dss_cons (ds_app 7 (DE.n (de_str (l := []))) rfl v_law_7 db__law_told cd__law_told)
      (dss_cons (ds_set 8 sc_law.nd rfl l_law_8 (DE.n (de_tup (da_cons (de_var 3 rfl v_law_3 db__law_letters_here cd__law_letters_here) (da_cons (de_var 9 rfl v_law_9 db__law_rules_here cd__law_rules_here) (da_cons (de_callT cl_tuple (by rfl) T.n_tuple bt_tuple (da_cons (de_comp [("_law_one", 13)] rfl sc_law.nd (blkOk_by (N := ns_law) (sc := _) (show blkC ns_law (defScope s_law) _ _ = true by decide +kernel)) (di_val (de_ix (de_var 5 rfl v_law_5 db__law_book cd__law_book) de_int)) (fun _ _ _ _ _ => (dg_name 13 sc_law.nd rfl (by first | exact Or.inl rfl | exact Or.inr rfl))) (fun _ _ _ _ _ => (dts_one (db_cmp lf_notin (de_ix (de_var 13 rfl (by first | exact Or.inl rfl | exact Or.inr (Or.inl rfl) | exact Or.inr (Or.inr rfl)) db__law_one cd__law_one) de_int) (de_var 6 rfl (by first | exact Or.inl rfl | exact Or.inr (Or.inl rfl) | exact Or.inr (Or.inr rfl)) db__law_due cd__law_due)))) (fun _ _ _ _ _ => (de_var 13 rfl (by first | exact Or.inl rfl | exact Or.inr (Or.inl rfl) | exact Or.inr (Or.inr rfl)) db__law_one cd__law_one))) da_nil) nn_tuple db_tuple) da_nil))))))
      (dss_cons (ds_if (DB.n (DW.db (dw_or (db_cmp (lf_ne hu) (de_call Fit.pure (ok_needless T) (hr.mono (by decide)) (by rfl) T.d_needless.g T.d_needless.F.kp T.d_needless.b tk (da_cons (de_var 5 rfl v_law_5 db__law_book cd__law_book) da_nil) db_needless) (de_var 6 rfl v_law_6 db__law_due cd__law_due)) (dw_or1 (db_cmp (lf_ne hu) (de_call Fit.pure (ok_needless T) (hr.mono (by decide)) (by rfl) T.d_needless.g T.d_needless.F.kp T.d_needless.b tk (da_cons (de_var 8 rfl v_law_8 db__law_left cd__law_left) da_nil) db_needless) (de_lst da_nil)))))) (dss_one (ds_ret (DE.n de_bl))) dss_nil)
      (dss_one (ds_if (DB.n (db_cmp (lf_ne hu) (de_comp [("_law_word", 11)] rfl sc_law.nd (blkOk_by (N := ns_law) (sc := _) (show blkC ns_law (defScope s_law) _ _ = true by decide +kernel)) (di_keys (de_var 10 rfl v_law_10 db__law_found cd__law_found)) (fun _ _ _ _ _ => (dg_name 11 sc_law.nd rfl (by first | exact Or.inl rfl | exact Or.inr rfl))) (fun _ _ _ _ _ => (dts_one (db_cmp (lf_ne hu) (de_call Fit.pure (ok_said T) (hr.mono (by decide)) (by rfl) T.d_said.g T.d_said.F.kp T.d_said.b takes0 (da_cons (de_var 8 rfl (by first | exact Or.inl rfl | exact Or.inr (Or.inl rfl) | exact Or.inr (Or.inr rfl)) db__law_left cd__law_left) (da_cons (de_var 11 rfl (by first | exact Or.inl rfl | exact Or.inr (Or.inl rfl) | exact Or.inr (Or.inr rfl)) db__law_word cd__law_word) da_nil)) db_said) (de_dget hu (de_var 10 rfl (by first | exact Or.inl rfl | exact Or.inr (Or.inl rfl) | exact Or.inr (Or.inr rfl)) db__law_found cd__law_found) (de_var 11 rfl (by first | exact Or.inl rfl | exact Or.inr (Or.inl rfl) | exact Or.inr (Or.inr rfl)) db__law_word cd__law_word))))) (fun _ _ _ _ _ => (de_var 11 rfl (by first | exact Or.inl rfl | exact Or.inr (Or.inl rfl) | exact Or.inr (Or.inr rfl)) db__law_word cd__law_word))) (de_lst da_nil))) (dss_one (ds_ret (DE.n de_bl))) dss_nil))))))))))))))
      (dss_one (ds_ret (DE.n de_bl))))
-- level of the law: 7
end
end Yk15
namespace Yk15
open PySem L2 Dm
theorem F_sign_at_eq (w : List Nat) (p : Int) (s : Unit) (hw : w.length ≤ sizeLine) : F_sign_at [.str w, .int p] s = .ok (.str [sgn w p]) s := by
  by_cases h0 : 0 ≤ p
  · by_cases h1 : p < w.length
    · obtain ⟨n, rfl⟩ := Int.eq_ofNat_of_zero_le h0
      have hn : n < w.length := by omega
      have e1 : L2.atI w (n : Int) = some w[n] := by rw [atI_eq, List.getElem?_eq_getElem hn]
      have e2 : sgn w (n : Int) = w[n] := by
        unfold sgn
        rw [if_pos ⟨h0, h1⟩, Int.toNat_natCast]
        simp [hn]
      simp [F_sign_at, b_sign_at, fnF, fnL, startN, hide, hideO, nD, bindS, R.bind, R.calm, sRet, sRetN, sRetO, sRetL, sSet, sSeq, sNil, sIf, sDrop, sPar, sTup, sOwn, sNewL, sApp, sAug, sFrz, sRaise, setTn, setT, setAll, fVar, fC, f1, f2, asB, fAnd, fOr, fNot, bAnd, bOr, bNot, bYes, fIf, fChain, fTup, fLst, fArgs, fArgsL, aCons, aNil, gLen, gIsi, isD, gOrd, gInt, gIx, gSl, fSl, oNone, oSome, fItems, itemsOf, lift, liftL, fErr1, fErr2, hw, h0, h1, e1, e2]
    · have e2 : sgn w p = 35 := by
        unfold sgn
        rw [if_neg fun z => h1 z.2]
      simp [F_sign_at, b_sign_at, fnF, fnL, startN, hide, hideO, nD, bindS, R.bind, R.calm, sRet, sRetN, sRetO, sRetL, sSet, sSeq, sNil, sIf, sDrop, sPar, sTup, sOwn, sNewL, sApp, sAug, sFrz, sRaise, setTn, setT, setAll, fVar, fC, f1, f2, asB, fAnd, fOr, fNot, bAnd, bOr, bNot, bYes, fIf, fChain, fTup, fLst, fArgs, fArgsL, aCons, aNil, gLen, gIsi, isD, gOrd, gInt, gIx, gSl, fSl, oNone, oSome, fItems, itemsOf, lift, liftL, fErr1, fErr2, hw, h0, h1, e2]
  · have e2 : sgn w p = 35 := by
      unfold sgn
      rw [if_neg fun z => h0 z.1]
    simp [F_sign_at, b_sign_at, fnF, fnL, startN, hide, hideO, nD, bindS, R.bind, R.calm, sRet, sRetN, sRetO, sRetL, sSet, sSeq, sNil, sIf, sDrop, sPar, sTup, sOwn, sNewL, sApp, sAug, sFrz, sRaise, setTn, setT, setAll, fVar, fC, f1, f2, asB, fAnd, fOr, fNot, bAnd, bOr, bNot, bYes, fIf, fChain, fTup, fLst, fArgs, fArgsL, aCons, aNil, gLen, gIsi, isD, gOrd, gInt, gIx, gSl, fSl, oNone, oSome, fItems, itemsOf, lift, liftL, fErr1, fErr2, hw, h0, e2]
theorem F_is_of_eq (part signs : List Nat) (lo hi : Int) (s : Unit) (hp : part.length ≤ sizeLine) : F_is_of [.str part, .str signs, .int lo, .int hi] s = .ok (.bl (decide (lo ≤ part.length) && (decide ((part.length : Int) ≤ hi) && part.all fun c => decide (c ∈ signs)))) s := by
  have comp : ∀ η : En, η[1]? = some (some (.str signs)) → 4 < η.length → compL (.nm 4) bYes (f2 (gIn id) (fVar 4) (fVar 1)) η (Dm.signs part) s = .ok (part.map fun c => .bl (decide (c ∈ signs))) s := by
    intro η h1 h4
    have := compL_pure (T := .nm 4) (c := bYes) (e := f2 (gIn id) (fVar 4) (fVar 1)) (η := η) (s := s) (fun _ => true) (fun x => .bl (match x with | .str [c] => decide (c ∈ signs) | _ => false)) (Dm.signs part) fun x hx => by
      obtain ⟨c, _, rfl⟩ := List.mem_map.mp hx
      refine ⟨η.set 4 (some (.str [c])), by simp [setT, setAll, h4], rfl, fun _ => ?_⟩
      have e4 : (η.set 4 (some (.str [c])))[4]? = some (some (.str [c])) := List.getElem?_set_self h4
      have e1 : (η.set 4 (some (.str [c])))[1]? = some (some (.str signs)) := by rw [List.getElem?_set_ne (by decide)]; exact h1
      simp only [f2, fVar, e4, e1, R.bind, gIn, id]
    rw [this, List.filter_eq_self.mpr fun _ _ => rfl]
    unfold Dm.signs
    rw [List.map_map]
    rfl
  have hls : (Dm.signs part).length ≤ sizeLine := by unfold Dm.signs; rw [List.length_map]; exact hp
  by_cases h0 : lo ≤ part.length
  · by_cases h1 : (part.length : Int) ≤ hi
    · have c2 := comp (wipeE [some (.str part), some (.str signs), some (.int lo), some (.int hi), none] [4]) rfl (by simp [wipeE])
      simp [F_is_of, b_is_of, fnF, fnL, startN, hide, hideO, nD, bindS, R.bind, R.calm, sRet, sRetN, sRetO, sRetL, sSet, sSeq, sNil, sIf, sDrop, sPar, sTup, sOwn, sNewL, sApp, sAug, sFrz, sRaise, setTn, setT, setAll, fVar, fC, f1, f2, asB, fAnd, fOr, fNot, bAnd, bOr, bNot, bYes, fIf, fChain, fTup, fLst, fArgs, fArgsL, aCons, aNil, gLen, gIsi, isD, gOrd, gInt, gIx, gSl, fSl, oNone, oSome, fItems, itemsOf, lift, liftL, fErr1, fErr2, hp, hls, h0, h1, fComp, c2, gAll, blsOf_map, -List.all_map, all_map_id]
    · simp [F_is_of, b_is_of, fnF, fnL, startN, hide, hideO, nD, bindS, R.bind, R.calm, sRet, sRetN, sRetO, sRetL, sSet, sSeq, sNil, sIf, sDrop, sPar, sTup, sOwn, sNewL, sApp, sAug, sFrz, sRaise, setTn, setT, setAll, fVar, fC, f1, f2, asB, fAnd, fOr, fNot, bAnd, bOr, bNot, bYes, fIf, fChain, fTup, fLst, fArgs, fArgsL, aCons, aNil, gLen, gIsi, isD, gOrd, gInt, gIx, gSl, fSl, oNone, oSome, fItems, itemsOf, lift, liftL, fErr1, fErr2, hp, h0, h1]
  · simp [F_is_of, b_is_of, fnF, fnL, startN, hide, hideO, nD, bindS, R.bind, R.calm, sRet, sRetN, sRetO, sRetL, sSet, sSeq, sNil, sIf, sDrop, sPar, sTup, sOwn, sNewL, sApp, sAug, sFrz, sRaise, setTn, setT, setAll, fVar, fC, f1, f2, asB, fAnd, fOr, fNot, bAnd, bOr, bNot, bYes, fIf, fChain, fTup, fLst, fArgs, fArgsL, aCons, aNil, gLen, gIsi, isD, gOrd, gInt, gIx, gSl, fSl, oNone, oSome, fItems, itemsOf, lift, liftL, fErr1, fErr2, hp, h0]
theorem F_is_rising_eq (x : List Nat) (s : Unit) (hx : x.length ≤ 1000000) : F_is_rising [.str x] s = .ok (.bl (risB x)) s := by
  have hz : x.length ≤ sizeLine := Nat.le_trans hx (by decide)
  have comp : ∀ η : En, η[0]? = some (some (.str x)) → 1 < η.length → compL (.nm 1) bYes (f2 gLt (f2 gIx (fVar 0) (fVar 1)) (f2 gIx (fVar 0) (f2 gAdd (fVar 1) (fC (.int 1))))) η (rngD 0 (x.length - 1)) s = .ok ((List.range (x.length - 1)).map fun k => .bl (decide ([x.getD k 0] < [x.getD (k + 1) 0]))) s := by
    intro η h0 h1
    rw [rngD_zero]
    have := compL_pure (T := .nm 1) (c := bYes) (e := f2 gLt (f2 gIx (fVar 0) (fVar 1)) (f2 gIx (fVar 0) (f2 gAdd (fVar 1) (fC (.int 1))))) (η := η) (s := s) (fun _ => true) (fun d => .bl (match d with | .int k => decide ([x.getD k.toNat 0] < [x.getD (k.toNat + 1) 0]) | _ => false)) ((List.range (x.length - 1)).map fun k : Nat => D.int k) fun d hd => by
      obtain ⟨k, hk, rfl⟩ := List.mem_map.mp hd
      rw [List.mem_range] at hk
      refine ⟨η.set 1 (some (.int k)), by simp [setT, setAll, h1], rfl, fun _ => ?_⟩
      have e1 : (η.set 1 (some (D.int k)))[1]? = some (some (.int k)) := List.getElem?_set_self h1
      have e0 : (η.set 1 (some (D.int k)))[0]? = some (some (.str x)) := by rw [List.getElem?_set_ne (by decide)]; exact h0
      have k1 : k < x.length := by omega
      have k2 : k + 1 < x.length := by omega
      have a1 : L2.atI x (k : Int) = some x[k] := by rw [atI_eq, List.getElem?_eq_getElem k1]
      have a2 : L2.atI x ((k : Int) + 1) = some x[k + 1] := by rw [show (k : Int) + 1 = ((k + 1 : Nat) : Int) by omega, atI_eq, List.getElem?_eq_getElem k2]
      simp only [f2, fVar, e0, e1, R.bind, gIx, hz, if_true, a1, fC, gAdd, a2, gOrd, Int.toNat_natCast]
      simp [k1, k2]
    rw [this, List.filter_eq_self.mpr fun _ _ => rfl, List.map_map]
    rfl
  have hr : ((x.length : Int) - 1).toNat = x.length - 1 := by omega
  have ok1 : okR ((x.length : Int) - 1) = true := by
    unfold okR
    rw [decide_eq_true]
    constructor <;> omega
  have hl : (rngD 0 (x.length - 1)).length ≤ sizeLine := by rw [rngD_len]; omega
  have c2 := comp (wipeE [some (.str x), none] [1]) rfl (by simp [wipeE])
  simp [F_is_rising, b_is_rising, fnF, fnL, startN, hide, hideO, nD, bindS, R.bind, R.calm, sRet, sRetN, sRetO, sRetL, sSet, sSeq, sNil, sIf, sDrop, sPar, sTup, sOwn, sNewL, sApp, sAug, sFrz, sRaise, setTn, setT, setAll, fVar, fC, f1, f2, asB, fAnd, fOr, fNot, bAnd, bOr, bNot, bYes, fIf, fChain, fTup, fLst, fArgs, fArgsL, aCons, aNil, gLen, gIsi, isD, gOrd, gInt, gIx, gSl, fSl, oNone, oSome, fItems, itemsOf, lift, liftL, fErr1, fErr2, hz, fComp, fRng1, ok1, hr, hl, c2, gAll, blsOf_map, -List.all_map, all_map_id, risB]
theorem F_is_of' (part signs : List Nat) (lo hi : Int) (s : Unit) (hp : part.length ≤ sizeLine) : F_is_of [.str part, .str signs, .int lo, .int hi] s = .ok (.bl (ofB part signs lo hi)) s := F_is_of_eq part signs lo hi s hp
theorem F_is_side_eq (part L : List Nat) (s : Unit) (hp : part.length ≤ 1000000) (hL : L.length ≤ 1000) : F_is_side [.str part, .str L] s = .ok (.bl (sideB part L)) s := by
  have e1 := F_is_of' part (35 :: L) 0 5 s (short_sz hp)
  have e2 := F_is_rising_eq part s hp
  have hz : L.length + 1 ≤ sizeLine := Nat.le_trans (Nat.succ_le_succ hL) (by decide)
  cases h : ofB part (35 :: L) 0 5 with
  | true => simp [F_is_side, b_is_side, fnF, fnL, startN, hide, hideO, nD, bindS, R.bind, R.calm, sRet, sRetN, sRetO, sRetL, sSet, sSeq, sNil, sIf, sDrop, sPar, sTup, sOwn, sNewL, sApp, sAug, sFrz, sRaise, setTn, setT, setAll, fVar, fC, f1, f2, asB, fAnd, fOr, fNot, bAnd, bOr, bNot, bYes, fIf, fChain, fTup, fLst, fArgs, fArgsL, aCons, aNil, gLen, gIsi, isD, gOrd, gInt, gIx, gSl, fSl, oNone, oSome, fItems, itemsOf, lift, liftL, fErr1, fErr2, gAdd, hz, Nat.add_comm, e1, e2, h, sideB]
  | false => simp [F_is_side, b_is_side, fnF, fnL, startN, hide, hideO, nD, bindS, R.bind, R.calm, sRet, sRetN, sRetO, sRetL, sSet, sSeq, sNil, sIf, sDrop, sPar, sTup, sOwn, sNewL, sApp, sAug, sFrz, sRaise, setTn, setT, setAll, fVar, fC, f1, f2, asB, fAnd, fOr, fNot, bAnd, bOr, bNot, bYes, fIf, fChain, fTup, fLst, fArgs, fArgsL, aCons, aNil, gLen, gIsi, isD, gOrd, gInt, gIx, gSl, fSl, oNone, oSome, fItems, itemsOf, lift, liftL, fErr1, fErr2, gAdd, hz, Nat.add_comm, e1, h, sideB]
theorem F_is_letters_eq (L : List Nat) (s : Unit) (hp : L.length ≤ 1000000) : F_is_letters [.str L] s = .ok (.bl (lettersB L)) s := by
  have e1 := F_is_of' L SIGN 2 4 s (short_sz hp)
  have e2 := F_is_rising_eq L s hp
  cases h : ofB L SIGN 2 4 with
  | true => simp [F_is_letters, b_is_letters, fnF, fnL, startN, hide, hideO, nD, bindS, R.bind, R.calm, sRet, sRetN, sRetO, sRetL, sSet, sSeq, sNil, sIf, sDrop, sPar, sTup, sOwn, sNewL, sApp, sAug, sFrz, sRaise, setTn, setT, setAll, fVar, fC, f1, f2, asB, fAnd, fOr, fNot, bAnd, bOr, bNot, bYes, fIf, fChain, fTup, fLst, fArgs, fArgsL, aCons, aNil, gLen, gIsi, isD, gOrd, gInt, gIx, gSl, fSl, oNone, oSome, fItems, itemsOf, lift, liftL, fErr1, fErr2, e1, e2, h, lettersB]
  | false => simp [F_is_letters, b_is_letters, fnF, fnL, startN, hide, hideO, nD, bindS, R.bind, R.calm, sRet, sRetN, sRetO, sRetL, sSet, sSeq, sNil, sIf, sDrop, sPar, sTup, sOwn, sNewL, sApp, sAug, sFrz, sRaise, setTn, setT, setAll, fVar, fC, f1, f2, asB, fAnd, fOr, fNot, bAnd, bOr, bNot, bYes, fIf, fChain, fTup, fLst, fArgs, fArgsL, aCons, aNil, gLen, gIsi, isD, gOrd, gInt, gIx, gSl, fSl, oNone, oSome, fItems, itemsOf, lift, liftL, fErr1, fErr2, e1, h, lettersB]
theorem F_is_rule_eq (L : List Nat) (r : Rl) (s : Unit) (hr : r.short) (hL : L.length ≤ 1000) : F_is_rule [dR r, .str L] s = .ok (.bl (ruleB L r)) s := by
  obtain ⟨h1, h2, h3, h4⟩ := hr
  have e1 := F_is_of' r.o L 1 2 s (short_sz h2)
  have e2 := F_is_side_eq r.a L s h1 hL
  have e3 := F_is_side_eq r.b L s h3 hL
  have e4 := F_is_of' r.s SOUND 0 3 s (short_sz h4)
  have a0 : L2.atI [D.str r.a, D.str r.o, D.str r.b, D.str r.s] 0 = some (.str r.a) := rfl
  have a1 : L2.atI [D.str r.a, D.str r.o, D.str r.b, D.str r.s] 1 = some (.str r.o) := rfl
  have a2 : L2.atI [D.str r.a, D.str r.o, D.str r.b, D.str r.s] 2 = some (.str r.b) := rfl
  have a3 : L2.atI [D.str r.a, D.str r.o, D.str r.b, D.str r.s] 3 = some (.str r.s) := rfl
  cases c1 : ofB r.o L 1 2 with
  | false => simp [F_is_rule, b_is_rule, fnF, fnL, startN, hide, hideO, nD, bindS, R.bind, R.calm, sRet, sRetN, sRetO, sRetL, sSet, sSeq, sNil, sIf, sDrop, sPar, sTup, sOwn, sNewL, sApp, sAug, sFrz, sRaise, setTn, setT, setAll, fVar, fC, f1, f2, asB, fAnd, fOr, fNot, bAnd, bOr, bNot, bYes, fIf, fChain, fTup, fLst, fArgs, fArgsL, aCons, aNil, gLen, gIsi, isD, gOrd, gInt, gIx, gSl, fSl, oNone, oSome, fItems, itemsOf, lift, liftL, fErr1, fErr2, dR, a1, e1, c1, ruleB, gEq, okE, okD, depD, eqD]
  | true =>
    cases c2 : sideB r.a L with
    | false => simp [F_is_rule, b_is_rule, fnF, fnL, startN, hide, hideO, nD, bindS, R.bind, R.calm, sRet, sRetN, sRetO, sRetL, sSet, sSeq, sNil, sIf, sDrop, sPar, sTup, sOwn, sNewL, sApp, sAug, sFrz, sRaise, setTn, setT, setAll, fVar, fC, f1, f2, asB, fAnd, fOr, fNot, bAnd, bOr, bNot, bYes, fIf, fChain, fTup, fLst, fArgs, fArgsL, aCons, aNil, gLen, gIsi, isD, gOrd, gInt, gIx, gSl, fSl, oNone, oSome, fItems, itemsOf, lift, liftL, fErr1, fErr2, dR, a0, a1, e1, c1, e2, c2, ruleB, gEq, okE, okD, depD, eqD]
    | true =>
      cases c3 : sideB r.b L with
      | false => simp [F_is_rule, b_is_rule, fnF, fnL, startN, hide, hideO, nD, bindS, R.bind, R.calm, sRet, sRetN, sRetO, sRetL, sSet, sSeq, sNil, sIf, sDrop, sPar, sTup, sOwn, sNewL, sApp, sAug, sFrz, sRaise, setTn, setT, setAll, fVar, fC, f1, f2, asB, fAnd, fOr, fNot, bAnd, bOr, bNot, bYes, fIf, fChain, fTup, fLst, fArgs, fArgsL, aCons, aNil, gLen, gIsi, isD, gOrd, gInt, gIx, gSl, fSl, oNone, oSome, fItems, itemsOf, lift, liftL, fErr1, fErr2, dR, a0, a1, a2, e1, c1, e2, c2, e3, c3, ruleB, gEq, okE, okD, depD, eqD]
      | true => simp [F_is_rule, b_is_rule, fnF, fnL, startN, hide, hideO, nD, bindS, R.bind, R.calm, sRet, sRetN, sRetO, sRetL, sSet, sSeq, sNil, sIf, sDrop, sPar, sTup, sOwn, sNewL, sApp, sAug, sFrz, sRaise, setTn, setT, setAll, fVar, fC, f1, f2, asB, fAnd, fOr, fNot, bAnd, bOr, bNot, bYes, fIf, fChain, fTup, fLst, fArgs, fArgsL, aCons, aNil, gLen, gIsi, isD, gOrd, gInt, gIx, gSl, fSl, oNone, oSome, fItems, itemsOf, lift, liftL, fErr1, fErr2, dR, a0, a1, a2, a3, e1, c1, e2, c2, e3, c3, e4, ruleB, gEq, okE, okD, depD, eqD]
theorem F_is_exception_eq (L : List Nat) (x : List Nat × List Nat) (s : Unit) (h1 : x.1.length ≤ 1000000) (h2 : x.2.length ≤ 1000000) : F_is_exception [dX x, .str L] s = .ok (.bl (excB L x)) s := by
  have e1 := F_is_of' x.1 L 1 8 s (short_sz h1)
  have e4 := F_is_of' x.2 SOUND 0 36 s (short_sz h2)
  have a0 : L2.atI [D.str x.1, D.str x.2] 0 = some (.str x.1) := rfl
  have a1 : L2.atI [D.str x.1, D.str x.2] 1 = some (.str x.2) := rfl
  cases c1 : ofB x.1 L 1 8 with
  | false => simp [F_is_exception, b_is_exception, fnF, fnL, startN, hide, hideO, nD, bindS, R.bind, R.calm, sRet, sRetN, sRetO, sRetL, sSet, sSeq, sNil, sIf, sDrop, sPar, sTup, sOwn, sNewL, sApp, sAug, sFrz, sRaise, setTn, setT, setAll, fVar, fC, f1, f2, asB, fAnd, fOr, fNot, bAnd, bOr, bNot, bYes, fIf, fChain, fTup, fLst, fArgs, fArgsL, aCons, aNil, gLen, gIsi, isD, gOrd, gInt, gIx, gSl, fSl, oNone, oSome, fItems, itemsOf, lift, liftL, fErr1, fErr2, dX, a0, a1, e1, c1, excB, gEq, okE, okD, depD, eqD]
  | true => simp [F_is_exception, b_is_exception, fnF, fnL, startN, hide, hideO, nD, bindS, R.bind, R.calm, sRet, sRetN, sRetO, sRetL, sSet, sSeq, sNil, sIf, sDrop, sPar, sTup, sOwn, sNewL, sApp, sAug, sFrz, sRaise, setTn, setT, setAll, fVar, fC, f1, f2, asB, fAnd, fOr, fNot, bAnd, bOr, bNot, bYes, fIf, fChain, fTup, fLst, fArgs, fArgsL, aCons, aNil, gLen, gIsi, isD, gOrd, gInt, gIx, gSl, fSl, oNone, oSome, fItems, itemsOf, lift, liftL, fErr1, fErr2, dX, a0, a1, e1, c1, e4, excB, gEq, okE, okD, depD, eqD]
theorem F_need_word_eq (L w : List Nat) (s : Unit) (hw : w.length ≤ 1000000) (h : ofB w L 0 12 = true) : F_need_word [.str L, .str w] s = .ok .non s := by
  have e := F_is_of' w L 0 12 s (short_sz hw)
  simp [F_need_word, b_need_word, fnF, fnL, startN, hide, hideO, nD, bindS, R.bind, R.calm, sRet, sRetN, sRetO, sRetL, sSet, sSeq, sNil, sIf, sDrop, sPar, sTup, sOwn, sNewL, sApp, sAug, sFrz, sRaise, setTn, setT, setAll, fVar, fC, f1, f2, asB, fAnd, fOr, fNot, bAnd, bOr, bNot, bYes, fIf, fChain, fTup, fLst, fArgs, fArgsL, aCons, aNil, gLen, gIsi, isD, gOrd, gInt, gIx, gSl, fSl, oNone, oSome, fItems, itemsOf, lift, liftL, fErr1, fErr2, e, h]
theorem F_need_rules_eq (L : List Nat) (rs : List Rl) (s : Unit) (hL : L.length ≤ 1000) (h1 : lettersB L = true) (h2 : rs.length ≤ 12) (h3 : ∀ r ∈ rs, r.short ∧ ruleB L r = true) : F_need_rules [.str L, .tup (rs.map dR)] s = .ok .non s := by
  have e1 := F_is_letters_eq L s (by omega)
  obtain ⟨ε', s', e2, hε⟩ := forL_inv (T := .tp [2, 3]) (b := sIf (nD (bOr (asB (f2 (gEq id) (fVar 2) (fC (.int 12)))) (bNot (asB (fArgs (lift (fun _ => ()) (fun s _ => s) F_is_rule) (aCons (fVar 3) (aCons (fVar 0) aNil))))))) (sRaise (fErr2 .book "part" "number" (aCons (fC (.int 1)) (aCons (fVar 2) aNil)))) sNil)
    (fun _ ε s' => s' = s ∧ ∃ x y, ε = [some (.d (.str L)), some (.d (.tup (rs.map dR))), x, y]) (pairs 0 (rs.map dR)) 0 [some (.d (.str L)), some (.d (.tup (rs.map dR))), none, none] s ⟨rfl, none, none, rfl⟩ (by
      rintro i d ε s1 hd ⟨rfl, x, y, rfl⟩
      obtain ⟨z, hz, rfl⟩ := pairs_at _ _ _ _ hd
      rw [List.getElem?_map] at hz
      cases hr : rs[i]? with
      | none => rw [hr] at hz; cases hz
      | some r =>
        rw [hr] at hz
        cases hz
        have hi := (List.getElem?_eq_some_iff.mp hr).1
        obtain ⟨q1, q2⟩ := h3 r (List.mem_of_getElem? hr)
        have e3 := F_is_rule_eq L r s1 q1 hL
        have ni : ¬ ((0 + i : Nat) : Int) = 12 := by omega
        refine ⟨[some (.d (.str L)), some (.d (.tup (rs.map dR))), some (.d (.int ((0 + i : Nat) : Int))), some (.d (dR r))], by simp [setTn], [some (.d (.str L)), some (.d (.tup (rs.map dR))), some (.d (.int ((0 + i : Nat) : Int))), some (.d (dR r))], s1, ?_, rfl, _, _, rfl⟩
        have e4 : okE (.int ((0 + i : Nat) : Int)) = true := rfl
        have e5 : okE (.int 12) = true := rfl
        have e6 : eqD (.int ((0 + i : Nat) : Int)) (.int 12) = false := by simp only [eqD]; exact decide_eq_false ni
        simp only [sIf, nD, bOr, asB, f2, hide, hideO, List.map, fVar, fC, R.bind, gEq, e4, e5, e6, and_self, if_true, id, bNot, fArgs, aCons, aNil, lift, bindS, List.getElem?_cons_zero, List.getElem?_cons_succ, e3, q2, Bool.not_true, sNil])
  obtain ⟨rfl, _⟩ := hε
  simp [F_need_rules, b_need_rules, fnF, fnL, startN, hide, hideO, nD, bindS, R.bind, R.calm, sRet, sRetN, sRetO, sRetL, sSet, sSeq, sNil, sIf, sDrop, sPar, sTup, sOwn, sNewL, sApp, sAug, sFrz, sRaise, setTn, setT, setAll, fVar, fC, f1, f2, asB, fAnd, fOr, fNot, bAnd, bOr, bNot, bYes, fIf, fChain, fTup, fLst, fArgs, fArgsL, aCons, aNil, gLen, gIsi, isD, gOrd, gInt, gIx, gSl, fSl, oNone, oSome, fItems, itemsOf, lift, liftL, fErr1, fErr2, e1, h1, sFor, fEnum, e2]
theorem F_need_book_eq (L : List Nat) (rs : List Rl) (xs : List (List Nat × List Nat)) (s : Unit) (hL : L.length ≤ 1000) (h1 : lettersB L = true) (h2 : rs.length ≤ 12) (h3 : ∀ r ∈ rs, r.short ∧ ruleB L r = true)
    (h4 : xs.length ≤ 8) (h5 : ∀ x ∈ xs, x.1.length ≤ 1000000 ∧ x.2.length ≤ 1000000 ∧ x.1 ≠ [] ∧ excB L x = true) (h6 : xs.Pairwise (fun a b => a.1 < b.1)) : F_need_book [dB L rs xs] s = .ok .non s := by
  have e1 := F_need_rules_eq L rs s hL h1 h2 h3
  obtain ⟨ε', s', e2, hε⟩ := forL_inv (T := .tp [5, 6]) (b := sSeq (sIf (nD (bOr (asB (f2 (gEq id) (fVar 5) (fC (.int 8)))) (bOr (bNot (asB (fArgs (lift (fun _ => ()) (fun s _ => s) F_is_exception) (aCons (fVar 6) (aCons (fVar 2) aNil))))) (asB (f2 gLe (f2 gIx (fVar 6) (fC (.int 0))) (fVar 1)))))) (sRaise (fErr2 .book "part" "number" (aCons (fC (.int 2)) (aCons (fVar 5) aNil)))) sNil)
      (sSet 1 (nD (f2 gIx (fVar 6) (fC (.int 0))))))
    (fun i ε s' => s' = s ∧ ∃ (a : List Nat) (x y : Option O), (∀ j z, xs[j]? = some z → i ≤ j → a < z.1) ∧ ε = [some (.d (dB L rs xs)), some (.d (.str a)), some (.d (.str L)), some (.d (.tup (rs.map dR))), some (.d (.tup (xs.map dX))), x, y]) (pairs 0 (xs.map dX)) 0
    [some (.d (dB L rs xs)), some (.d (.str [])), some (.d (.str L)), some (.d (.tup (rs.map dR))), some (.d (.tup (xs.map dX))), none, none] s ⟨rfl, [], none, none, fun j z hz _ => by
      have := (h5 z (List.mem_of_getElem? hz)).2.2.1
      cases hz1 : z.1 with
      | nil => exact absurd hz1 this
      | cons c cs => exact List.nil_lt_cons c cs, rfl⟩ (by
      rintro i d ε s1 hd ⟨rfl, a, x, y, ha, rfl⟩
      obtain ⟨z, hz, rfl⟩ := pairs_at _ _ _ _ hd
      rw [List.getElem?_map] at hz
      cases hr : xs[i]? with
      | none => rw [hr] at hz; cases hz
      | some r =>
        rw [hr] at hz
        cases hz
        have hi := (List.getElem?_eq_some_iff.mp hr).1
        obtain ⟨q1, q2, q3, q4⟩ := h5 r (List.mem_of_getElem? hr)
        have e3 := F_is_exception_eq L r s1 q1 q2
        have ni : ¬ ((0 + i : Nat) : Int) = 8 := by omega
        have lt : a < r.1 := ha i r hr (by omega)
        have e4 : okE (.int ((0 + i : Nat) : Int)) = true := rfl
        have e5 : okE (.int 8) = true := rfl
        have e6 : eqD (.int ((0 + i : Nat) : Int)) (.int 8) = false := by simp only [eqD]; exact decide_eq_false ni
        have e7 : L2.atI [D.str r.1, D.str r.2] 0 = some (.str r.1) := rfl
        have e3' : F_is_exception [.tup [.str r.1, .str r.2], .str L] s1 = .ok (.bl (excB L r)) s1 := e3
        refine ⟨[some (.d (dB L rs xs)), some (.d (.str a)), some (.d (.str L)), some (.d (.tup (rs.map dR))), some (.d (.tup (xs.map dX))), some (.d (.int ((0 + i : Nat) : Int))), some (.d (dX r))], by simp [setTn], [some (.d (dB L rs xs)), some (.d (.str r.1)), some (.d (.str L)), some (.d (.tup (rs.map dR))), some (.d (.tup (xs.map dX))), some (.d (.int ((0 + i : Nat) : Int))), some (.d (dX r))], s1, ?_, rfl, r.1, _, _, fun j z hz hij => ?_, rfl⟩
        · simp only [sSeq, sIf, sSet, nD, bOr, asB, f2, hide, hideO, List.map, fVar, fC, R.bind, gEq, e4, e5, e6, and_self, if_true, id, bNot, fArgs, aCons, aNil, lift, bindS, List.getElem?_cons_zero, List.getElem?_cons_succ, dX, e3', q4, Bool.not_true, sNil, gIx, e7, gOrd, decide_eq_true lt, List.set]
        · have := List.pairwise_iff_getElem.mp h6 i j hi ((List.getElem?_eq_some_iff.mp hz).1) (by omega)
          rw [(List.getElem?_eq_some_iff.mp hr).2, (List.getElem?_eq_some_iff.mp hz).2] at this
          exact this)
  obtain ⟨rfl, _⟩ := hε
  have e0 : F_need_rules [.str L, .tup (rs.map dR)] s' = .ok .non s' := e1
  simp [F_need_book, b_need_book, fnF, fnL, startN, hide, hideO, nD, bindS, R.bind, R.calm, sRet, sRetN, sRetO, sRetL, sSet, sSeq, sNil, sIf, sDrop, sPar, sTup, sOwn, sNewL, sApp, sAug, sFrz, sRaise, setTn, setT, setAll, fVar, fC, f1, f2, asB, fAnd, fOr, fNot, bAnd, bOr, bNot, bYes, fIf, fChain, fTup, fLst, fArgs, fArgsL, aCons, aNil, gLen, gIsi, isD, gOrd, gInt, gIx, gSl, fSl, oNone, oSome, fItems, itemsOf, lift, liftL, fErr1, fErr2, dB, e0, gEq, okE, okD, depD, eqD, sFor, fEnum, e2] at e2 ⊢
theorem F_fits_eq (r : Rl) (w : List Nat) (p : Nat) (s : Unit) (hw : w.length ≤ 1000000) (ho : r.o.length ≤ 1000000) (kw : okS w) (ka : okS r.a) (ko : okS r.o) (kb : okS r.b) : F_fits [dR r, .str w, .int p] s = .ok (.bl (fitB r w p)) s := by
  have zw := short_sz hw
  have zo := short_sz ho
  have e1 := F_sign_at_eq w ((p : Int) - 1) s zw
  have e2 := F_sign_at_eq w ((p : Int) + r.o.length) s zw
  have c1 := cutL_nat w p r.o.length
  have k1 := okE_str (okS_cut kw p r.o.length)
  have k2 := okE_str ko
  have k3 := okE_str ka
  have k4 := okE_str kb
  have k5 : okE (.str []) = true := rfl
  by_cases h1 : (w.drop p).take r.o.length = r.o
  · by_cases h2 : r.a = []
    · by_cases h3 : r.b = []
      · simp [F_fits, b_fits, fnF, fnL, startN, hide, hideO, nD, bindS, R.bind, R.calm, sRet, sRetN, sRetO, sRetL, sSet, sSeq, sNil, sIf, sDrop, sPar, sTup, sOwn, sNewL, sApp, sAug, sFrz, sRaise, setTn, setT, setAll, fVar, fC, f1, f2, asB, fAnd, fOr, fNot, bAnd, bOr, bNot, bYes, fIf, fChain, fTup, fLst, fArgs, fArgsL, aCons, aNil, gLen, gIsi, isD, gOrd, gInt, gIx, gSl, fSl, oNone, oSome, fItems, itemsOf, lift, liftL, fErr1, fErr2, dR, zw, zo, gAdd, c1, gEq, k1, k2, k3, k4, k5, eqD, h1, h2, h3, fitB]
      · by_cases h4 : sgn w ((p : Int) + r.o.length) ∈ r.b
        · simp [F_fits, b_fits, fnF, fnL, startN, hide, hideO, nD, bindS, R.bind, R.calm, sRet, sRetN, sRetO, sRetL, sSet, sSeq, sNil, sIf, sDrop, sPar, sTup, sOwn, sNewL, sApp, sAug, sFrz, sRaise, setTn, setT, setAll, fVar, fC, f1, f2, asB, fAnd, fOr, fNot, bAnd, bOr, bNot, bYes, fIf, fChain, fTup, fLst, fArgs, fArgsL, aCons, aNil, gLen, gIsi, isD, gOrd, gInt, gIx, gSl, fSl, oNone, oSome, fItems, itemsOf, lift, liftL, fErr1, fErr2, dR, zw, zo, gAdd, c1, gEq, k1, k2, k3, k4, k5, eqD, h1, h2, h3, h4, e2, gIn, fitB]
        · simp [F_fits, b_fits, fnF, fnL, startN, hide, hideO, nD, bindS, R.bind, R.calm, sRet, sRetN, sRetO, sRetL, sSet, sSeq, sNil, sIf, sDrop, sPar, sTup, sOwn, sNewL, sApp, sAug, sFrz, sRaise, setTn, setT, setAll, fVar, fC, f1, f2, asB, fAnd, fOr, fNot, bAnd, bOr, bNot, bYes, fIf, fChain, fTup, fLst, fArgs, fArgsL, aCons, aNil, gLen, gIsi, isD, gOrd, gInt, gIx, gSl, fSl, oNone, oSome, fItems, itemsOf, lift, liftL, fErr1, fErr2, dR, zw, zo, gAdd, c1, gEq, k1, k2, k3, k4, k5, eqD, h1, h2, h3, h4, e2, gIn, fitB]
    · by_cases h5 : sgn w ((p : Int) - 1) ∈ r.a
      · by_cases h3 : r.b = []
        · simp [F_fits, b_fits, fnF, fnL, startN, hide, hideO, nD, bindS, R.bind, R.calm, sRet, sRetN, sRetO, sRetL, sSet, sSeq, sNil, sIf, sDrop, sPar, sTup, sOwn, sNewL, sApp, sAug, sFrz, sRaise, setTn, setT, setAll, fVar, fC, f1, f2, asB, fAnd, fOr, fNot, bAnd, bOr, bNot, bYes, fIf, fChain, fTup, fLst, fArgs, fArgsL, aCons, aNil, gLen, gIsi, isD, gOrd, gInt, gIx, gSl, fSl, oNone, oSome, fItems, itemsOf, lift, liftL, fErr1, fErr2, dR, zw, zo, gAdd, c1, gEq, k1, k2, k3, k4, k5, eqD, h1, h2, h3, h5, e1, gIn, fitB]
        · by_cases h4 : sgn w ((p : Int) + r.o.length) ∈ r.b
          · simp [F_fits, b_fits, fnF, fnL, startN, hide, hideO, nD, bindS, R.bind, R.calm, sRet, sRetN, sRetO, sRetL, sSet, sSeq, sNil, sIf, sDrop, sPar, sTup, sOwn, sNewL, sApp, sAug, sFrz, sRaise, setTn, setT, setAll, fVar, fC, f1, f2, asB, fAnd, fOr, fNot, bAnd, bOr, bNot, bYes, fIf, fChain, fTup, fLst, fArgs, fArgsL, aCons, aNil, gLen, gIsi, isD, gOrd, gInt, gIx, gSl, fSl, oNone, oSome, fItems, itemsOf, lift, liftL, fErr1, fErr2, dR, zw, zo, gAdd, c1, gEq, k1, k2, k3, k4, k5, eqD, h1, h2, h3, h4, h5, e1, e2, gIn, fitB]
          · simp [F_fits, b_fits, fnF, fnL, startN, hide, hideO, nD, bindS, R.bind, R.calm, sRet, sRetN, sRetO, sRetL, sSet, sSeq, sNil, sIf, sDrop, sPar, sTup, sOwn, sNewL, sApp, sAug, sFrz, sRaise, setTn, setT, setAll, fVar, fC, f1, f2, asB, fAnd, fOr, fNot, bAnd, bOr, bNot, bYes, fIf, fChain, fTup, fLst, fArgs, fArgsL, aCons, aNil, gLen, gIsi, isD, gOrd, gInt, gIx, gSl, fSl, oNone, oSome, fItems, itemsOf, lift, liftL, fErr1, fErr2, dR, zw, zo, gAdd, c1, gEq, k1, k2, k3, k4, k5, eqD, h1, h2, h3, h4, h5, e1, e2, gIn, fitB]
      · simp [F_fits, b_fits, fnF, fnL, startN, hide, hideO, nD, bindS, R.bind, R.calm, sRet, sRetN, sRetO, sRetL, sSet, sSeq, sNil, sIf, sDrop, sPar, sTup, sOwn, sNewL, sApp, sAug, sFrz, sRaise, setTn, setT, setAll, fVar, fC, f1, f2, asB, fAnd, fOr, fNot, bAnd, bOr, bNot, bYes, fIf, fChain, fTup, fLst, fArgs, fArgsL, aCons, aNil, gLen, gIsi, isD, gOrd, gInt, gIx, gSl, fSl, oNone, oSome, fItems, itemsOf, lift, liftL, fErr1, fErr2, dR, zw, zo, gAdd, c1, gEq, k1, k2, k3, k4, k5, eqD, h1, h2, h5, e1, gIn, fitB]
  · simp [F_fits, b_fits, fnF, fnL, startN, hide, hideO, nD, bindS, R.bind, R.calm, sRet, sRetN, sRetO, sRetL, sSet, sSeq, sNil, sIf, sDrop, sPar, sTup, sOwn, sNewL, sApp, sAug, sFrz, sRaise, setTn, setT, setAll, fVar, fC, f1, f2, asB, fAnd, fOr, fNot, bAnd, bOr, bNot, bYes, fIf, fChain, fTup, fLst, fArgs, fArgsL, aCons, aNil, gLen, gIsi, isD, gOrd, gInt, gIx, gSl, fSl, oNone, oSome, fItems, itemsOf, lift, liftL, fErr1, fErr2, dR, zw, zo, gAdd, c1, gEq, k1, k2, k3, k4, k5, eqD, h1, fitB]
theorem F__law_fits_eq (r : Rl) (w : List Nat) (p : Nat) (s : Unit) (hw : w.length ≤ 1000000) (ho : r.o.length ≤ 1000000) (hp : p ≤ w.length) (n35 : 35 ∉ r.o) (kw : okS w) (ka : okS r.a) (ko : okS r.o) (kb : okS r.b) : F__law_fits [dR r, .str w, .int p] s = .ok (.bl (fitB r w p)) s := by
  have z1 : 1 + w.length ≤ sizeLine := Nat.le_trans (show 1 + w.length ≤ 1000001 by omega) (by decide)
  have z2 : w.length + 1 + 1 ≤ sizeLine := Nat.le_trans (show w.length + 1 + 1 ≤ 1000002 by omega) (by decide)
  have z3 : w.length + 1 ≤ sizeLine := by omega
  have zo := short_sz ho
  have c1 : cutL (far w) (some ((p : Int) + 1)) (some ((p : Int) + 1 + (r.o.length : Int))) = ((far w).drop (p + 1)).take r.o.length := by
    rw [show (p : Int) + 1 = ((p + 1 : Nat) : Int) by omega]
    exact cutL_nat _ _ _
  have kf : okS (far w) := by
    unfold okS far at *
    simp only [List.all_cons, List.all_append, kw, List.all_nil]
    decide
  have k1 := okE_str (okS_cut kf (p + 1) r.o.length)
  have k2 := okE_str ko
  have k3 := okE_str ka
  have k4 := okE_str kb
  have k5 : okE (.str []) = true := rfl
  have f1' : L2.atI (far w) (p : Int) = some (sgn w ((p : Int) - 1)) := by rw [atI_eq, far_at w p (by omega)]
  have hcut := far_cut w r.o p hp n35
  by_cases h1 : (w.drop p).take r.o.length = r.o
  · have h1' := hcut.mpr h1
    have hle := cut_le h1 hp
    have f2' : L2.atI (far w) ((p : Int) + 1 + (r.o.length : Int)) = some (sgn w ((p : Int) + r.o.length)) := by
      rw [show (p : Int) + 1 + (r.o.length : Int) = ((p + 1 + r.o.length : Nat) : Int) by omega, atI_eq, far_at w _ (by omega)]
      congr 2
      omega
    rw [h1'] at c1 
    have zf : (far w).length ≤ sizeLine := by rw [far_len]; exact z2
    unfold far at c1 f1' f2' zf
    by_cases h2 : r.a = []
    · by_cases h3 : r.b = []
      · simp [F__law_fits, b__law_fits, fnF, fnL, startN, hide, hideO, nD, bindS, R.bind, R.calm, sRet, sRetN, sRetO, sRetL, sSet, sSeq, sNil, sIf, sDrop, sPar, sTup, sOwn, sNewL, sApp, sAug, sFrz, sRaise, setTn, setT, setAll, fVar, fC, f1, f2, asB, fAnd, fOr, fNot, bAnd, bOr, bNot, bYes, fIf, fChain, fTup, fLst, fArgs, fArgsL, aCons, aNil, gLen, gIsi, isD, gOrd, gInt, gIx, gSl, fSl, oNone, oSome, fItems, itemsOf, lift, liftL, fErr1, fErr2, dR, z1, z2, z3, zo, zf, gAdd, c1, gEq, k2, k3, k4, k5, at4_0, at4_1, at4_2, eqD, h1, h2, h3, fitB]
      · by_cases h4 : sgn w ((p : Int) + r.o.length) ∈ r.b
        · simp [F__law_fits, b__law_fits, fnF, fnL, startN, hide, hideO, nD, bindS, R.bind, R.calm, sRet, sRetN, sRetO, sRetL, sSet, sSeq, sNil, sIf, sDrop, sPar, sTup, sOwn, sNewL, sApp, sAug, sFrz, sRaise, setTn, setT, setAll, fVar, fC, f1, f2, asB, fAnd, fOr, fNot, bAnd, bOr, bNot, bYes, fIf, fChain, fTup, fLst, fArgs, fArgsL, aCons, aNil, gLen, gIsi, isD, gOrd, gInt, gIx, gSl, fSl, oNone, oSome, fItems, itemsOf, lift, liftL, fErr1, fErr2, dR, z1, z2, z3, zo, zf, gAdd, c1, gEq, k2, k3, k4, k5, at4_0, at4_1, at4_2, eqD, h1, h2, h3, h4, f2', gIn, fitB]
        · simp [F__law_fits, b__law_fits, fnF, fnL, startN, hide, hideO, nD, bindS, R.bind, R.calm, sRet, sRetN, sRetO, sRetL, sSet, sSeq, sNil, sIf, sDrop, sPar, sTup, sOwn, sNewL, sApp, sAug, sFrz, sRaise, setTn, setT, setAll, fVar, fC, f1, f2, asB, fAnd, fOr, fNot, bAnd, bOr, bNot, bYes, fIf, fChain, fTup, fLst, fArgs, fArgsL, aCons, aNil, gLen, gIsi, isD, gOrd, gInt, gIx, gSl, fSl, oNone, oSome, fItems, itemsOf, lift, liftL, fErr1, fErr2, dR, z1, z2, z3, zo, zf, gAdd, c1, gEq, k2, k3, k4, k5, at4_0, at4_1, at4_2, eqD, h1, h2, h3, h4, f2', gIn, fitB]
    · by_cases h5 : sgn w ((p : Int) - 1) ∈ r.a
      · by_cases h3 : r.b = []
        · simp [F__law_fits, b__law_fits, fnF, fnL, startN, hide, hideO, nD, bindS, R.bind, R.calm, sRet, sRetN, sRetO, sRetL, sSet, sSeq, sNil, sIf, sDrop, sPar, sTup, sOwn, sNewL, sApp, sAug, sFrz, sRaise, setTn, setT, setAll, fVar, fC, f1, f2, asB, fAnd, fOr, fNot, bAnd, bOr, bNot, bYes, fIf, fChain, fTup, fLst, fArgs, fArgsL, aCons, aNil, gLen, gIsi, isD, gOrd, gInt, gIx, gSl, fSl, oNone, oSome, fItems, itemsOf, lift, liftL, fErr1, fErr2, dR, z1, z2, z3, zo, zf, gAdd, c1, gEq, k2, k3, k4, k5, at4_0, at4_1, at4_2, eqD, h1, h2, h3, h5, f1', gIn, fitB]
        · by_cases h4 : sgn w ((p : Int) + r.o.length) ∈ r.b
          · simp [F__law_fits, b__law_fits, fnF, fnL, startN, hide, hideO, nD, bindS, R.bind, R.calm, sRet, sRetN, sRetO, sRetL, sSet, sSeq, sNil, sIf, sDrop, sPar, sTup, sOwn, sNewL, sApp, sAug, sFrz, sRaise, setTn, setT, setAll, fVar, fC, f1, f2, asB, fAnd, fOr, fNot, bAnd, bOr, bNot, bYes, fIf, fChain, fTup, fLst, fArgs, fArgsL, aCons, aNil, gLen, gIsi, isD, gOrd, gInt, gIx, gSl, fSl, oNone, oSome, fItems, itemsOf, lift, liftL, fErr1, fErr2, dR, z1, z2, z3, zo, zf, gAdd, c1, gEq, k2, k3, k4, k5, at4_0, at4_1, at4_2, eqD, h1, h2, h3, h4, h5, f1', f2', gIn, fitB]
          · simp [F__law_fits, b__law_fits, fnF, fnL, startN, hide, hideO, nD, bindS, R.bind, R.calm, sRet, sRetN, sRetO, sRetL, sSet, sSeq, sNil, sIf, sDrop, sPar, sTup, sOwn, sNewL, sApp, sAug, sFrz, sRaise, setTn, setT, setAll, fVar, fC, f1, f2, asB, fAnd, fOr, fNot, bAnd, bOr, bNot, bYes, fIf, fChain, fTup, fLst, fArgs, fArgsL, aCons, aNil, gLen, gIsi, isD, gOrd, gInt, gIx, gSl, fSl, oNone, oSome, fItems, itemsOf, lift, liftL, fErr1, fErr2, dR, z1, z2, z3, zo, zf, gAdd, c1, gEq, k2, k3, k4, k5, at4_0, at4_1, at4_2, eqD, h1, h2, h3, h4, h5, f1', f2', gIn, fitB]
      · simp [F__law_fits, b__law_fits, fnF, fnL, startN, hide, hideO, nD, bindS, R.bind, R.calm, sRet, sRetN, sRetO, sRetL, sSet, sSeq, sNil, sIf, sDrop, sPar, sTup, sOwn, sNewL, sApp, sAug, sFrz, sRaise, setTn, setT, setAll, fVar, fC, f1, f2, asB, fAnd, fOr, fNot, bAnd, bOr, bNot, bYes, fIf, fChain, fTup, fLst, fArgs, fArgsL, aCons, aNil, gLen, gIsi, isD, gOrd, gInt, gIx, gSl, fSl, oNone, oSome, fItems, itemsOf, lift, liftL, fErr1, fErr2, dR, z1, z2, z3, zo, zf, gAdd, c1, gEq, k2, k3, k4, k5, at4_0, at4_1, at4_2, eqD, h1, h2, h5, f1', gIn, fitB]
  · have h1' : ¬ ((far w).drop (p + 1)).take r.o.length = r.o := fun z => h1 (hcut.mp z)
    have zf : (far w).length ≤ sizeLine := by rw [far_len]; exact z2
    unfold far at c1 k1 h1' zf
    simp [F__law_fits, b__law_fits, fnF, fnL, startN, hide, hideO, nD, bindS, R.bind, R.calm, sRet, sRetN, sRetO, sRetL, sSet, sSeq, sNil, sIf, sDrop, sPar, sTup, sOwn, sNewL, sApp, sAug, sFrz, sRaise, setTn, setT, setAll, fVar, fC, f1, f2, asB, fAnd, fOr, fNot, bAnd, bOr, bNot, bYes, fIf, fChain, fTup, fLst, fArgs, fArgsL, aCons, aNil, gLen, gIsi, isD, gOrd, gInt, gIx, gSl, fSl, oNone, oSome, fItems, itemsOf, lift, liftL, fErr1, fErr2, dR, z1, z2, z3, zo, zf, gAdd, c1, gEq, k1, k2, k5, at4_0, at4_1, at4_2, eqD, h1, h1', fitB] at *
    simp [h1', k1]
section
variable (rs : List Rl) (w : List Nat)
/-- the slots of walk_of within its loop -/
def εW (p : Nat) (acc : List (Nat × Nat)) (x : Option O) : Sn := [some (.d (.tup (rs.map dR))), some (.d (.str w)), some (.ow (.l (acc.map dPN))), some (.d (.int p)), x, none, none]
theorem some_eq (hw : w.length ≤ 1000000) (kw : okS w) (hr : ∀ r ∈ rs, r.ok) (hl : rs.length ≤ 1000000) (p : Nat) (hp : p ≤ w.length) (acc : List (Nat × Nat)) (x : Option O) (s : Unit) :
    fComp (fEnum (aCons (fVar 0) aNil)) (.tp [5, 6]) [5, 6] (asB (fArgs (lift (fun _ => ()) (fun s _ => s) F_fits) (aCons (fVar 6) (aCons (fVar 1) (aCons (fVar 3) aNil))))) (fVar 5) (hide (εW rs w p acc x)) s = .ok (.lst ((fitL rs w p).map fun k : Nat => D.int k)) s := by
  have lenP : (pairs 0 (rs.map dR)).length ≤ sizeLine := by rw [pairs_len, List.length_map]; exact short_sz hl
  have comp : ∀ η : En, η[1]? = some (some (.str w)) → η[3]? = some (some (.int p)) → 6 < η.length →
      compL (.tp [5, 6]) (asB (fArgs (lift (fun _ => ()) (fun s _ => s) F_fits) (aCons (fVar 6) (aCons (fVar 1) (aCons (fVar 3) aNil))))) (fVar 5) η (pairs 0 (rs.map dR)) s = .ok ((fitL rs w p).map fun k : Nat => D.int k) s := by
    intro η h1 h3 h6
    rw [pairs_range]
    have := compL_pure (T := .tp [5, 6]) (c := asB (fArgs (lift (fun _ => ()) (fun s _ => s) F_fits) (aCons (fVar 6) (aCons (fVar 1) (aCons (fVar 3) aNil))))) (e := fVar 5) (η := η) (s := s)
      (fun d => match d with | .tup (.int k :: _) => (match rs[k.toNat]? with | some r => fitB r w p | none => false) | _ => false) (fun d => match d with | .tup (a :: _) => a | _ => .non)
      ((List.range (rs.map dR).length).map fun k : Nat => .tup [.int ((0 + k : Nat) : Int), (rs.map dR).getD k .non]) fun d hd => by
      obtain ⟨k, hk, rfl⟩ := List.mem_map.mp hd
      rw [List.mem_range, List.length_map] at hk
      have hk' : rs[k]? = some rs[k] := List.getElem?_eq_getElem hk
      have hg : (rs.map dR).getD k .non = dR rs[k] := by simp [hk]
      have ok := hr _ (List.getElem_mem hk)
      have ef := F_fits_eq rs[k] w p s hw ok.lo kw ok.ka ok.ko ok.kb
      rw [hg, Nat.zero_add]
      refine ⟨(η.set 5 (some (.int k))).set 6 (some (dR rs[k])), by simp [setT, setAll, h6, show 5 < η.length by omega], ?_, fun _ => ?_⟩
      · have e6 : ((η.set 5 (some (D.int k))).set 6 (some (dR rs[k])))[6]? = some (some (dR rs[k])) := List.getElem?_set_self (by rw [List.length_set]; exact h6)
        have e1 : ((η.set 5 (some (D.int k))).set 6 (some (dR rs[k])))[1]? = some (some (.str w)) := by rw [List.getElem?_set_ne (by decide), List.getElem?_set_ne (by decide)]; exact h1
        have e3 : ((η.set 5 (some (D.int k))).set 6 (some (dR rs[k])))[3]? = some (some (.int p)) := by rw [List.getElem?_set_ne (by decide), List.getElem?_set_ne (by decide)]; exact h3
        simp only [asB, fArgs, aCons, aNil, fVar, e6, e1, e3, R.bind, lift, ef, Int.toNat_natCast, hk']
      · have e5 : ((η.set 5 (some (D.int k))).set 6 (some (dR rs[k])))[5]? = some (some (.int k)) := by rw [List.getElem?_set_ne (by decide)]; exact List.getElem?_set_self (by omega)
        simp only [fVar, e5]
    rw [this, List.filter_map, List.map_map, List.length_map]
    congr 1
    unfold fitL
    have e : ((fun d => match d with | D.tup (.int k :: _) => (match rs[k.toNat]? with | some r => fitB r w p | none => false) | _ => false) ∘ fun k : Nat => D.tup [.int ((0 + k : Nat) : Int), (rs.map dR).getD k .non]) = fun k : Nat => match rs[k]? with | some r => fitB r w p | none => false := by
      funext k
      simp only [Function.comp, Nat.zero_add, Int.toNat_natCast]
    rw [e]
    refine List.map_congr_left fun k _ => ?_
    simp only [Function.comp, Nat.zero_add]
  have c2 := comp (wipeE (hide (εW rs w p acc x)) [5, 6]) rfl rfl (by simp [wipeE, hide, εW])
  have e0 : (hide (εW rs w p acc x))[0]? = some (some (.tup (rs.map dR))) := rfl
  simp only [fComp, fEnum, aCons, aNil, fVar, e0, R.bind, lenP, if_true, c2]
end
section
variable (rs : List Rl) (w : List Nat)
noncomputable abbrev cW : Sn → Unit → R Unit Bool := nD (asB (f2 gLt (fVar 3) (fArgs gLen (aCons (fVar 1) aNil))))
noncomputable abbrev bW : Sn → Unit → SR Unit := sSeq (sSet 4 (nD (fComp (fEnum (aCons (fVar 0) aNil)) (.tp [5, 6]) [5, 6] (asB (fArgs (lift (fun _ => ()) (fun s _ => s) F_fits) (aCons (fVar 6) (aCons (fVar 1) (aCons (fVar 3) aNil))))) (fVar 5))))
    (sSeq (sIf (nD (asB (f2 (gEq id) (fVar 4) (fLst aNil)))) (sRaise (fErr1 .unsaid "place" (aCons (fVar 3) aNil))) sNil)
    (sSeq (sApp 2 (nD (fTup (aCons (fVar 3) (aCons (f2 gIx (fVar 4) (fC (.int 0))) aNil)))))
    (sAug 3 gAddI (nD (fArgs gLen (aCons (f2 gIx (f2 gIx (fVar 0) (f2 gIx (fVar 4) (fC (.int 0)))) (fC (.int 1))) aNil))))))
theorem cW_eq (hw : w.length ≤ 1000000) (p : Nat) (acc : List (Nat × Nat)) (x : Option O) (s : Unit) : cW (εW rs w p acc x) s = .ok (decide (p < w.length)) s := by
  simp [cW, εW, fnF, fnL, startN, hide, hideO, nD, bindS, R.bind, R.calm, sRet, sRetN, sRetO, sRetL, sSet, sSeq, sNil, sIf, sDrop, sPar, sTup, sOwn, sNewL, sApp, sAug, sFrz, sRaise, setTn, setT, setAll, fVar, fC, f1, f2, asB, fAnd, fOr, fNot, bAnd, bOr, bNot, bYes, fIf, fChain, fTup, fLst, fArgs, fArgsL, aCons, aNil, gLen, gIsi, isD, gOrd, gInt, gIx, gSl, fSl, oNone, oSome, fItems, itemsOf, lift, liftL, fErr1, fErr2, short_sz hw]
theorem bW_nil (hw : w.length ≤ 1000000) (kw : okS w) (hr : ∀ r ∈ rs, r.ok) (hl : rs.length ≤ 1000000) (p : Nat) (hp : p ≤ w.length) (acc : List (Nat × Nat)) (x : Option O) (s : Unit) (e : fitL rs w p = []) :
    ∃ ε', bW (εW rs w p acc x) s = .er ⟨.unsaid, [("place", (p : Int))]⟩ ε' s := by
  have h1 := some_eq rs w hw kw hr hl p hp acc x s
  rw [e, List.map_nil] at h1
  have sm : sml (p : Int) = true := sml_nat (by omega)
  refine ⟨εW rs w p acc (some (.d (.lst []))), ?_⟩
  simp only [bW, sSeq, sSet, nD, h1, bindS]
  simp [εW, sIf, nD, bindS, hide, hideO, asB, f2, fVar, fLst, aNil, R.bind, gEq, okE, okD, okDs, depD, depDs, eqD, eqDs, sRaise, fErr1, aCons, sm]
theorem bW_cons (hw : w.length ≤ 1000000) (kw : okS w) (hr : ∀ r ∈ rs, r.ok) (hl : rs.length ≤ 1000000) (p : Nat) (hp : p ≤ w.length) (acc : List (Nat × Nat)) (hacc : acc.length ≤ 1000000) (x : Option O) (s : Unit) (k : Nat) (ks : List Nat) (e : fitL rs w p = k :: ks) :
    bW (εW rs w p acc x) s = .nx (εW rs w (p + ownLen rs k) (acc ++ [(p, k)]) (some (.d (.lst ((k :: ks).map fun k : Nat => D.int k))))) s := by
  have h1 := some_eq rs w hw kw hr hl p hp acc x s
  rw [e] at h1
  obtain ⟨r, hk, _⟩ := fitL_mem (show k ∈ fitL rs w p by rw [e]; exact List.mem_cons_self)
  have ok := hr r (List.mem_of_getElem? hk)
  have d1 := okDs_ints ks
  have d2 : depDs (ks.map fun k : Nat => D.int k) ≤ 63 := Nat.le_trans (depDs_ints ks) (by decide)
  have a1 : L2.atI (rs.map dR) (k : Int) = some (dR r) := by rw [atI_eq, List.getElem?_map, hk]; rfl
  have hz : acc.length < sizeLine := Nat.lt_of_le_of_lt hacc (by decide)
  have ho : ownLen rs k = r.o.length := by unfold ownLen; rw [hk]
  have zo := short_sz ok.lo
  have z2 : 2 ≤ sizeLine := by decide
  simp only [List.map_cons] at h1
  simp only [bW, sSeq, sSet, nD, h1, bindS]
  simp [εW, sIf, nD, bindS, hide, hideO, asB, f2, fVar, fLst, fTup, aNil, R.bind, gEq, d1, d2, okE, okD, okDs, depD, depDs, eqD, eqDs, sNil, aCons, sApp, sAug, fArgs, gIx, fC, atI_zero, hz, gAddI, gLen, a1, dR, at4_1, zo, z2, ho, dPN]
end
section
variable (rs : List Rl) (w : List Nat)
theorem walk_loop (hw : w.length ≤ 1000000) (kw : okS w) (hr : ∀ r ∈ rs, r.ok) (hl : rs.length ≤ 1000000) (s : Unit) : ∀ (n p : Nat) (acc : List (Nat × Nat)) (x : Option O), w.length < n + p → p ≤ w.length → acc.length ≤ p →
    match walkP rs w n p acc with
    | .inl q => ∃ ε', whileF cW bW n (εW rs w p acc x) s = .er ⟨.unsaid, [("place", (q : Int))]⟩ ε' s
    | .inr l => ∃ q x', whileF cW bW n (εW rs w p acc x) s = .nx (εW rs w q l x') s
  | 0, p, acc, x, h, hp, _ => by omega
  | n + 1, p, acc, x, h, hp, ha => by
    simp only [walkP]
    by_cases hlt : p < w.length
    · rw [if_pos hlt]
      have hc : cW (εW rs w p acc x) s = .ok true s := by rw [cW_eq rs w hw, decide_eq_true hlt]
      cases e : fitL rs w p with
      | nil =>
        obtain ⟨ε', hb⟩ := bW_nil rs w hw kw hr hl p hp acc x s e
        refine ⟨ε', ?_⟩
        simp only [whileF, hc, bindS, hb]
      | cons k ks =>
        have hb := bW_cons rs w hw kw hr hl p hp acc (by omega) x s k ks e
        obtain ⟨r, hk, hf⟩ := fitL_mem (show k ∈ fitL rs w p by rw [e]; exact List.mem_cons_self)
        have ok := hr r (List.mem_of_getElem? hk)
        have ho : ownLen rs k = r.o.length := by unfold ownLen; rw [hk]
        have h0 : 0 < r.o.length := List.length_pos_iff.mpr ok.no
        have hle := fitB_le hf hp
        have ih := walk_loop hw kw hr hl s n (p + ownLen rs k) (acc ++ [(p, k)]) (some (.d (.lst ((k :: ks).map fun k : Nat => D.int k)))) (by omega) (by omega) (by rw [List.length_append, List.length_singleton]; omega)
        have e2 : whileF cW bW (n + 1) (εW rs w p acc x) s = whileF cW bW n (εW rs w (p + ownLen rs k) (acc ++ [(p, k)]) (some (.d (.lst ((k :: ks).map fun k : Nat => D.int k))))) s := by
          simp only [whileF, hc, bindS, hb]
        rw [e2]
        exact ih
    · rw [if_neg hlt]
      have hc : cW (εW rs w p acc x) s = .ok false s := by rw [cW_eq rs w hw, decide_eq_false hlt]
      refine ⟨p, x, ?_⟩
      simp only [whileF, hc, bindS]
theorem FL_walk_of_eq (hw : w.length ≤ 1000000) (kw : okS w) (hr : ∀ r ∈ rs, r.ok) (hl : rs.length ≤ 1000000) (s : Unit) :
    FL_walk_of [.tup (rs.map dR), .str w] s = match walkP rs w (w.length + 1) 0 [] with
    | .inl q => .er ⟨.unsaid, [("place", (q : Int))]⟩ s
    | .inr l => .ok (l.map dPN) s := by
  have h := walk_loop rs w hw kw hr hl s (w.length + 1) 0 [] none (by omega) (by omega) (by simp)
  have st : startN 7 [.tup (rs.map dR), .str w] = [some (.d (.tup (rs.map dR))), some (.d (.str w)), none, none, none, none, none] := rfl
  have z0 : 0 ≤ sizeLine := by decide
  cases q : walkP rs w (w.length + 1) 0 [] with
  | inl q' =>
    rw [q] at h
    obtain ⟨ε', e⟩ := h
    have e2 := whileD_of (w.length + 1) e (by intro z; cases z)
    unfold FL_walk_of fnL bL_walk_of
    rw [st]
    simp only [List.length_cons, List.length_nil, if_true, sSeq, sNewL, nD, aNil, bindS, z0, sSet, fC, List.set]
    have e3 : whileD cW bW [some (.d (.tup (rs.map dR))), some (.d (.str w)), some (.ow (.l [])), some (.d (.int 0)), none, none, none] s = .er ⟨.unsaid, [("place", (q' : Int))]⟩ ε' s := e2
    simp only [cW, bW] at e3
    rw [e3]
  | inr l =>
    rw [q] at h
    obtain ⟨p', x', e⟩ := h
    have e2 := whileD_of (w.length + 1) e (by intro z; cases z)
    unfold FL_walk_of fnL bL_walk_of
    rw [st]
    simp only [List.length_cons, List.length_nil, if_true, sSeq, sNewL, nD, aNil, bindS, z0, sSet, fC, List.set]
    have e3 : whileD cW bW [some (.d (.tup (rs.map dR))), some (.d (.str w)), some (.ow (.l [])), some (.d (.int 0)), none, none, none] s = .nx (εW rs w p' l x') s := e2
    simp only [cW, bW] at e3
    rw [e3]
    rfl
end

end Yk15
namespace Yk15
open PySem L2 Dm
theorem taken_ok (k : Int) (hk : 0 < k) (hk2 : k < 1073741824) (s : RS) (w : s.WF) : ∃ (v : Nat) (s' : RS), F__law_taken [.nm 0, .int k] s = .ok (.int v) s' ∧ (v : Int) < k ∧ s'.WF := by
  have md : ∀ z : Int, ∃ v : Nat, z % k = (v : Int) ∧ (v : Int) < k := fun z => ⟨(z % k).toNat, by have := Int.emod_nonneg z (show k ≠ 0 by omega); omega, by have := Int.emod_lt_of_pos z hk; have := Int.emod_nonneg z (show k ≠ 0 by omega); omega⟩
  obtain ⟨sc, p, r, m⟩ := s
  obtain ⟨p0, m0, m1⟩ := w
  change 0 ≤ p at p0
  change 0 ≤ m at m0
  change m < 2147483647 at m1
  by_cases hr : 0 < r
  · obtain ⟨v, h1, h2⟩ := md r
    exact ⟨v, ⟨sc, p, r / k, m⟩, by simp [F__law_taken, b__law_taken, fnF, fnL, startN, hide, hideO, nD, bindS, R.bind, R.calm, sRet, sRetN, sRetO, sRetL, sSet, sSeq, sNil, sIf, sDrop, sPar, sTup, sOwn, sNewL, sApp, sAug, sFrz, sRaise, setTn, setT, setAll, fVar, fC, f1, f2, asB, fAnd, fOr, fNot, bAnd, bOr, bNot, bYes, fIf, fChain, fTup, fLst, fArgs, fArgsL, aCons, aNil, gLen, gIsi, isD, gOrd, gInt, gIx, gSl, fSl, oNone, oSome, fItems, itemsOf, lift, liftL, fErr1, fErr2, gIxR, sRow, setRow, gInt, hr, hk, hk2, h1], h2, ⟨p0, m0, m1⟩⟩
  · by_cases hp : p < sc.length
    · obtain ⟨z, hz, _⟩ := atI_some p0 hp
      obtain ⟨v, h1, h2⟩ := md z
      by_cases hz2 : (1000000000000000000 : Int) ≤ z
      · exact ⟨v, ⟨sc, p + 1, z / k, m⟩, by simp [F__law_taken, b__law_taken, fnF, fnL, startN, hide, hideO, nD, bindS, R.bind, R.calm, sRet, sRetN, sRetO, sRetL, sSet, sSeq, sNil, sIf, sDrop, sPar, sTup, sOwn, sNewL, sApp, sAug, sFrz, sRaise, setTn, setT, setAll, fVar, fC, f1, f2, asB, fAnd, fOr, fNot, bAnd, bOr, bNot, bYes, fIf, fChain, fTup, fLst, fArgs, fArgsL, aCons, aNil, gLen, gIsi, isD, gOrd, gInt, gIx, gSl, fSl, oNone, oSome, fItems, itemsOf, lift, liftL, fErr1, fErr2, gIxR, gLenR, sRow, setRow, gInt, gAdd, hr, hp, hz, hz2, hk, hk2, h1], h2, ⟨by show 0 ≤ p + 1; omega, m0, m1⟩⟩
      · exact ⟨v, ⟨sc, p + 1, r, m⟩, by simp [F__law_taken, b__law_taken, fnF, fnL, startN, hide, hideO, nD, bindS, R.bind, R.calm, sRet, sRetN, sRetO, sRetL, sSet, sSeq, sNil, sIf, sDrop, sPar, sTup, sOwn, sNewL, sApp, sAug, sFrz, sRaise, setTn, setT, setAll, fVar, fC, f1, f2, asB, fAnd, fOr, fNot, bAnd, bOr, bNot, bYes, fIf, fChain, fTup, fLst, fArgs, fArgsL, aCons, aNil, gLen, gIsi, isD, gOrd, gInt, gIx, gSl, fSl, oNone, oSome, fItems, itemsOf, lift, liftL, fErr1, fErr2, gIxR, gLenR, sRow, setRow, gInt, gAdd, hr, hp, hz, hz2, hk, hk2, h1], h2, ⟨by show 0 ≤ p + 1; omega, m0, m1⟩⟩
    · obtain ⟨v, h1, h2⟩ := md ((m * 48271 + 12345) % 2147483647 / 1009)
      have hm : m.natAbs.log2 + Nat.log2 48271 < 1000000 := by
        have : m.natAbs.log2 < 32 := by
          by_cases h : m.natAbs = 0
          · rw [h]; decide
          · exact (Nat.log2_lt h).mpr (by omega)
        have : Nat.log2 48271 ≤ 20 := by decide
        omega
      exact ⟨v, ⟨sc, p, r, (m * 48271 + 12345) % 2147483647⟩, by simp [F__law_taken, b__law_taken, fnF, fnL, startN, hide, hideO, nD, bindS, R.bind, R.calm, sRet, sRetN, sRetO, sRetL, sSet, sSeq, sNil, sIf, sDrop, sPar, sTup, sOwn, sNewL, sApp, sAug, sFrz, sRaise, setTn, setT, setAll, fVar, fC, f1, f2, asB, fAnd, fOr, fNot, bAnd, bOr, bNot, bYes, fIf, fChain, fTup, fLst, fArgs, fArgsL, aCons, aNil, gLen, gIsi, isD, gOrd, gInt, gIx, gSl, fSl, oNone, oSome, fItems, itemsOf, lift, liftL, fErr1, fErr2, gIxR, gLenR, sRow, setRow, gInt, gAdd, hr, hp, hm, hk, hk2, h1], h2, ⟨p0, Int.emod_nonneg _ (by decide), Int.emod_lt_of_pos _ (by decide)⟩⟩
theorem letters_ok (s : RS) (w : s.WF) : ∃ L s', F__law_letters [.nm 0] s = .ok (.str L) s' ∧ GL L ∧ s'.WF := by
  obtain ⟨v, s1, e1, hv, w1⟩ := taken_ok 4 (by decide) (by decide) s w
  have : v < 4 := by omega
  have h4 : ([D.str [97, 98], D.str [97, 98, 99], D.str [97, 99], D.str [97, 98, 99, 100]].length) ≤ sizeLine := sz (by decide)
  simp only [List.length_cons, List.length_nil] at h4
  rcases (show v = 0 ∨ v = 1 ∨ v = 2 ∨ v = 3 by omega) with rfl | rfl | rfl | rfl
  · exact ⟨[97, 98], s1, by simp [F__law_letters, b__law_letters, fnF, fnL, startN, hide, hideO, nD, bindS, R.bind, R.calm, sRet, sRetN, sRetO, sRetL, sSet, sSeq, sNil, sIf, sDrop, sPar, sTup, sOwn, sNewL, sApp, sAug, sFrz, sRaise, setTn, setT, setAll, fVar, fC, f1, f2, asB, fAnd, fOr, fNot, bAnd, bOr, bNot, bYes, fIf, fChain, fTup, fLst, fArgs, fArgsL, aCons, aNil, gLen, gIsi, isD, gOrd, gInt, gIx, gSl, fSl, oNone, oSome, fItems, itemsOf, lift, liftL, fErr1, fErr2, e1, h4]; rfl, gl_of (by decide), w1⟩
  · exact ⟨[97, 98, 99], s1, by simp [F__law_letters, b__law_letters, fnF, fnL, startN, hide, hideO, nD, bindS, R.bind, R.calm, sRet, sRetN, sRetO, sRetL, sSet, sSeq, sNil, sIf, sDrop, sPar, sTup, sOwn, sNewL, sApp, sAug, sFrz, sRaise, setTn, setT, setAll, fVar, fC, f1, f2, asB, fAnd, fOr, fNot, bAnd, bOr, bNot, bYes, fIf, fChain, fTup, fLst, fArgs, fArgsL, aCons, aNil, gLen, gIsi, isD, gOrd, gInt, gIx, gSl, fSl, oNone, oSome, fItems, itemsOf, lift, liftL, fErr1, fErr2, e1, h4]; rfl, gl_of (by decide), w1⟩
  · exact ⟨[97, 99], s1, by simp [F__law_letters, b__law_letters, fnF, fnL, startN, hide, hideO, nD, bindS, R.bind, R.calm, sRet, sRetN, sRetO, sRetL, sSet, sSeq, sNil, sIf, sDrop, sPar, sTup, sOwn, sNewL, sApp, sAug, sFrz, sRaise, setTn, setT, setAll, fVar, fC, f1, f2, asB, fAnd, fOr, fNot, bAnd, bOr, bNot, bYes, fIf, fChain, fTup, fLst, fArgs, fArgsL, aCons, aNil, gLen, gIsi, isD, gOrd, gInt, gIx, gSl, fSl, oNone, oSome, fItems, itemsOf, lift, liftL, fErr1, fErr2, e1, h4]; rfl, gl_of (by decide), w1⟩
  · exact ⟨[97, 98, 99, 100], s1, by simp [F__law_letters, b__law_letters, fnF, fnL, startN, hide, hideO, nD, bindS, R.bind, R.calm, sRet, sRetN, sRetO, sRetL, sSet, sSeq, sNil, sIf, sDrop, sPar, sTup, sOwn, sNewL, sApp, sAug, sFrz, sRaise, setTn, setT, setAll, fVar, fC, f1, f2, asB, fAnd, fOr, fNot, bAnd, bOr, bNot, bYes, fIf, fChain, fTup, fLst, fArgs, fArgsL, aCons, aNil, gLen, gIsi, isD, gOrd, gInt, gIx, gSl, fSl, oNone, oSome, fItems, itemsOf, lift, liftL, fErr1, fErr2, e1, h4]; rfl, gl_of (by decide), w1⟩
theorem text_ok (sg : List Nat) (few many : Int) (h1 : 1 ≤ sg.length) (h2 : sg.length ≤ 1000) (h3 : 0 ≤ few) (h4 : few ≤ many) (h5 : many ≤ 1000) (s : RS) (w : s.WF) :
    ∃ t s', F__law_text [.nm 0, .str sg, .int few, .int many] s = .ok (.str t) s' ∧ few ≤ t.length ∧ (t.length : Int) ≤ many ∧ (∀ c ∈ t, c ∈ sg) ∧ s'.WF := by
  obtain ⟨v, s1, e1, hv, w1⟩ := taken_ok (many - few + 1) (by omega) (by omega) s w
  obtain ⟨n, rfl⟩ := Int.eq_ofNat_of_zero_le h3
  have hr : okR ((n : Int) + (v : Int)) = true := by
    unfold okR
    rw [decide_eq_true]
    constructor <;> omega
  obtain ⟨ys, s', e2, w2, hl, hP⟩ := fComp_inv (fi := fRng1 (aCons (f2 gAdd (fVar 2) (fArgs (lift id (fun _ s => s) F__law_taken) (aCons (fVar 0) (aCons (f2 gAdd (f2 (gInt (fun i j => .int (i - j)) fun _ _ => true) (fVar 3) (fVar 2)) (fC (.int 1))) aNil)))) aNil)) (T := .nm 4) (own := [4])
    (e := f2 gIx (fVar 1) (fArgs (lift id (fun _ s => s) F__law_taken) (aCons (fVar 0) (aCons (fArgs gLen (aCons (fVar 1) aNil)) aNil)))) (η := [some (.nm 0), some (.str sg), some (.int n), some (.int many), none]) (s0 := s) RS.WF (fun y => ∃ c, c ∈ sg ∧ y = sgD c) (rngD 0 (n + v)) (s := s1)
    (by
      unfold fRng1
      simp [fnF, fnL, startN, hide, hideO, nD, bindS, R.bind, R.calm, sRet, sRetN, sRetO, sRetL, sSet, sSeq, sNil, sIf, sDrop, sPar, sTup, sOwn, sNewL, sApp, sAug, sFrz, sRaise, setTn, setT, setAll, fVar, fC, f1, f2, asB, fAnd, fOr, fNot, bAnd, bOr, bNot, bYes, fIf, fChain, fTup, fLst, fArgs, fArgsL, aCons, aNil, gLen, gIsi, isD, gOrd, gInt, gIx, gSl, fSl, oNone, oSome, fItems, itemsOf, lift, liftL, fErr1, fErr2, gInt, gAdd, e1, hr]
      rw [show ((n : Int) + (v : Int)).toNat = n + v by omega]) w1 (by rw [rngD_len]; omega) (by
      intro x hx s2 w2
      obtain ⟨u, s3, e3, hu, w3⟩ := taken_ok sg.length (by omega) (by omega) s2 w2
      have hu' : u < sg.length := by omega
      refine ⟨[some (.nm 0), some (.str sg), some (.int n), some (.int many), some x], sgD sg[u], s3, by simp [setT, setAll, wipeE], ?_, w3, sg[u], List.getElem_mem _, rfl⟩
      have hz : sg.length ≤ sizeLine := sz (by omega)
      simp [fnF, fnL, startN, hide, hideO, nD, bindS, R.bind, R.calm, sRet, sRetN, sRetO, sRetL, sSet, sSeq, sNil, sIf, sDrop, sPar, sTup, sOwn, sNewL, sApp, sAug, sFrz, sRaise, setTn, setT, setAll, fVar, fC, f1, f2, asB, fAnd, fOr, fNot, bAnd, bOr, bNot, bYes, fIf, fChain, fTup, fLst, fArgs, fArgsL, aCons, aNil, gLen, gIsi, isD, gOrd, gInt, gIx, gSl, fSl, oNone, oSome, fItems, itemsOf, lift, liftL, fErr1, fErr2, hz, e3, atI_nat hu', sgD])
  obtain ⟨cs, rfl, hc⟩ := all_sg hP
  rw [rngD_len, List.length_map] at hl
  refine ⟨cs, s', ?_, by omega, by omega, hc, w2⟩
  have e3 := gJoin_sg cs s' (by omega)
  unfold F__law_text b__law_text
  simp only [fnF, startN, List.map, List.append, List.length_cons, List.length_nil, if_true, sRet, nD, fJoin, fC, bind_ok, hide, hideO, List.replicate, bindS]
  simp only [List.map_cons, List.map_nil, hideO, List.cons_append, List.nil_append, e2, bind_ok, e3]
theorem side_ok (L : List Nat) (g : GL L) (s : RS) (w : s.WF) : ∃ a s', F__law_side [.nm 0, .str L] s = .ok (.str a) s' ∧ a.Sublist (35 :: L) ∧ s'.WF := by
  obtain ⟨v, s1, e1, hv, w1⟩ := taken_ok 2 (by decide) (by decide) s w
  have n4 := g.n4
  by_cases h0 : v = 0
  · subst h0
    exact ⟨[], s1, by simp [F__law_side, b__law_side, fnF, fnL, startN, hide, hideO, nD, bindS, R.bind, R.calm, sRet, sRetN, sRetO, sRetL, sSet, sSeq, sNil, sIf, sDrop, sPar, sTup, sOwn, sNewL, sApp, sAug, sFrz, sRaise, setTn, setT, setAll, fVar, fC, f1, f2, asB, fAnd, fOr, fNot, bAnd, bOr, bNot, bYes, fIf, fChain, fTup, fLst, fArgs, fArgsL, aCons, aNil, gLen, gIsi, isD, gOrd, gInt, gIx, gSl, fSl, oNone, oSome, fItems, itemsOf, lift, liftL, fErr1, fErr2, e1, gEq, okE, okD, depD, eqD], List.nil_sublist _, w1⟩
  · have hz : 1 + L.length ≤ sizeLine := sz (by omega)
    have hz' : L.length + 1 ≤ sizeLine := sz (by omega)
    have h0' : ¬ ((v : Int) = 0) := by omega
    obtain ⟨ys, s', e2, w2, hs⟩ := fComp_sub (fi := fItems (f2 gAdd (fC (.str [35])) (fVar 1))) (T := .nm 2) (own := [2]) (c := asB (f2 (gEq id) (fArgs (lift id (fun _ s => s) F__law_taken) (aCons (fVar 0) (aCons (fC (.int 2)) aNil))) (fC (.int 0)))) (e := fVar 2) (η := [some (.nm 0), some (.str L), none]) RS.WF
      ((35 :: L).map sgD) (s := s1) (s0 := s1) (by simp [fItems, fnF, fnL, startN, hide, hideO, nD, bindS, R.bind, R.calm, sRet, sRetN, sRetO, sRetL, sSet, sSeq, sNil, sIf, sDrop, sPar, sTup, sOwn, sNewL, sApp, sAug, sFrz, sRaise, setTn, setT, setAll, fVar, fC, f1, f2, asB, fAnd, fOr, fNot, bAnd, bOr, bNot, bYes, fIf, fChain, fTup, fLst, fArgs, fArgsL, aCons, aNil, gLen, gIsi, isD, gOrd, gInt, gIx, gSl, fSl, oNone, oSome, fItems, itemsOf, lift, liftL, fErr1, fErr2, gAdd, hz, hz', signs_eq]) w1 (by simp; omega) (by
        intro x hx s2 w2
        obtain ⟨u, s3, e3, hu, w3⟩ := taken_ok 2 (by decide) (by decide) s2 w2
        refine ⟨[some (.nm 0), some (.str L), some x], ((u : Int) == 0), s3, by simp [setT, setAll, wipeE], ?_, w3, fun _ s4 _ => by simp [fnF, fnL, startN, hide, hideO, nD, bindS, R.bind, R.calm, sRet, sRetN, sRetO, sRetL, sSet, sSeq, sNil, sIf, sDrop, sPar, sTup, sOwn, sNewL, sApp, sAug, sFrz, sRaise, setTn, setT, setAll, fVar, fC, f1, f2, asB, fAnd, fOr, fNot, bAnd, bOr, bNot, bYes, fIf, fChain, fTup, fLst, fArgs, fArgsL, aCons, aNil, gLen, gIsi, isD, gOrd, gInt, gIx, gSl, fSl, oNone, oSome, fItems, itemsOf, lift, liftL, fErr1, fErr2]⟩
        simp [fnF, fnL, startN, hide, hideO, nD, bindS, R.bind, R.calm, sRet, sRetN, sRetO, sRetL, sSet, sSeq, sNil, sIf, sDrop, sPar, sTup, sOwn, sNewL, sApp, sAug, sFrz, sRaise, setTn, setT, setAll, fVar, fC, f1, f2, asB, fAnd, fOr, fNot, bAnd, bOr, bNot, bYes, fIf, fChain, fTup, fLst, fArgs, fArgsL, aCons, aNil, gLen, gIsi, isD, gOrd, gInt, gIx, gSl, fSl, oNone, oSome, fItems, itemsOf, lift, liftL, fErr1, fErr2, e3, gEq, okE, okD, depD, eqD]
        )
    obtain ⟨cs, rfl, hc⟩ := sublist_map hs
    have hl := hc.length_le
    rw [List.length_cons] at hl
    refine ⟨cs, s', ?_, hc, w2⟩
    have e3 := gJoin_sg cs s' (by omega)
    have h0'' : ((v : Int) == 0) = false := by simpa using h0
    simp [F__law_side, b__law_side, fnF, startN, sSeq, sIf, sNil, sRet, nD, bindS, hide, hideO, asB, f2, fC, fVar, fArgs, aCons, aNil, R.bind, lift, e1, okE, okD, depD, eqD, h0'', fJoin, gEq] at *
    simp [e2, e3]
section
variable {s : RS} {Q : D → RS → Prop} {E : Err → RS → Prop}
theorem taken_to {k : Int} (hk : 0 < k) (hk2 : k < 1073741824) (w : s.WF) (h : ∀ (v : Nat) s', (v : Int) < k → s'.WF → Q (.int v) s') : (F__law_taken [.nm 0, .int k] s).to Q E := by
  obtain ⟨v, s', e, a, b⟩ := taken_ok k hk hk2 s w
  rw [e]
  exact h v s' a b
theorem letters_to (w : s.WF) (h : ∀ L s', GL L → s'.WF → Q (.str L) s') : (F__law_letters [.nm 0] s).to Q E := by
  obtain ⟨v, s', e, a, b⟩ := letters_ok s w
  rw [e]
  exact h v s' a b
theorem text_to {sg : List Nat} {few many : Int} (h1 : 1 ≤ sg.length) (h2 : sg.length ≤ 1000) (h3 : 0 ≤ few) (h4 : few ≤ many) (h5 : many ≤ 1000) (w : s.WF) (h : ∀ (t : List Nat) s', few ≤ t.length → (t.length : Int) ≤ many → (∀ c ∈ t, c ∈ sg) → s'.WF → Q (.str t) s') :
    (F__law_text [.nm 0, .str sg, .int few, .int many] s).to Q E := by
  obtain ⟨t, s', e, a, b, c, d⟩ := text_ok sg few many h1 h2 h3 h4 h5 s w
  rw [e]
  exact h t s' a b c d
theorem side_to {L : List Nat} (g : GL L) (w : s.WF) (h : ∀ (a : List Nat) s', a.Sublist (35 :: L) → s'.WF → Q (.str a) s') : (F__law_side [.nm 0, .str L] s).to Q E := by
  obtain ⟨t, s', e, a, b⟩ := side_ok L g s w
  rw [e]
  exact h t s' a b
theorem rule_to {L : List Nat} (g : GL L) (w : s.WF) (h : ∀ r s', GR L r → s'.WF → Q (dR r) s') : (F__law_rule [.nm 0, .str L] s).to Q E := by
  have n4 := g.n4
  have n1 := g.n1
  simp only [F__law_rule, b__law_rule, to_ok, to_er, to_no, to_bind, to_nx, to_rt, to_rl, to_bk, to_ct, to_err, to_nos, to_bindS, to_seq, to_if, to_raise, to_gR, to_gS, to_for, to_fComp, to_fCompL, to_lift, to_liftL, to_frz, k_b, k_s, k_i, k_c, k_l, k_f, k_and, k_or, k_band, k_bor, k_if, k_asb, k_bnot, then_nx, then_rt, then_rl, then_bk, then_ct, then_er, to_var0, to_varS, hide_nil, hide_cons, hide_d, hide_ow, hide_no, to_nD, to_c, to_f1, to_f2, to_args, to_argsL, to_acons, to_anil, to_and, to_or, to_not, to_band, to_bor, to_bnot, to_byes, to_asb, to_ifx, to_chain, to_tup, to_lst, to_lstL, to_items, to_rng1, to_rng2, to_enum, to_sl, to_oNone, to_oSome, to_join, to_set, to_sown, to_newL, to_sret, to_sretN, to_sretL, to_snil, to_sbk, to_sct, to_drop, to_stup, to_par, to_parL, to_app, to_ext, to_retO, to_aug, to_newK, to_putK, owL0, owLS, owK0, owKS, datD0, datDS, frz0, frzS, set0, setS, gAdd_i, gAdd_s, gAdd_t, gAdd_l, gAddI_i, gInt_i, gOrd_i, gOrd_s, gEq_to, gIs_to, gIn_s, gIx_l, gIx_t, gIx_s, gLen_s, gLen_t, gLen_l, gTup_l, gTup_t, gIsi_to, gIsi2_to, gSl_s, gSl_t, gSl_l, gAll_to, gJoin_to, at_0, at_1, at_2, at_3, k_li, k_set, k_own, k_new, k_drop, k_tupN, k_tupT, k_par, k_app, k_ext, k_its, k_itt, k_itl, k_r1, k_r2, k_ent, k_enl, k_os, k_mk, k_mkl, k_nb, k_op, k_ch, k_bl, k_bf, k_jn, gDct_to, k_dc, gGet_to, gInK_to, to_fkeys, k_ke, to_scr, k_scr, List.zip_cons_cons, List.zip_nil_right, List.zip_nil_left, List.foldl_cons, List.foldl_nil, and_true, true_and, ite_true, ite_false, if_true, if_false, reduceIte, Bool.false_eq_true, Option.some.injEq, D.str.injEq, D.int.injEq, D.tup.injEq, D.lst.injEq, D.bl.injEq, List.cons.injEq, exists_eq_left', exists_eq_left, forL_nil, sizeLine_eq, List.length_cons, List.length_nil, Nat.reduceAdd, Nat.reduceLeDiff, setT, setTn, setAll, wipeE, itemsOf, isD, id_eq, not_false_eq_true, exists_eq, exists_const, to_frzK, to_parK, gSortK_to, gIn_l, k_er, to_tryc, to_pB, k_pk, to_pN, k_pn, frzs_nil, frzs_cons, smU_t, smR_t, to_parLR, to_fnF, to_fnL, startN, List.map_cons, List.map_nil, List.cons_append, List.nil_append, List.replicate, Nat.reduceSub]
  refine side_to g w fun a s1 h1 w1 => ?_
  simp only [to_ok, to_er, to_no, to_bind, to_nx, to_rt, to_rl, to_bk, to_ct, to_err, to_nos, to_bindS, to_seq, to_if, to_raise, to_gR, to_gS, to_for, to_fComp, to_fCompL, to_lift, to_liftL, to_frz, k_b, k_s, k_i, k_c, k_l, k_f, k_and, k_or, k_band, k_bor, k_if, k_asb, k_bnot, then_nx, then_rt, then_rl, then_bk, then_ct, then_er, to_var0, to_varS, hide_nil, hide_cons, hide_d, hide_ow, hide_no, to_nD, to_c, to_f1, to_f2, to_args, to_argsL, to_acons, to_anil, to_and, to_or, to_not, to_band, to_bor, to_bnot, to_byes, to_asb, to_ifx, to_chain, to_tup, to_lst, to_lstL, to_items, to_rng1, to_rng2, to_enum, to_sl, to_oNone, to_oSome, to_join, to_set, to_sown, to_newL, to_sret, to_sretN, to_sretL, to_snil, to_sbk, to_sct, to_drop, to_stup, to_par, to_parL, to_app, to_ext, to_retO, to_aug, to_newK, to_putK, owL0, owLS, owK0, owKS, datD0, datDS, frz0, frzS, set0, setS, gAdd_i, gAdd_s, gAdd_t, gAdd_l, gAddI_i, gInt_i, gOrd_i, gOrd_s, gEq_to, gIs_to, gIn_s, gIx_l, gIx_t, gIx_s, gLen_s, gLen_t, gLen_l, gTup_l, gTup_t, gIsi_to, gIsi2_to, gSl_s, gSl_t, gSl_l, gAll_to, gJoin_to, at_0, at_1, at_2, at_3, k_li, k_set, k_own, k_new, k_drop, k_tupN, k_tupT, k_par, k_app, k_ext, k_its, k_itt, k_itl, k_r1, k_r2, k_ent, k_enl, k_os, k_mk, k_mkl, k_nb, k_op, k_ch, k_bl, k_bf, k_jn, gDct_to, k_dc, gGet_to, gInK_to, to_fkeys, k_ke, to_scr, k_scr, List.zip_cons_cons, List.zip_nil_right, List.zip_nil_left, List.foldl_cons, List.foldl_nil, and_true, true_and, ite_true, ite_false, if_true, if_false, reduceIte, Bool.false_eq_true, Option.some.injEq, D.str.injEq, D.int.injEq, D.tup.injEq, D.lst.injEq, D.bl.injEq, List.cons.injEq, exists_eq_left', exists_eq_left, forL_nil, sizeLine_eq, List.length_cons, List.length_nil, Nat.reduceAdd, Nat.reduceLeDiff, setT, setTn, setAll, wipeE, itemsOf, isD, id_eq, not_false_eq_true, exists_eq, exists_const, to_frzK, to_parK, gSortK_to, gIn_l, k_er, to_tryc, to_pB, k_pk, to_pN, k_pn, frzs_nil, frzs_cons, smU_t, smR_t, to_parLR, to_fnF, to_fnL, startN, List.map_cons, List.map_nil, List.cons_append, List.nil_append, List.replicate, Nat.reduceSub]
  refine text_to n1 (by omega) (by decide) (by decide) (by decide) w1 fun o s2 o1 o2 o3 w2 => ?_
  simp only [to_ok, to_er, to_no, to_bind, to_nx, to_rt, to_rl, to_bk, to_ct, to_err, to_nos, to_bindS, to_seq, to_if, to_raise, to_gR, to_gS, to_for, to_fComp, to_fCompL, to_lift, to_liftL, to_frz, k_b, k_s, k_i, k_c, k_l, k_f, k_and, k_or, k_band, k_bor, k_if, k_asb, k_bnot, then_nx, then_rt, then_rl, then_bk, then_ct, then_er, to_var0, to_varS, hide_nil, hide_cons, hide_d, hide_ow, hide_no, to_nD, to_c, to_f1, to_f2, to_args, to_argsL, to_acons, to_anil, to_and, to_or, to_not, to_band, to_bor, to_bnot, to_byes, to_asb, to_ifx, to_chain, to_tup, to_lst, to_lstL, to_items, to_rng1, to_rng2, to_enum, to_sl, to_oNone, to_oSome, to_join, to_set, to_sown, to_newL, to_sret, to_sretN, to_sretL, to_snil, to_sbk, to_sct, to_drop, to_stup, to_par, to_parL, to_app, to_ext, to_retO, to_aug, to_newK, to_putK, owL0, owLS, owK0, owKS, datD0, datDS, frz0, frzS, set0, setS, gAdd_i, gAdd_s, gAdd_t, gAdd_l, gAddI_i, gInt_i, gOrd_i, gOrd_s, gEq_to, gIs_to, gIn_s, gIx_l, gIx_t, gIx_s, gLen_s, gLen_t, gLen_l, gTup_l, gTup_t, gIsi_to, gIsi2_to, gSl_s, gSl_t, gSl_l, gAll_to, gJoin_to, at_0, at_1, at_2, at_3, k_li, k_set, k_own, k_new, k_drop, k_tupN, k_tupT, k_par, k_app, k_ext, k_its, k_itt, k_itl, k_r1, k_r2, k_ent, k_enl, k_os, k_mk, k_mkl, k_nb, k_op, k_ch, k_bl, k_bf, k_jn, gDct_to, k_dc, gGet_to, gInK_to, to_fkeys, k_ke, to_scr, k_scr, List.zip_cons_cons, List.zip_nil_right, List.zip_nil_left, List.foldl_cons, List.foldl_nil, and_true, true_and, ite_true, ite_false, if_true, if_false, reduceIte, Bool.false_eq_true, Option.some.injEq, D.str.injEq, D.int.injEq, D.tup.injEq, D.lst.injEq, D.bl.injEq, List.cons.injEq, exists_eq_left', exists_eq_left, forL_nil, sizeLine_eq, List.length_cons, List.length_nil, Nat.reduceAdd, Nat.reduceLeDiff, setT, setTn, setAll, wipeE, itemsOf, isD, id_eq, not_false_eq_true, exists_eq, exists_const, to_frzK, to_parK, gSortK_to, gIn_l, k_er, to_tryc, to_pB, k_pk, to_pN, k_pn, frzs_nil, frzs_cons, smU_t, smR_t, to_parLR, to_fnF, to_fnL, startN, List.map_cons, List.map_nil, List.cons_append, List.nil_append, List.replicate, Nat.reduceSub]
  refine side_to g w2 fun b s3 h3 w3 => ?_
  simp only [to_ok, to_er, to_no, to_bind, to_nx, to_rt, to_rl, to_bk, to_ct, to_err, to_nos, to_bindS, to_seq, to_if, to_raise, to_gR, to_gS, to_for, to_fComp, to_fCompL, to_lift, to_liftL, to_frz, k_b, k_s, k_i, k_c, k_l, k_f, k_and, k_or, k_band, k_bor, k_if, k_asb, k_bnot, then_nx, then_rt, then_rl, then_bk, then_ct, then_er, to_var0, to_varS, hide_nil, hide_cons, hide_d, hide_ow, hide_no, to_nD, to_c, to_f1, to_f2, to_args, to_argsL, to_acons, to_anil, to_and, to_or, to_not, to_band, to_bor, to_bnot, to_byes, to_asb, to_ifx, to_chain, to_tup, to_lst, to_lstL, to_items, to_rng1, to_rng2, to_enum, to_sl, to_oNone, to_oSome, to_join, to_set, to_sown, to_newL, to_sret, to_sretN, to_sretL, to_snil, to_sbk, to_sct, to_drop, to_stup, to_par, to_parL, to_app, to_ext, to_retO, to_aug, to_newK, to_putK, owL0, owLS, owK0, owKS, datD0, datDS, frz0, frzS, set0, setS, gAdd_i, gAdd_s, gAdd_t, gAdd_l, gAddI_i, gInt_i, gOrd_i, gOrd_s, gEq_to, gIs_to, gIn_s, gIx_l, gIx_t, gIx_s, gLen_s, gLen_t, gLen_l, gTup_l, gTup_t, gIsi_to, gIsi2_to, gSl_s, gSl_t, gSl_l, gAll_to, gJoin_to, at_0, at_1, at_2, at_3, k_li, k_set, k_own, k_new, k_drop, k_tupN, k_tupT, k_par, k_app, k_ext, k_its, k_itt, k_itl, k_r1, k_r2, k_ent, k_enl, k_os, k_mk, k_mkl, k_nb, k_op, k_ch, k_bl, k_bf, k_jn, gDct_to, k_dc, gGet_to, gInK_to, to_fkeys, k_ke, to_scr, k_scr, List.zip_cons_cons, List.zip_nil_right, List.zip_nil_left, List.foldl_cons, List.foldl_nil, and_true, true_and, ite_true, ite_false, if_true, if_false, reduceIte, Bool.false_eq_true, Option.some.injEq, D.str.injEq, D.int.injEq, D.tup.injEq, D.lst.injEq, D.bl.injEq, List.cons.injEq, exists_eq_left', exists_eq_left, forL_nil, sizeLine_eq, List.length_cons, List.length_nil, Nat.reduceAdd, Nat.reduceLeDiff, setT, setTn, setAll, wipeE, itemsOf, isD, id_eq, not_false_eq_true, exists_eq, exists_const, to_frzK, to_parK, gSortK_to, gIn_l, k_er, to_tryc, to_pB, k_pk, to_pN, k_pn, frzs_nil, frzs_cons, smU_t, smR_t, to_parLR, to_fnF, to_fnL, startN, List.map_cons, List.map_nil, List.cons_append, List.nil_append, List.replicate, Nat.reduceSub]
  refine taken_to (by decide) (by decide) w3 fun v s4 hv w4 => ?_
  simp only [to_ok, to_er, to_no, to_bind, to_nx, to_rt, to_rl, to_bk, to_ct, to_err, to_nos, to_bindS, to_seq, to_if, to_raise, to_gR, to_gS, to_for, to_fComp, to_fCompL, to_lift, to_liftL, to_frz, k_b, k_s, k_i, k_c, k_l, k_f, k_and, k_or, k_band, k_bor, k_if, k_asb, k_bnot, then_nx, then_rt, then_rl, then_bk, then_ct, then_er, to_var0, to_varS, hide_nil, hide_cons, hide_d, hide_ow, hide_no, to_nD, to_c, to_f1, to_f2, to_args, to_argsL, to_acons, to_anil, to_and, to_or, to_not, to_band, to_bor, to_bnot, to_byes, to_asb, to_ifx, to_chain, to_tup, to_lst, to_lstL, to_items, to_rng1, to_rng2, to_enum, to_sl, to_oNone, to_oSome, to_join, to_set, to_sown, to_newL, to_sret, to_sretN, to_sretL, to_snil, to_sbk, to_sct, to_drop, to_stup, to_par, to_parL, to_app, to_ext, to_retO, to_aug, to_newK, to_putK, owL0, owLS, owK0, owKS, datD0, datDS, frz0, frzS, set0, setS, gAdd_i, gAdd_s, gAdd_t, gAdd_l, gAddI_i, gInt_i, gOrd_i, gOrd_s, gEq_to, gIs_to, gIn_s, gIx_l, gIx_t, gIx_s, gLen_s, gLen_t, gLen_l, gTup_l, gTup_t, gIsi_to, gIsi2_to, gSl_s, gSl_t, gSl_l, gAll_to, gJoin_to, at_0, at_1, at_2, at_3, k_li, k_set, k_own, k_new, k_drop, k_tupN, k_tupT, k_par, k_app, k_ext, k_its, k_itt, k_itl, k_r1, k_r2, k_ent, k_enl, k_os, k_mk, k_mkl, k_nb, k_op, k_ch, k_bl, k_bf, k_jn, gDct_to, k_dc, gGet_to, gInK_to, to_fkeys, k_ke, to_scr, k_scr, List.zip_cons_cons, List.zip_nil_right, List.zip_nil_left, List.foldl_cons, List.foldl_nil, and_true, true_and, ite_true, ite_false, if_true, if_false, reduceIte, Bool.false_eq_true, Option.some.injEq, D.str.injEq, D.int.injEq, D.tup.injEq, D.lst.injEq, D.bl.injEq, List.cons.injEq, exists_eq_left', exists_eq_left, forL_nil, sizeLine_eq, List.length_cons, List.length_nil, Nat.reduceAdd, Nat.reduceLeDiff, setT, setTn, setAll, wipeE, itemsOf, isD, id_eq, not_false_eq_true, exists_eq, exists_const, to_frzK, to_parK, gSortK_to, gIn_l, k_er, to_tryc, to_pB, k_pk, to_pN, k_pn, frzs_nil, frzs_cons, smU_t, smR_t, to_parLR, to_fnF, to_fnL, startN, List.map_cons, List.map_nil, List.cons_append, List.nil_append, List.replicate, Nat.reduceSub]
  obtain ⟨k, hk, k0, k3⟩ : ∃ k : Int, L2.atI [D.int 1, D.int 1, D.int 3] (v : Int) = some (.int k) ∧ 0 ≤ k ∧ k ≤ 3 := by
    rcases (show v = 0 ∨ v = 1 ∨ v = 2 by omega) with rfl | rfl | rfl
    · exact ⟨1, rfl, by decide⟩
    · exact ⟨1, rfl, by decide⟩
    · exact ⟨3, rfl, by decide⟩
  simp only [to_ok, to_er, to_no, to_bind, to_nx, to_rt, to_rl, to_bk, to_ct, to_err, to_nos, to_bindS, to_seq, to_if, to_raise, to_gR, to_gS, to_for, to_fComp, to_fCompL, to_lift, to_liftL, to_frz, k_b, k_s, k_i, k_c, k_l, k_f, k_and, k_or, k_band, k_bor, k_if, k_asb, k_bnot, then_nx, then_rt, then_rl, then_bk, then_ct, then_er, to_var0, to_varS, hide_nil, hide_cons, hide_d, hide_ow, hide_no, to_nD, to_c, to_f1, to_f2, to_args, to_argsL, to_acons, to_anil, to_and, to_or, to_not, to_band, to_bor, to_bnot, to_byes, to_asb, to_ifx, to_chain, to_tup, to_lst, to_lstL, to_items, to_rng1, to_rng2, to_enum, to_sl, to_oNone, to_oSome, to_join, to_set, to_sown, to_newL, to_sret, to_sretN, to_sretL, to_snil, to_sbk, to_sct, to_drop, to_stup, to_par, to_parL, to_app, to_ext, to_retO, to_aug, to_newK, to_putK, owL0, owLS, owK0, owKS, datD0, datDS, frz0, frzS, set0, setS, gAdd_i, gAdd_s, gAdd_t, gAdd_l, gAddI_i, gInt_i, gOrd_i, gOrd_s, gEq_to, gIs_to, gIn_s, gIx_l, gIx_t, gIx_s, gLen_s, gLen_t, gLen_l, gTup_l, gTup_t, gIsi_to, gIsi2_to, gSl_s, gSl_t, gSl_l, gAll_to, gJoin_to, at_0, at_1, at_2, at_3, k_li, k_set, k_own, k_new, k_drop, k_tupN, k_tupT, k_par, k_app, k_ext, k_its, k_itt, k_itl, k_r1, k_r2, k_ent, k_enl, k_os, k_mk, k_mkl, k_nb, k_op, k_ch, k_bl, k_bf, k_jn, gDct_to, k_dc, gGet_to, gInK_to, to_fkeys, k_ke, to_scr, k_scr, List.zip_cons_cons, List.zip_nil_right, List.zip_nil_left, List.foldl_cons, List.foldl_nil, and_true, true_and, ite_true, ite_false, if_true, if_false, reduceIte, Bool.false_eq_true, Option.some.injEq, D.str.injEq, D.int.injEq, D.tup.injEq, D.lst.injEq, D.bl.injEq, List.cons.injEq, exists_eq_left', exists_eq_left, forL_nil, sizeLine_eq, List.length_cons, List.length_nil, Nat.reduceAdd, Nat.reduceLeDiff, setT, setTn, setAll, wipeE, itemsOf, isD, id_eq, not_false_eq_true, exists_eq, exists_const, to_frzK, to_parK, gSortK_to, gIn_l, k_er, to_tryc, to_pB, k_pk, to_pN, k_pn, frzs_nil, frzs_cons, smU_t, smR_t, to_parLR, to_fnF, to_fnL, startN, List.map_cons, List.map_nil, List.cons_append, List.nil_append, List.replicate, Nat.reduceSub, hk]
  refine text_to (by decide) (by decide) (by decide) k0 (by omega) w4 fun t s5 t1 t2 t3 w5 => ?_
  simp only [to_ok, to_er, to_no, to_bind, to_nx, to_rt, to_rl, to_bk, to_ct, to_err, to_nos, to_bindS, to_seq, to_if, to_raise, to_gR, to_gS, to_for, to_fComp, to_fCompL, to_lift, to_liftL, to_frz, k_b, k_s, k_i, k_c, k_l, k_f, k_and, k_or, k_band, k_bor, k_if, k_asb, k_bnot, then_nx, then_rt, then_rl, then_bk, then_ct, then_er, to_var0, to_varS, hide_nil, hide_cons, hide_d, hide_ow, hide_no, to_nD, to_c, to_f1, to_f2, to_args, to_argsL, to_acons, to_anil, to_and, to_or, to_not, to_band, to_bor, to_bnot, to_byes, to_asb, to_ifx, to_chain, to_tup, to_lst, to_lstL, to_items, to_rng1, to_rng2, to_enum, to_sl, to_oNone, to_oSome, to_join, to_set, to_sown, to_newL, to_sret, to_sretN, to_sretL, to_snil, to_sbk, to_sct, to_drop, to_stup, to_par, to_parL, to_app, to_ext, to_retO, to_aug, to_newK, to_putK, owL0, owLS, owK0, owKS, datD0, datDS, frz0, frzS, set0, setS, gAdd_i, gAdd_s, gAdd_t, gAdd_l, gAddI_i, gInt_i, gOrd_i, gOrd_s, gEq_to, gIs_to, gIn_s, gIx_l, gIx_t, gIx_s, gLen_s, gLen_t, gLen_l, gTup_l, gTup_t, gIsi_to, gIsi2_to, gSl_s, gSl_t, gSl_l, gAll_to, gJoin_to, at_0, at_1, at_2, at_3, k_li, k_set, k_own, k_new, k_drop, k_tupN, k_tupT, k_par, k_app, k_ext, k_its, k_itt, k_itl, k_r1, k_r2, k_ent, k_enl, k_os, k_mk, k_mkl, k_nb, k_op, k_ch, k_bl, k_bf, k_jn, gDct_to, k_dc, gGet_to, gInK_to, to_fkeys, k_ke, to_scr, k_scr, List.zip_cons_cons, List.zip_nil_right, List.zip_nil_left, List.foldl_cons, List.foldl_nil, and_true, true_and, ite_true, ite_false, if_true, if_false, reduceIte, Bool.false_eq_true, Option.some.injEq, D.str.injEq, D.int.injEq, D.tup.injEq, D.lst.injEq, D.bl.injEq, List.cons.injEq, exists_eq_left', exists_eq_left, forL_nil, sizeLine_eq, List.length_cons, List.length_nil, Nat.reduceAdd, Nat.reduceLeDiff, setT, setTn, setAll, wipeE, itemsOf, isD, id_eq, not_false_eq_true, exists_eq, exists_const, to_frzK, to_parK, gSortK_to, gIn_l, k_er, to_tryc, to_pB, k_pk, to_pN, k_pn, frzs_nil, frzs_cons, smU_t, smR_t, to_parLR, to_fnF, to_fnL, startN, List.map_cons, List.map_nil, List.cons_append, List.nil_append, List.replicate, Nat.reduceSub]
  exact h ⟨a, o, b, t⟩ _ (gr_of g h1 h3 (by simp only; omega) (by simp only; omega) (by simp only; omega) o3 (fun c hc => by have := t3 c hc; simp at this; omega)) w5
theorem rules_to {L : List Nat} {most : Int} (g : GL L) (h0 : 0 ≤ most) (h1 : most ≤ 1000) (w : s.WF) (h : ∀ (rs : List Rl) s', (∀ r ∈ rs, GR L r) → (rs.length : Int) ≤ most + 4 → s'.WF → Q (.tup (rs.map dR)) s') :
    (F__law_rules [.nm 0, .str L, .int most] s).to Q E := by
  have n4 := g.n4
  simp only [F__law_rules, b__law_rules, to_ok, to_er, to_no, to_bind, to_nx, to_rt, to_rl, to_bk, to_ct, to_err, to_nos, to_bindS, to_seq, to_if, to_raise, to_gR, to_gS, to_for, to_fComp, to_fCompL, to_lift, to_liftL, to_frz, k_b, k_s, k_i, k_c, k_l, k_f, k_and, k_or, k_band, k_bor, k_if, k_asb, k_bnot, then_nx, then_rt, then_rl, then_bk, then_ct, then_er, to_var0, to_varS, hide_nil, hide_cons, hide_d, hide_ow, hide_no, to_nD, to_c, to_f1, to_f2, to_args, to_argsL, to_acons, to_anil, to_and, to_or, to_not, to_band, to_bor, to_bnot, to_byes, to_asb, to_ifx, to_chain, to_tup, to_lst, to_lstL, to_items, to_rng1, to_rng2, to_enum, to_sl, to_oNone, to_oSome, to_join, to_set, to_sown, to_newL, to_sret, to_sretN, to_sretL, to_snil, to_sbk, to_sct, to_drop, to_stup, to_par, to_parL, to_app, to_ext, to_retO, to_aug, to_newK, to_putK, owL0, owLS, owK0, owKS, datD0, datDS, frz0, frzS, set0, setS, gAdd_i, gAdd_s, gAdd_t, gAdd_l, gAddI_i, gInt_i, gOrd_i, gOrd_s, gEq_to, gIs_to, gIn_s, gIx_l, gIx_t, gIx_s, gLen_s, gLen_t, gLen_l, gTup_l, gTup_t, gIsi_to, gIsi2_to, gSl_s, gSl_t, gSl_l, gAll_to, gJoin_to, at_0, at_1, at_2, at_3, k_li, k_set, k_own, k_new, k_drop, k_tupN, k_tupT, k_par, k_app, k_ext, k_its, k_itt, k_itl, k_r1, k_r2, k_ent, k_enl, k_os, k_mk, k_mkl, k_nb, k_op, k_ch, k_bl, k_bf, k_jn, gDct_to, k_dc, gGet_to, gInK_to, to_fkeys, k_ke, to_scr, k_scr, List.zip_cons_cons, List.zip_nil_right, List.zip_nil_left, List.foldl_cons, List.foldl_nil, and_true, true_and, ite_true, ite_false, if_true, if_false, reduceIte, Bool.false_eq_true, Option.some.injEq, D.str.injEq, D.int.injEq, D.tup.injEq, D.lst.injEq, D.bl.injEq, List.cons.injEq, exists_eq_left', exists_eq_left, forL_nil, sizeLine_eq, List.length_cons, List.length_nil, Nat.reduceAdd, Nat.reduceLeDiff, setT, setTn, setAll, wipeE, itemsOf, isD, id_eq, not_false_eq_true, exists_eq, exists_const, to_frzK, to_parK, gSortK_to, gIn_l, k_er, to_tryc, to_pB, k_pk, to_pN, k_pn, frzs_nil, frzs_cons, smU_t, smR_t, to_parLR, to_fnF, to_fnL, startN, List.map_cons, List.map_nil, List.cons_append, List.nil_append, List.replicate, Nat.reduceSub]
  refine taken_to (by omega) (by omega) w fun v s1 hv w1 => ?_
  simp only [to_ok, to_er, to_no, to_bind, to_nx, to_rt, to_rl, to_bk, to_ct, to_err, to_nos, to_bindS, to_seq, to_if, to_raise, to_gR, to_gS, to_for, to_fComp, to_fCompL, to_lift, to_liftL, to_frz, k_b, k_s, k_i, k_c, k_l, k_f, k_and, k_or, k_band, k_bor, k_if, k_asb, k_bnot, then_nx, then_rt, then_rl, then_bk, then_ct, then_er, to_var0, to_varS, hide_nil, hide_cons, hide_d, hide_ow, hide_no, to_nD, to_c, to_f1, to_f2, to_args, to_argsL, to_acons, to_anil, to_and, to_or, to_not, to_band, to_bor, to_bnot, to_byes, to_asb, to_ifx, to_chain, to_tup, to_lst, to_lstL, to_items, to_rng1, to_rng2, to_enum, to_sl, to_oNone, to_oSome, to_join, to_set, to_sown, to_newL, to_sret, to_sretN, to_sretL, to_snil, to_sbk, to_sct, to_drop, to_stup, to_par, to_parL, to_app, to_ext, to_retO, to_aug, to_newK, to_putK, owL0, owLS, owK0, owKS, datD0, datDS, frz0, frzS, set0, setS, gAdd_i, gAdd_s, gAdd_t, gAdd_l, gAddI_i, gInt_i, gOrd_i, gOrd_s, gEq_to, gIs_to, gIn_s, gIx_l, gIx_t, gIx_s, gLen_s, gLen_t, gLen_l, gTup_l, gTup_t, gIsi_to, gIsi2_to, gSl_s, gSl_t, gSl_l, gAll_to, gJoin_to, at_0, at_1, at_2, at_3, k_li, k_set, k_own, k_new, k_drop, k_tupN, k_tupT, k_par, k_app, k_ext, k_its, k_itt, k_itl, k_r1, k_r2, k_ent, k_enl, k_os, k_mk, k_mkl, k_nb, k_op, k_ch, k_bl, k_bf, k_jn, gDct_to, k_dc, gGet_to, gInK_to, to_fkeys, k_ke, to_scr, k_scr, List.zip_cons_cons, List.zip_nil_right, List.zip_nil_left, List.foldl_cons, List.foldl_nil, and_true, true_and, ite_true, ite_false, if_true, if_false, reduceIte, Bool.false_eq_true, Option.some.injEq, D.str.injEq, D.int.injEq, D.tup.injEq, D.lst.injEq, D.bl.injEq, List.cons.injEq, exists_eq_left', exists_eq_left, forL_nil, sizeLine_eq, List.length_cons, List.length_nil, Nat.reduceAdd, Nat.reduceLeDiff, setT, setTn, setAll, wipeE, itemsOf, isD, id_eq, not_false_eq_true, exists_eq, exists_const, to_frzK, to_parK, gSortK_to, gIn_l, k_er, to_tryc, to_pB, k_pk, to_pN, k_pn, frzs_nil, frzs_cons, smU_t, smR_t, to_parLR, to_fnF, to_fnL, startN, List.map_cons, List.map_nil, List.cons_append, List.nil_append, List.replicate, Nat.reduceSub, okR_nat (show v ≤ 1000000000 by omega), Int.toNat_natCast, rngD_len]
  refine ⟨by omega, comp_inv RS.WF (fun y => ∃ r, GR L r ∧ y = dR r) w1 (fun x hx s2 w2 => ⟨_, rfl, ?_⟩) fun ys s2 w2 hl hy => ?_⟩
  · simp only [to_ok, to_er, to_no, to_bind, to_nx, to_rt, to_rl, to_bk, to_ct, to_err, to_nos, to_bindS, to_seq, to_if, to_raise, to_gR, to_gS, to_for, to_fComp, to_fCompL, to_lift, to_liftL, to_frz, k_b, k_s, k_i, k_c, k_l, k_f, k_and, k_or, k_band, k_bor, k_if, k_asb, k_bnot, then_nx, then_rt, then_rl, then_bk, then_ct, then_er, to_var0, to_varS, hide_nil, hide_cons, hide_d, hide_ow, hide_no, to_nD, to_c, to_f1, to_f2, to_args, to_argsL, to_acons, to_anil, to_and, to_or, to_not, to_band, to_bor, to_bnot, to_byes, to_asb, to_ifx, to_chain, to_tup, to_lst, to_lstL, to_items, to_rng1, to_rng2, to_enum, to_sl, to_oNone, to_oSome, to_join, to_set, to_sown, to_newL, to_sret, to_sretN, to_sretL, to_snil, to_sbk, to_sct, to_drop, to_stup, to_par, to_parL, to_app, to_ext, to_retO, to_aug, to_newK, to_putK, owL0, owLS, owK0, owKS, datD0, datDS, frz0, frzS, set0, setS, gAdd_i, gAdd_s, gAdd_t, gAdd_l, gAddI_i, gInt_i, gOrd_i, gOrd_s, gEq_to, gIs_to, gIn_s, gIx_l, gIx_t, gIx_s, gLen_s, gLen_t, gLen_l, gTup_l, gTup_t, gIsi_to, gIsi2_to, gSl_s, gSl_t, gSl_l, gAll_to, gJoin_to, at_0, at_1, at_2, at_3, k_li, k_set, k_own, k_new, k_drop, k_tupN, k_tupT, k_par, k_app, k_ext, k_its, k_itt, k_itl, k_r1, k_r2, k_ent, k_enl, k_os, k_mk, k_mkl, k_nb, k_op, k_ch, k_bl, k_bf, k_jn, gDct_to, k_dc, gGet_to, gInK_to, to_fkeys, k_ke, to_scr, k_scr, List.zip_cons_cons, List.zip_nil_right, List.zip_nil_left, List.foldl_cons, List.foldl_nil, and_true, true_and, ite_true, ite_false, if_true, if_false, reduceIte, Bool.false_eq_true, Option.some.injEq, D.str.injEq, D.int.injEq, D.tup.injEq, D.lst.injEq, D.bl.injEq, List.cons.injEq, exists_eq_left', exists_eq_left, forL_nil, sizeLine_eq, List.length_cons, List.length_nil, Nat.reduceAdd, Nat.reduceLeDiff, setT, setTn, setAll, wipeE, itemsOf, isD, id_eq, not_false_eq_true, exists_eq, exists_const, to_frzK, to_parK, gSortK_to, gIn_l, k_er, to_tryc, to_pB, k_pk, to_pN, k_pn, frzs_nil, frzs_cons, smU_t, smR_t, to_parLR, to_fnF, to_fnL, startN, List.map_cons, List.map_nil, List.cons_append, List.nil_append, List.replicate, Nat.reduceSub]
    exact rule_to g w2 fun r s3 hr w3 => ⟨w3, r, hr, rfl⟩
  obtain ⟨rs, rfl, hrs⟩ := all_of hy
  rw [rngD_len, List.length_map] at hl
  simp only [to_ok, to_er, to_no, to_bind, to_nx, to_rt, to_rl, to_bk, to_ct, to_err, to_nos, to_bindS, to_seq, to_if, to_raise, to_gR, to_gS, to_for, to_fComp, to_fCompL, to_lift, to_liftL, to_frz, k_b, k_s, k_i, k_c, k_l, k_f, k_and, k_or, k_band, k_bor, k_if, k_asb, k_bnot, then_nx, then_rt, then_rl, then_bk, then_ct, then_er, to_var0, to_varS, hide_nil, hide_cons, hide_d, hide_ow, hide_no, to_nD, to_c, to_f1, to_f2, to_args, to_argsL, to_acons, to_anil, to_and, to_or, to_not, to_band, to_bor, to_bnot, to_byes, to_asb, to_ifx, to_chain, to_tup, to_lst, to_lstL, to_items, to_rng1, to_rng2, to_enum, to_sl, to_oNone, to_oSome, to_join, to_set, to_sown, to_newL, to_sret, to_sretN, to_sretL, to_snil, to_sbk, to_sct, to_drop, to_stup, to_par, to_parL, to_app, to_ext, to_retO, to_aug, to_newK, to_putK, owL0, owLS, owK0, owKS, datD0, datDS, frz0, frzS, set0, setS, gAdd_i, gAdd_s, gAdd_t, gAdd_l, gAddI_i, gInt_i, gOrd_i, gOrd_s, gEq_to, gIs_to, gIn_s, gIx_l, gIx_t, gIx_s, gLen_s, gLen_t, gLen_l, gTup_l, gTup_t, gIsi_to, gIsi2_to, gSl_s, gSl_t, gSl_l, gAll_to, gJoin_to, at_0, at_1, at_2, at_3, k_li, k_set, k_own, k_new, k_drop, k_tupN, k_tupT, k_par, k_app, k_ext, k_its, k_itt, k_itl, k_r1, k_r2, k_ent, k_enl, k_os, k_mk, k_mkl, k_nb, k_op, k_ch, k_bl, k_bf, k_jn, gDct_to, k_dc, gGet_to, gInK_to, to_fkeys, k_ke, to_scr, k_scr, List.zip_cons_cons, List.zip_nil_right, List.zip_nil_left, List.foldl_cons, List.foldl_nil, and_true, true_and, ite_true, ite_false, if_true, if_false, reduceIte, Bool.false_eq_true, Option.some.injEq, D.str.injEq, D.int.injEq, D.tup.injEq, D.lst.injEq, D.bl.injEq, List.cons.injEq, exists_eq_left', exists_eq_left, forL_nil, sizeLine_eq, List.length_cons, List.length_nil, Nat.reduceAdd, Nat.reduceLeDiff, setT, setTn, setAll, wipeE, itemsOf, isD, id_eq, not_false_eq_true, exists_eq, exists_const, to_frzK, to_parK, gSortK_to, gIn_l, k_er, to_tryc, to_pB, k_pk, to_pN, k_pn, frzs_nil, frzs_cons, smU_t, smR_t, to_parLR, to_fnF, to_fnL, startN, List.map_cons, List.map_nil, List.cons_append, List.nil_append, List.replicate, Nat.reduceSub]
  refine taken_to (by decide) (by decide) w2 fun u s3 hu w3 => ?_
  simp only [to_ok, to_er, to_no, to_bind, to_nx, to_rt, to_rl, to_bk, to_ct, to_err, to_nos, to_bindS, to_seq, to_if, to_raise, to_gR, to_gS, to_for, to_fComp, to_fCompL, to_lift, to_liftL, to_frz, k_b, k_s, k_i, k_c, k_l, k_f, k_and, k_or, k_band, k_bor, k_if, k_asb, k_bnot, then_nx, then_rt, then_rl, then_bk, then_ct, then_er, to_var0, to_varS, hide_nil, hide_cons, hide_d, hide_ow, hide_no, to_nD, to_c, to_f1, to_f2, to_args, to_argsL, to_acons, to_anil, to_and, to_or, to_not, to_band, to_bor, to_bnot, to_byes, to_asb, to_ifx, to_chain, to_tup, to_lst, to_lstL, to_items, to_rng1, to_rng2, to_enum, to_sl, to_oNone, to_oSome, to_join, to_set, to_sown, to_newL, to_sret, to_sretN, to_sretL, to_snil, to_sbk, to_sct, to_drop, to_stup, to_par, to_parL, to_app, to_ext, to_retO, to_aug, to_newK, to_putK, owL0, owLS, owK0, owKS, datD0, datDS, frz0, frzS, set0, setS, gAdd_i, gAdd_s, gAdd_t, gAdd_l, gAddI_i, gInt_i, gOrd_i, gOrd_s, gEq_to, gIs_to, gIn_s, gIx_l, gIx_t, gIx_s, gLen_s, gLen_t, gLen_l, gTup_l, gTup_t, gIsi_to, gIsi2_to, gSl_s, gSl_t, gSl_l, gAll_to, gJoin_to, at_0, at_1, at_2, at_3, k_li, k_set, k_own, k_new, k_drop, k_tupN, k_tupT, k_par, k_app, k_ext, k_its, k_itt, k_itl, k_r1, k_r2, k_ent, k_enl, k_os, k_mk, k_mkl, k_nb, k_op, k_ch, k_bl, k_bf, k_jn, gDct_to, k_dc, gGet_to, gInK_to, to_fkeys, k_ke, to_scr, k_scr, List.zip_cons_cons, List.zip_nil_right, List.zip_nil_left, List.foldl_cons, List.foldl_nil, and_true, true_and, ite_true, ite_false, if_true, if_false, reduceIte, Bool.false_eq_true, Option.some.injEq, D.str.injEq, D.int.injEq, D.tup.injEq, D.lst.injEq, D.bl.injEq, List.cons.injEq, exists_eq_left', exists_eq_left, forL_nil, sizeLine_eq, List.length_cons, List.length_nil, Nat.reduceAdd, Nat.reduceLeDiff, setT, setTn, setAll, wipeE, itemsOf, isD, id_eq, not_false_eq_true, exists_eq, exists_const, to_frzK, to_parK, gSortK_to, gIn_l, k_er, to_tryc, to_pB, k_pk, to_pN, k_pn, frzs_nil, frzs_cons, smU_t, smR_t, to_parLR, to_fnF, to_fnL, startN, List.map_cons, List.map_nil, List.cons_append, List.nil_append, List.replicate, Nat.reduceSub]
  by_cases hu0 : (0 : Int) < u
  · simp only [to_ok, to_er, to_no, to_bind, to_nx, to_rt, to_rl, to_bk, to_ct, to_err, to_nos, to_bindS, to_seq, to_if, to_raise, to_gR, to_gS, to_for, to_fComp, to_fCompL, to_lift, to_liftL, to_frz, k_b, k_s, k_i, k_c, k_l, k_f, k_and, k_or, k_band, k_bor, k_if, k_asb, k_bnot, then_nx, then_rt, then_rl, then_bk, then_ct, then_er, to_var0, to_varS, hide_nil, hide_cons, hide_d, hide_ow, hide_no, to_nD, to_c, to_f1, to_f2, to_args, to_argsL, to_acons, to_anil, to_and, to_or, to_not, to_band, to_bor, to_bnot, to_byes, to_asb, to_ifx, to_chain, to_tup, to_lst, to_lstL, to_items, to_rng1, to_rng2, to_enum, to_sl, to_oNone, to_oSome, to_join, to_set, to_sown, to_newL, to_sret, to_sretN, to_sretL, to_snil, to_sbk, to_sct, to_drop, to_stup, to_par, to_parL, to_app, to_ext, to_retO, to_aug, to_newK, to_putK, owL0, owLS, owK0, owKS, datD0, datDS, frz0, frzS, set0, setS, gAdd_i, gAdd_s, gAdd_t, gAdd_l, gAddI_i, gInt_i, gOrd_i, gOrd_s, gEq_to, gIs_to, gIn_s, gIx_l, gIx_t, gIx_s, gLen_s, gLen_t, gLen_l, gTup_l, gTup_t, gIsi_to, gIsi2_to, gSl_s, gSl_t, gSl_l, gAll_to, gJoin_to, at_0, at_1, at_2, at_3, k_li, k_set, k_own, k_new, k_drop, k_tupN, k_tupT, k_par, k_app, k_ext, k_its, k_itt, k_itl, k_r1, k_r2, k_ent, k_enl, k_os, k_mk, k_mkl, k_nb, k_op, k_ch, k_bl, k_bf, k_jn, gDct_to, k_dc, gGet_to, gInK_to, to_fkeys, k_ke, to_scr, k_scr, List.zip_cons_cons, List.zip_nil_right, List.zip_nil_left, List.foldl_cons, List.foldl_nil, and_true, true_and, ite_true, ite_false, if_true, if_false, reduceIte, Bool.false_eq_true, Option.some.injEq, D.str.injEq, D.int.injEq, D.tup.injEq, D.lst.injEq, D.bl.injEq, List.cons.injEq, exists_eq_left', exists_eq_left, forL_nil, sizeLine_eq, List.length_cons, List.length_nil, Nat.reduceAdd, Nat.reduceLeDiff, setT, setTn, setAll, wipeE, itemsOf, isD, id_eq, not_false_eq_true, exists_eq, exists_const, to_frzK, to_parK, gSortK_to, gIn_l, k_er, to_tryc, to_pB, k_pk, to_pN, k_pn, frzs_nil, frzs_cons, smU_t, smR_t, to_parLR, to_fnF, to_fnL, startN, List.map_cons, List.map_nil, List.cons_append, List.nil_append, List.replicate, Nat.reduceSub, hu0, decide_true]
    refine for_list (fun l ε s' => s'.WF ∧ (∀ c ∈ l, c ∈ L) ∧ ∃ (qs : List Rl) (x : Option O), (∀ r ∈ qs, GR L r) ∧ qs.length + l.length = v + L.length ∧ ε = [some (.d (.nm 0)), some (.d (.str L)), some (.d (.int most)), some (.ow (.l (qs.map dR))), x, none])
      ⟨w3, fun c hc => hc, rs, none, hrs, by omega, rfl⟩ ?_ ?_
    · rintro c rest ε s4 ⟨w4, hcL, qs, x, hq, hql, rfl⟩
      refine ⟨_, rfl, ?_⟩
      simp only [to_ok, to_er, to_no, to_bind, to_nx, to_rt, to_rl, to_bk, to_ct, to_err, to_nos, to_bindS, to_seq, to_if, to_raise, to_gR, to_gS, to_for, to_fComp, to_fCompL, to_lift, to_liftL, to_frz, k_b, k_s, k_i, k_c, k_l, k_f, k_and, k_or, k_band, k_bor, k_if, k_asb, k_bnot, then_nx, then_rt, then_rl, then_bk, then_ct, then_er, to_var0, to_varS, hide_nil, hide_cons, hide_d, hide_ow, hide_no, to_nD, to_c, to_f1, to_f2, to_args, to_argsL, to_acons, to_anil, to_and, to_or, to_not, to_band, to_bor, to_bnot, to_byes, to_asb, to_ifx, to_chain, to_tup, to_lst, to_lstL, to_items, to_rng1, to_rng2, to_enum, to_sl, to_oNone, to_oSome, to_join, to_set, to_sown, to_newL, to_sret, to_sretN, to_sretL, to_snil, to_sbk, to_sct, to_drop, to_stup, to_par, to_parL, to_app, to_ext, to_retO, to_aug, to_newK, to_putK, owL0, owLS, owK0, owKS, datD0, datDS, frz0, frzS, set0, setS, gAdd_i, gAdd_s, gAdd_t, gAdd_l, gAddI_i, gInt_i, gOrd_i, gOrd_s, gEq_to, gIs_to, gIn_s, gIx_l, gIx_t, gIx_s, gLen_s, gLen_t, gLen_l, gTup_l, gTup_t, gIsi_to, gIsi2_to, gSl_s, gSl_t, gSl_l, gAll_to, gJoin_to, at_0, at_1, at_2, at_3, k_li, k_set, k_own, k_new, k_drop, k_tupN, k_tupT, k_par, k_app, k_ext, k_its, k_itt, k_itl, k_r1, k_r2, k_ent, k_enl, k_os, k_mk, k_mkl, k_nb, k_op, k_ch, k_bl, k_bf, k_jn, gDct_to, k_dc, gGet_to, gInK_to, to_fkeys, k_ke, to_scr, k_scr, List.zip_cons_cons, List.zip_nil_right, List.zip_nil_left, List.foldl_cons, List.foldl_nil, and_true, true_and, ite_true, ite_false, if_true, if_false, reduceIte, Bool.false_eq_true, Option.some.injEq, D.str.injEq, D.int.injEq, D.tup.injEq, D.lst.injEq, D.bl.injEq, List.cons.injEq, exists_eq_left', exists_eq_left, forL_nil, sizeLine_eq, List.length_cons, List.length_nil, Nat.reduceAdd, Nat.reduceLeDiff, setT, setTn, setAll, wipeE, itemsOf, isD, id_eq, not_false_eq_true, exists_eq, exists_const, to_frzK, to_parK, gSortK_to, gIn_l, k_er, to_tryc, to_pB, k_pk, to_pN, k_pn, frzs_nil, frzs_cons, smU_t, smR_t, to_parLR, to_fnF, to_fnL, startN, List.map_cons, List.map_nil, List.cons_append, List.nil_append, List.replicate, Nat.reduceSub, sgD]
      refine taken_to (by decide) (by decide) w4 fun v5 s5 hv5 w5 => ?_
      obtain ⟨k, hk, k3, ks⟩ := sound_at (show v5 < 4 by omega)
      rw [List.length_cons] at hql
      simp only [to_ok, to_er, to_no, to_bind, to_nx, to_rt, to_rl, to_bk, to_ct, to_err, to_nos, to_bindS, to_seq, to_if, to_raise, to_gR, to_gS, to_for, to_fComp, to_fCompL, to_lift, to_liftL, to_frz, k_b, k_s, k_i, k_c, k_l, k_f, k_and, k_or, k_band, k_bor, k_if, k_asb, k_bnot, then_nx, then_rt, then_rl, then_bk, then_ct, then_er, to_var0, to_varS, hide_nil, hide_cons, hide_d, hide_ow, hide_no, to_nD, to_c, to_f1, to_f2, to_args, to_argsL, to_acons, to_anil, to_and, to_or, to_not, to_band, to_bor, to_bnot, to_byes, to_asb, to_ifx, to_chain, to_tup, to_lst, to_lstL, to_items, to_rng1, to_rng2, to_enum, to_sl, to_oNone, to_oSome, to_join, to_set, to_sown, to_newL, to_sret, to_sretN, to_sretL, to_snil, to_sbk, to_sct, to_drop, to_stup, to_par, to_parL, to_app, to_ext, to_retO, to_aug, to_newK, to_putK, owL0, owLS, owK0, owKS, datD0, datDS, frz0, frzS, set0, setS, gAdd_i, gAdd_s, gAdd_t, gAdd_l, gAddI_i, gInt_i, gOrd_i, gOrd_s, gEq_to, gIs_to, gIn_s, gIx_l, gIx_t, gIx_s, gLen_s, gLen_t, gLen_l, gTup_l, gTup_t, gIsi_to, gIsi2_to, gSl_s, gSl_t, gSl_l, gAll_to, gJoin_to, at_0, at_1, at_2, at_3, k_li, k_set, k_own, k_new, k_drop, k_tupN, k_tupT, k_par, k_app, k_ext, k_its, k_itt, k_itl, k_r1, k_r2, k_ent, k_enl, k_os, k_mk, k_mkl, k_nb, k_op, k_ch, k_bl, k_bf, k_jn, gDct_to, k_dc, gGet_to, gInK_to, to_fkeys, k_ke, to_scr, k_scr, List.zip_cons_cons, List.zip_nil_right, List.zip_nil_left, List.foldl_cons, List.foldl_nil, and_true, true_and, ite_true, ite_false, if_true, if_false, reduceIte, Bool.false_eq_true, Option.some.injEq, D.str.injEq, D.int.injEq, D.tup.injEq, D.lst.injEq, D.bl.injEq, List.cons.injEq, exists_eq_left', exists_eq_left, forL_nil, sizeLine_eq, List.length_cons, List.length_nil, Nat.reduceAdd, Nat.reduceLeDiff, setT, setTn, setAll, wipeE, itemsOf, isD, id_eq, not_false_eq_true, exists_eq, exists_const, to_frzK, to_parK, gSortK_to, gIn_l, k_er, to_tryc, to_pB, k_pk, to_pN, k_pn, frzs_nil, frzs_cons, smU_t, smR_t, to_parLR, to_fnF, to_fnL, startN, List.map_cons, List.map_nil, List.cons_append, List.nil_append, List.replicate, Nat.reduceSub, hk, List.length_map]
      refine ⟨by omega, w5, fun c hc => hcL c (List.mem_cons_of_mem _ hc), qs ++ [⟨[], [c], [], k⟩], some (.d (.str [c])), fun r hr => ?_, by rw [List.length_append, List.length_singleton]; omega, by simp [dR]⟩
      rcases List.mem_append.mp hr with hr | hr
      · exact hq r hr
      · rw [List.mem_singleton.mp hr]
        exact gr_of g (List.nil_sublist _) (List.nil_sublist _) (by simp) (by simp) k3 (by simpa using hcL c List.mem_cons_self) ks
    · rintro ε s4 ⟨w4, hcL, qs, x, hq, hql, rfl⟩
      simp only [to_ok, to_er, to_no, to_bind, to_nx, to_rt, to_rl, to_bk, to_ct, to_err, to_nos, to_bindS, to_seq, to_if, to_raise, to_gR, to_gS, to_for, to_fComp, to_fCompL, to_lift, to_liftL, to_frz, k_b, k_s, k_i, k_c, k_l, k_f, k_and, k_or, k_band, k_bor, k_if, k_asb, k_bnot, then_nx, then_rt, then_rl, then_bk, then_ct, then_er, to_var0, to_varS, hide_nil, hide_cons, hide_d, hide_ow, hide_no, to_nD, to_c, to_f1, to_f2, to_args, to_argsL, to_acons, to_anil, to_and, to_or, to_not, to_band, to_bor, to_bnot, to_byes, to_asb, to_ifx, to_chain, to_tup, to_lst, to_lstL, to_items, to_rng1, to_rng2, to_enum, to_sl, to_oNone, to_oSome, to_join, to_set, to_sown, to_newL, to_sret, to_sretN, to_sretL, to_snil, to_sbk, to_sct, to_drop, to_stup, to_par, to_parL, to_app, to_ext, to_retO, to_aug, to_newK, to_putK, owL0, owLS, owK0, owKS, datD0, datDS, frz0, frzS, set0, setS, gAdd_i, gAdd_s, gAdd_t, gAdd_l, gAddI_i, gInt_i, gOrd_i, gOrd_s, gEq_to, gIs_to, gIn_s, gIx_l, gIx_t, gIx_s, gLen_s, gLen_t, gLen_l, gTup_l, gTup_t, gIsi_to, gIsi2_to, gSl_s, gSl_t, gSl_l, gAll_to, gJoin_to, at_0, at_1, at_2, at_3, k_li, k_set, k_own, k_new, k_drop, k_tupN, k_tupT, k_par, k_app, k_ext, k_its, k_itt, k_itl, k_r1, k_r2, k_ent, k_enl, k_os, k_mk, k_mkl, k_nb, k_op, k_ch, k_bl, k_bf, k_jn, gDct_to, k_dc, gGet_to, gInK_to, to_fkeys, k_ke, to_scr, k_scr, List.zip_cons_cons, List.zip_nil_right, List.zip_nil_left, List.foldl_cons, List.foldl_nil, and_true, true_and, ite_true, ite_false, if_true, if_false, reduceIte, Bool.false_eq_true, Option.some.injEq, D.str.injEq, D.int.injEq, D.tup.injEq, D.lst.injEq, D.bl.injEq, List.cons.injEq, exists_eq_left', exists_eq_left, forL_nil, sizeLine_eq, List.length_cons, List.length_nil, Nat.reduceAdd, Nat.reduceLeDiff, setT, setTn, setAll, wipeE, itemsOf, isD, id_eq, not_false_eq_true, exists_eq, exists_const, to_frzK, to_parK, gSortK_to, gIn_l, k_er, to_tryc, to_pB, k_pk, to_pN, k_pn, frzs_nil, frzs_cons, smU_t, smR_t, to_parLR, to_fnF, to_fnL, startN, List.map_cons, List.map_nil, List.cons_append, List.nil_append, List.replicate, Nat.reduceSub]
      rw [List.length_nil] at hql
      exact h qs _ hq (by omega) w4
  · simp only [to_ok, to_er, to_no, to_bind, to_nx, to_rt, to_rl, to_bk, to_ct, to_err, to_nos, to_bindS, to_seq, to_if, to_raise, to_gR, to_gS, to_for, to_fComp, to_fCompL, to_lift, to_liftL, to_frz, k_b, k_s, k_i, k_c, k_l, k_f, k_and, k_or, k_band, k_bor, k_if, k_asb, k_bnot, then_nx, then_rt, then_rl, then_bk, then_ct, then_er, to_var0, to_varS, hide_nil, hide_cons, hide_d, hide_ow, hide_no, to_nD, to_c, to_f1, to_f2, to_args, to_argsL, to_acons, to_anil, to_and, to_or, to_not, to_band, to_bor, to_bnot, to_byes, to_asb, to_ifx, to_chain, to_tup, to_lst, to_lstL, to_items, to_rng1, to_rng2, to_enum, to_sl, to_oNone, to_oSome, to_join, to_set, to_sown, to_newL, to_sret, to_sretN, to_sretL, to_snil, to_sbk, to_sct, to_drop, to_stup, to_par, to_parL, to_app, to_ext, to_retO, to_aug, to_newK, to_putK, owL0, owLS, owK0, owKS, datD0, datDS, frz0, frzS, set0, setS, gAdd_i, gAdd_s, gAdd_t, gAdd_l, gAddI_i, gInt_i, gOrd_i, gOrd_s, gEq_to, gIs_to, gIn_s, gIx_l, gIx_t, gIx_s, gLen_s, gLen_t, gLen_l, gTup_l, gTup_t, gIsi_to, gIsi2_to, gSl_s, gSl_t, gSl_l, gAll_to, gJoin_to, at_0, at_1, at_2, at_3, k_li, k_set, k_own, k_new, k_drop, k_tupN, k_tupT, k_par, k_app, k_ext, k_its, k_itt, k_itl, k_r1, k_r2, k_ent, k_enl, k_os, k_mk, k_mkl, k_nb, k_op, k_ch, k_bl, k_bf, k_jn, gDct_to, k_dc, gGet_to, gInK_to, to_fkeys, k_ke, to_scr, k_scr, List.zip_cons_cons, List.zip_nil_right, List.zip_nil_left, List.foldl_cons, List.foldl_nil, and_true, true_and, ite_true, ite_false, if_true, if_false, reduceIte, Bool.false_eq_true, Option.some.injEq, D.str.injEq, D.int.injEq, D.tup.injEq, D.lst.injEq, D.bl.injEq, List.cons.injEq, exists_eq_left', exists_eq_left, forL_nil, sizeLine_eq, List.length_cons, List.length_nil, Nat.reduceAdd, Nat.reduceLeDiff, setT, setTn, setAll, wipeE, itemsOf, isD, id_eq, not_false_eq_true, exists_eq, exists_const, to_frzK, to_parK, gSortK_to, gIn_l, k_er, to_tryc, to_pB, k_pk, to_pN, k_pn, frzs_nil, frzs_cons, smU_t, smR_t, to_parLR, to_fnF, to_fnL, startN, List.map_cons, List.map_nil, List.cons_append, List.nil_append, List.replicate, Nat.reduceSub, hu0, decide_false]
    exact h rs _ hrs (by omega) w3
end
section
variable {s : Unit} {Q : D → Unit → Prop} {E : Err → Unit → Prop}
/-- the plain walk, told by the law's own walk -/
theorem F__law_walk_eq (rs : List Rl) (w : List Nat) (hw : w.length ≤ 1000000) (kw : okS w) (hr : ∀ r ∈ rs, r.ok) (hl : rs.length ≤ 1000000) (s : Unit) : F__law_walk [.tup (rs.map dR), .str w] s = .ok (walkD (walkP rs w (w.length + 1) 0 [])) s := by
  apply R.eq_of
  simp only [F__law_walk, b__law_walk, to_ok, to_er, to_no, to_bind, to_nx, to_rt, to_rl, to_bk, to_ct, to_err, to_nos, to_bindS, to_seq, to_if, to_raise, to_gR, to_gS, to_for, to_fComp, to_fCompL, to_lift, to_liftL, to_frz, k_b, k_s, k_i, k_c, k_l, k_f, k_and, k_or, k_band, k_bor, k_if, k_asb, k_bnot, then_nx, then_rt, then_rl, then_bk, then_ct, then_er, to_var0, to_varS, hide_nil, hide_cons, hide_d, hide_ow, hide_no, to_nD, to_c, to_f1, to_f2, to_args, to_argsL, to_acons, to_anil, to_and, to_or, to_not, to_band, to_bor, to_bnot, to_byes, to_asb, to_ifx, to_chain, to_tup, to_lst, to_lstL, to_items, to_rng1, to_rng2, to_enum, to_sl, to_oNone, to_oSome, to_join, to_set, to_sown, to_newL, to_sret, to_sretN, to_sretL, to_snil, to_sbk, to_sct, to_drop, to_stup, to_par, to_parL, to_app, to_ext, to_retO, to_aug, to_newK, to_putK, owL0, owLS, owK0, owKS, datD0, datDS, frz0, frzS, set0, setS, gAdd_i, gAdd_s, gAdd_t, gAdd_l, gAddI_i, gInt_i, gOrd_i, gOrd_s, gEq_to, gIs_to, gIn_s, gIx_l, gIx_t, gIx_s, gLen_s, gLen_t, gLen_l, gTup_l, gTup_t, gIsi_to, gIsi2_to, gSl_s, gSl_t, gSl_l, gAll_to, gJoin_to, at_0, at_1, at_2, at_3, k_li, k_set, k_own, k_new, k_drop, k_tupN, k_tupT, k_par, k_app, k_ext, k_its, k_itt, k_itl, k_r1, k_r2, k_ent, k_enl, k_os, k_mk, k_mkl, k_nb, k_op, k_ch, k_bl, k_bf, k_jn, gDct_to, k_dc, gGet_to, gInK_to, to_fkeys, k_ke, to_scr, k_scr, List.zip_cons_cons, List.zip_nil_right, List.zip_nil_left, List.foldl_cons, List.foldl_nil, and_true, true_and, ite_true, ite_false, if_true, if_false, reduceIte, Bool.false_eq_true, Option.some.injEq, D.str.injEq, D.int.injEq, D.tup.injEq, D.lst.injEq, D.bl.injEq, List.cons.injEq, exists_eq_left', exists_eq_left, forL_nil, sizeLine_eq, List.length_cons, List.length_nil, Nat.reduceAdd, Nat.reduceLeDiff, setT, setTn, setAll, wipeE, itemsOf, isD, id_eq, not_false_eq_true, exists_eq, exists_const, to_frzK, to_parK, gSortK_to, gIn_l, k_er, to_tryc, to_pB, k_pk, to_pN, k_pn, frzs_nil, frzs_cons, smU_t, smR_t, to_parLR, to_fnF, to_fnL, startN, List.map_cons, List.map_nil, List.cons_append, List.nil_append, List.replicate, Nat.reduceSub]
  refine while_to (fun n ε s' => ∃ (p : Nat) (acc : List (Nat × Nat)) (x : Option O), p ≤ w.length ∧ acc.length ≤ p ∧ n = w.length - p ∧ walkP rs w (n + 1) p acc = walkP rs w (w.length + 1) 0 [] ∧ ε = [some (.d (.tup (rs.map dR))), some (.d (.str w)), some (.d (.int p)), some (.ow (.l (acc.map dPN))), x, none])
    w.length ⟨0, [], none, by omega, by simp, by omega, rfl, rfl⟩ ?_
  rintro n ε s' ⟨p, acc, x, hp, ha, rfl, hwk, rfl⟩
  simp only [to_ok, to_er, to_no, to_bind, to_nx, to_rt, to_rl, to_bk, to_ct, to_err, to_nos, to_bindS, to_seq, to_if, to_raise, to_gR, to_gS, to_for, to_fComp, to_fCompL, to_lift, to_liftL, to_frz, k_b, k_s, k_i, k_c, k_l, k_f, k_and, k_or, k_band, k_bor, k_if, k_asb, k_bnot, then_nx, then_rt, then_rl, then_bk, then_ct, then_er, to_var0, to_varS, hide_nil, hide_cons, hide_d, hide_ow, hide_no, to_nD, to_c, to_f1, to_f2, to_args, to_argsL, to_acons, to_anil, to_and, to_or, to_not, to_band, to_bor, to_bnot, to_byes, to_asb, to_ifx, to_chain, to_tup, to_lst, to_lstL, to_items, to_rng1, to_rng2, to_enum, to_sl, to_oNone, to_oSome, to_join, to_set, to_sown, to_newL, to_sret, to_sretN, to_sretL, to_snil, to_sbk, to_sct, to_drop, to_stup, to_par, to_parL, to_app, to_ext, to_retO, to_aug, to_newK, to_putK, owL0, owLS, owK0, owKS, datD0, datDS, frz0, frzS, set0, setS, gAdd_i, gAdd_s, gAdd_t, gAdd_l, gAddI_i, gInt_i, gOrd_i, gOrd_s, gEq_to, gIs_to, gIn_s, gIx_l, gIx_t, gIx_s, gLen_s, gLen_t, gLen_l, gTup_l, gTup_t, gIsi_to, gIsi2_to, gSl_s, gSl_t, gSl_l, gAll_to, gJoin_to, at_0, at_1, at_2, at_3, k_li, k_set, k_own, k_new, k_drop, k_tupN, k_tupT, k_par, k_app, k_ext, k_its, k_itt, k_itl, k_r1, k_r2, k_ent, k_enl, k_os, k_mk, k_mkl, k_nb, k_op, k_ch, k_bl, k_bf, k_jn, gDct_to, k_dc, gGet_to, gInK_to, to_fkeys, k_ke, to_scr, k_scr, List.zip_cons_cons, List.zip_nil_right, List.zip_nil_left, List.foldl_cons, List.foldl_nil, and_true, true_and, ite_true, ite_false, if_true, if_false, reduceIte, Bool.false_eq_true, Option.some.injEq, D.str.injEq, D.int.injEq, D.tup.injEq, D.lst.injEq, D.bl.injEq, List.cons.injEq, exists_eq_left', exists_eq_left, forL_nil, sizeLine_eq, List.length_cons, List.length_nil, Nat.reduceAdd, Nat.reduceLeDiff, setT, setTn, setAll, wipeE, itemsOf, isD, id_eq, not_false_eq_true, exists_eq, exists_const, to_frzK, to_parK, gSortK_to, gIn_l, k_er, to_tryc, to_pB, k_pk, to_pN, k_pn, frzs_nil, frzs_cons, smU_t, smR_t, to_parLR, to_fnF, to_fnL, startN, List.map_cons, List.map_nil, List.cons_append, List.nil_append, List.replicate, Nat.reduceSub]
  refine ⟨by omega, ?_⟩
  by_cases hlt : p < w.length
  · have hlt' : (p : Int) < (w.length : Int) := by omega
    simp only [to_ok, to_er, to_no, to_bind, to_nx, to_rt, to_rl, to_bk, to_ct, to_err, to_nos, to_bindS, to_seq, to_if, to_raise, to_gR, to_gS, to_for, to_fComp, to_fCompL, to_lift, to_liftL, to_frz, k_b, k_s, k_i, k_c, k_l, k_f, k_and, k_or, k_band, k_bor, k_if, k_asb, k_bnot, then_nx, then_rt, then_rl, then_bk, then_ct, then_er, to_var0, to_varS, hide_nil, hide_cons, hide_d, hide_ow, hide_no, to_nD, to_c, to_f1, to_f2, to_args, to_argsL, to_acons, to_anil, to_and, to_or, to_not, to_band, to_bor, to_bnot, to_byes, to_asb, to_ifx, to_chain, to_tup, to_lst, to_lstL, to_items, to_rng1, to_rng2, to_enum, to_sl, to_oNone, to_oSome, to_join, to_set, to_sown, to_newL, to_sret, to_sretN, to_sretL, to_snil, to_sbk, to_sct, to_drop, to_stup, to_par, to_parL, to_app, to_ext, to_retO, to_aug, to_newK, to_putK, owL0, owLS, owK0, owKS, datD0, datDS, frz0, frzS, set0, setS, gAdd_i, gAdd_s, gAdd_t, gAdd_l, gAddI_i, gInt_i, gOrd_i, gOrd_s, gEq_to, gIs_to, gIn_s, gIx_l, gIx_t, gIx_s, gLen_s, gLen_t, gLen_l, gTup_l, gTup_t, gIsi_to, gIsi2_to, gSl_s, gSl_t, gSl_l, gAll_to, gJoin_to, at_0, at_1, at_2, at_3, k_li, k_set, k_own, k_new, k_drop, k_tupN, k_tupT, k_par, k_app, k_ext, k_its, k_itt, k_itl, k_r1, k_r2, k_ent, k_enl, k_os, k_mk, k_mkl, k_nb, k_op, k_ch, k_bl, k_bf, k_jn, gDct_to, k_dc, gGet_to, gInK_to, to_fkeys, k_ke, to_scr, k_scr, List.zip_cons_cons, List.zip_nil_right, List.zip_nil_left, List.foldl_cons, List.foldl_nil, and_true, true_and, ite_true, ite_false, if_true, if_false, reduceIte, Bool.false_eq_true, Option.some.injEq, D.str.injEq, D.int.injEq, D.tup.injEq, D.lst.injEq, D.bl.injEq, List.cons.injEq, exists_eq_left', exists_eq_left, forL_nil, sizeLine_eq, List.length_cons, List.length_nil, Nat.reduceAdd, Nat.reduceLeDiff, setT, setTn, setAll, wipeE, itemsOf, isD, id_eq, not_false_eq_true, exists_eq, exists_const, to_frzK, to_parK, gSortK_to, gIn_l, k_er, to_tryc, to_pB, k_pk, to_pN, k_pn, frzs_nil, frzs_cons, smU_t, smR_t, to_parLR, to_fnF, to_fnL, startN, List.map_cons, List.map_nil, List.cons_append, List.nil_append, List.replicate, Nat.reduceSub, hlt', decide_true, List.length_map, okR_nat (show rs.length ≤ 1000000000 by omega), Int.toNat_natCast, rngD_len, rngD_zero]
    refine ⟨by rw [List.length_range]; omega, comp_map (fun k => match rs[k]? with | some r => fitB r w p | none => false) (fun k : Nat => D.int k) (fun k hk => ⟨_, rfl, ?_, fun _ => ?_⟩) ?_⟩
    · rw [List.mem_range] at hk
      have hk' : rs[k]? = some rs[k] := List.getElem?_eq_getElem hk
      have ok := hr _ (List.getElem_mem hk)
      have a1 : L2.atI (rs.map dR) (k : Int) = some (dR rs[k]) := by rw [atI_eq, List.getElem?_map, hk']; rfl
      simp only [to_ok, to_er, to_no, to_bind, to_nx, to_rt, to_rl, to_bk, to_ct, to_err, to_nos, to_bindS, to_seq, to_if, to_raise, to_gR, to_gS, to_for, to_fComp, to_fCompL, to_lift, to_liftL, to_frz, k_b, k_s, k_i, k_c, k_l, k_f, k_and, k_or, k_band, k_bor, k_if, k_asb, k_bnot, then_nx, then_rt, then_rl, then_bk, then_ct, then_er, to_var0, to_varS, hide_nil, hide_cons, hide_d, hide_ow, hide_no, to_nD, to_c, to_f1, to_f2, to_args, to_argsL, to_acons, to_anil, to_and, to_or, to_not, to_band, to_bor, to_bnot, to_byes, to_asb, to_ifx, to_chain, to_tup, to_lst, to_lstL, to_items, to_rng1, to_rng2, to_enum, to_sl, to_oNone, to_oSome, to_join, to_set, to_sown, to_newL, to_sret, to_sretN, to_sretL, to_snil, to_sbk, to_sct, to_drop, to_stup, to_par, to_parL, to_app, to_ext, to_retO, to_aug, to_newK, to_putK, owL0, owLS, owK0, owKS, datD0, datDS, frz0, frzS, set0, setS, gAdd_i, gAdd_s, gAdd_t, gAdd_l, gAddI_i, gInt_i, gOrd_i, gOrd_s, gEq_to, gIs_to, gIn_s, gIx_l, gIx_t, gIx_s, gLen_s, gLen_t, gLen_l, gTup_l, gTup_t, gIsi_to, gIsi2_to, gSl_s, gSl_t, gSl_l, gAll_to, gJoin_to, at_0, at_1, at_2, at_3, k_li, k_set, k_own, k_new, k_drop, k_tupN, k_tupT, k_par, k_app, k_ext, k_its, k_itt, k_itl, k_r1, k_r2, k_ent, k_enl, k_os, k_mk, k_mkl, k_nb, k_op, k_ch, k_bl, k_bf, k_jn, gDct_to, k_dc, gGet_to, gInK_to, to_fkeys, k_ke, to_scr, k_scr, List.zip_cons_cons, List.zip_nil_right, List.zip_nil_left, List.foldl_cons, List.foldl_nil, and_true, true_and, ite_true, ite_false, if_true, if_false, reduceIte, Bool.false_eq_true, Option.some.injEq, D.str.injEq, D.int.injEq, D.tup.injEq, D.lst.injEq, D.bl.injEq, List.cons.injEq, exists_eq_left', exists_eq_left, forL_nil, sizeLine_eq, List.length_cons, List.length_nil, Nat.reduceAdd, Nat.reduceLeDiff, setT, setTn, setAll, wipeE, itemsOf, isD, id_eq, not_false_eq_true, exists_eq, exists_const, to_frzK, to_parK, gSortK_to, gIn_l, k_er, to_tryc, to_pB, k_pk, to_pN, k_pn, frzs_nil, frzs_cons, smU_t, smR_t, to_parLR, to_fnF, to_fnL, startN, List.map_cons, List.map_nil, List.cons_append, List.nil_append, List.replicate, Nat.reduceSub, a1, F__law_fits_eq rs[k] w p _ hw ok.lo hp ok.n35 kw ok.ka ok.ko ok.kb, hk']
    · simp only [to_ok, to_er, to_no, to_bind, to_nx, to_rt, to_rl, to_bk, to_ct, to_err, to_nos, to_bindS, to_seq, to_if, to_raise, to_gR, to_gS, to_for, to_fComp, to_fCompL, to_lift, to_liftL, to_frz, k_b, k_s, k_i, k_c, k_l, k_f, k_and, k_or, k_band, k_bor, k_if, k_asb, k_bnot, then_nx, then_rt, then_rl, then_bk, then_ct, then_er, to_var0, to_varS, hide_nil, hide_cons, hide_d, hide_ow, hide_no, to_nD, to_c, to_f1, to_f2, to_args, to_argsL, to_acons, to_anil, to_and, to_or, to_not, to_band, to_bor, to_bnot, to_byes, to_asb, to_ifx, to_chain, to_tup, to_lst, to_lstL, to_items, to_rng1, to_rng2, to_enum, to_sl, to_oNone, to_oSome, to_join, to_set, to_sown, to_newL, to_sret, to_sretN, to_sretL, to_snil, to_sbk, to_sct, to_drop, to_stup, to_par, to_parL, to_app, to_ext, to_retO, to_aug, to_newK, to_putK, owL0, owLS, owK0, owKS, datD0, datDS, frz0, frzS, set0, setS, gAdd_i, gAdd_s, gAdd_t, gAdd_l, gAddI_i, gInt_i, gOrd_i, gOrd_s, gEq_to, gIs_to, gIn_s, gIx_l, gIx_t, gIx_s, gLen_s, gLen_t, gLen_l, gTup_l, gTup_t, gIsi_to, gIsi2_to, gSl_s, gSl_t, gSl_l, gAll_to, gJoin_to, at_0, at_1, at_2, at_3, k_li, k_set, k_own, k_new, k_drop, k_tupN, k_tupT, k_par, k_app, k_ext, k_its, k_itt, k_itl, k_r1, k_r2, k_ent, k_enl, k_os, k_mk, k_mkl, k_nb, k_op, k_ch, k_bl, k_bf, k_jn, gDct_to, k_dc, gGet_to, gInK_to, to_fkeys, k_ke, to_scr, k_scr, List.zip_cons_cons, List.zip_nil_right, List.zip_nil_left, List.foldl_cons, List.foldl_nil, and_true, true_and, ite_true, ite_false, if_true, if_false, reduceIte, Bool.false_eq_true, Option.some.injEq, D.str.injEq, D.int.injEq, D.tup.injEq, D.lst.injEq, D.bl.injEq, List.cons.injEq, exists_eq_left', exists_eq_left, forL_nil, sizeLine_eq, List.length_cons, List.length_nil, Nat.reduceAdd, Nat.reduceLeDiff, setT, setTn, setAll, wipeE, itemsOf, isD, id_eq, not_false_eq_true, exists_eq, exists_const, to_frzK, to_parK, gSortK_to, gIn_l, k_er, to_tryc, to_pB, k_pk, to_pN, k_pn, frzs_nil, frzs_cons, smU_t, smR_t, to_parLR, to_fnF, to_fnL, startN, List.map_cons, List.map_nil, List.cons_append, List.nil_append, List.replicate, Nat.reduceSub]
    · change KL _ ((fitL rs w p).map fun k : Nat => D.int k) s'
      have k1 := okE_ints (fitL rs w p)
      have k2 : okE (.lst []) = true := rfl
      cases e : fitL rs w p with
      | nil =>
        have wk : walkP rs w (w.length + 1) 0 [] = .inl p := by rw [← hwk]; simp only [walkP, if_pos hlt, e]
        simp only [to_ok, to_er, to_no, to_bind, to_nx, to_rt, to_rl, to_bk, to_ct, to_err, to_nos, to_bindS, to_seq, to_if, to_raise, to_gR, to_gS, to_for, to_fComp, to_fCompL, to_lift, to_liftL, to_frz, k_b, k_s, k_i, k_c, k_l, k_f, k_and, k_or, k_band, k_bor, k_if, k_asb, k_bnot, then_nx, then_rt, then_rl, then_bk, then_ct, then_er, to_var0, to_varS, hide_nil, hide_cons, hide_d, hide_ow, hide_no, to_nD, to_c, to_f1, to_f2, to_args, to_argsL, to_acons, to_anil, to_and, to_or, to_not, to_band, to_bor, to_bnot, to_byes, to_asb, to_ifx, to_chain, to_tup, to_lst, to_lstL, to_items, to_rng1, to_rng2, to_enum, to_sl, to_oNone, to_oSome, to_join, to_set, to_sown, to_newL, to_sret, to_sretN, to_sretL, to_snil, to_sbk, to_sct, to_drop, to_stup, to_par, to_parL, to_app, to_ext, to_retO, to_aug, to_newK, to_putK, owL0, owLS, owK0, owKS, datD0, datDS, frz0, frzS, set0, setS, gAdd_i, gAdd_s, gAdd_t, gAdd_l, gAddI_i, gInt_i, gOrd_i, gOrd_s, gEq_to, gIs_to, gIn_s, gIx_l, gIx_t, gIx_s, gLen_s, gLen_t, gLen_l, gTup_l, gTup_t, gIsi_to, gIsi2_to, gSl_s, gSl_t, gSl_l, gAll_to, gJoin_to, at_0, at_1, at_2, at_3, k_li, k_set, k_own, k_new, k_drop, k_tupN, k_tupT, k_par, k_app, k_ext, k_its, k_itt, k_itl, k_r1, k_r2, k_ent, k_enl, k_os, k_mk, k_mkl, k_nb, k_op, k_ch, k_bl, k_bf, k_jn, gDct_to, k_dc, gGet_to, gInK_to, to_fkeys, k_ke, to_scr, k_scr, List.zip_cons_cons, List.zip_nil_right, List.zip_nil_left, List.foldl_cons, List.foldl_nil, and_true, true_and, ite_true, ite_false, if_true, if_false, reduceIte, Bool.false_eq_true, Option.some.injEq, D.str.injEq, D.int.injEq, D.tup.injEq, D.lst.injEq, D.bl.injEq, List.cons.injEq, exists_eq_left', exists_eq_left, forL_nil, sizeLine_eq, List.length_cons, List.length_nil, Nat.reduceAdd, Nat.reduceLeDiff, setT, setTn, setAll, wipeE, itemsOf, isD, id_eq, not_false_eq_true, exists_eq, exists_const, to_frzK, to_parK, gSortK_to, gIn_l, k_er, to_tryc, to_pB, k_pk, to_pN, k_pn, frzs_nil, frzs_cons, smU_t, smR_t, to_parLR, to_fnF, to_fnL, startN, List.map_cons, List.map_nil, List.cons_append, List.nil_append, List.replicate, Nat.reduceSub, List.map_nil, k2, eqD, eqDs, wk, walkD]
      | cons k ks =>
        rw [e] at k1
        obtain ⟨r, hk, hf⟩ := fitL_mem (show k ∈ fitL rs w p by rw [e]; exact List.mem_cons_self)
        have ok := hr r (List.mem_of_getElem? hk)
        have ho : ownLen rs k = r.o.length := by unfold ownLen; rw [hk]
        have h0 : 0 < r.o.length := List.length_pos_iff.mpr ok.no
        have hle := fitB_le hf hp
        have lo := ok.lo
        have a1 : L2.atI (rs.map dR) (k : Int) = some (dR r) := by rw [atI_eq, List.getElem?_map, hk]; rfl
        have a2 : dR r = .tup [.str r.a, .str r.o, .str r.b, .str r.s] := rfl
        simp only [List.map_cons] at k1
        simp only [to_ok, to_er, to_no, to_bind, to_nx, to_rt, to_rl, to_bk, to_ct, to_err, to_nos, to_bindS, to_seq, to_if, to_raise, to_gR, to_gS, to_for, to_fComp, to_fCompL, to_lift, to_liftL, to_frz, k_b, k_s, k_i, k_c, k_l, k_f, k_and, k_or, k_band, k_bor, k_if, k_asb, k_bnot, then_nx, then_rt, then_rl, then_bk, then_ct, then_er, to_var0, to_varS, hide_nil, hide_cons, hide_d, hide_ow, hide_no, to_nD, to_c, to_f1, to_f2, to_args, to_argsL, to_acons, to_anil, to_and, to_or, to_not, to_band, to_bor, to_bnot, to_byes, to_asb, to_ifx, to_chain, to_tup, to_lst, to_lstL, to_items, to_rng1, to_rng2, to_enum, to_sl, to_oNone, to_oSome, to_join, to_set, to_sown, to_newL, to_sret, to_sretN, to_sretL, to_snil, to_sbk, to_sct, to_drop, to_stup, to_par, to_parL, to_app, to_ext, to_retO, to_aug, to_newK, to_putK, owL0, owLS, owK0, owKS, datD0, datDS, frz0, frzS, set0, setS, gAdd_i, gAdd_s, gAdd_t, gAdd_l, gAddI_i, gInt_i, gOrd_i, gOrd_s, gEq_to, gIs_to, gIn_s, gIx_l, gIx_t, gIx_s, gLen_s, gLen_t, gLen_l, gTup_l, gTup_t, gIsi_to, gIsi2_to, gSl_s, gSl_t, gSl_l, gAll_to, gJoin_to, at_0, at_1, at_2, at_3, k_li, k_set, k_own, k_new, k_drop, k_tupN, k_tupT, k_par, k_app, k_ext, k_its, k_itt, k_itl, k_r1, k_r2, k_ent, k_enl, k_os, k_mk, k_mkl, k_nb, k_op, k_ch, k_bl, k_bf, k_jn, gDct_to, k_dc, gGet_to, gInK_to, to_fkeys, k_ke, to_scr, k_scr, List.zip_cons_cons, List.zip_nil_right, List.zip_nil_left, List.foldl_cons, List.foldl_nil, and_true, true_and, ite_true, ite_false, if_true, if_false, reduceIte, Bool.false_eq_true, Option.some.injEq, D.str.injEq, D.int.injEq, D.tup.injEq, D.lst.injEq, D.bl.injEq, List.cons.injEq, exists_eq_left', exists_eq_left, forL_nil, sizeLine_eq, List.length_cons, List.length_nil, Nat.reduceAdd, Nat.reduceLeDiff, setT, setTn, setAll, wipeE, itemsOf, isD, id_eq, not_false_eq_true, exists_eq, exists_const, to_frzK, to_parK, gSortK_to, gIn_l, k_er, to_tryc, to_pB, k_pk, to_pN, k_pn, frzs_nil, frzs_cons, smU_t, smR_t, to_parLR, to_fnF, to_fnL, startN, List.map_cons, List.map_nil, List.cons_append, List.nil_append, List.replicate, Nat.reduceSub, List.map_cons, k1, k2, eqD, eqDs, List.length_map, a1, a2]
        refine ⟨by omega, by omega, w.length - (p + r.o.length), by omega, p + r.o.length, acc ++ [(p, k)], some (.d (.lst ((k :: ks).map fun k : Nat => D.int k))), by omega, by rw [List.length_append, List.length_singleton]; omega, rfl, ?_, by simp [dPN]⟩
        rw [← hwk]
        have e2 : walkP rs w (w.length - p + 1) p acc = walkP rs w (w.length - p) (p + ownLen rs k) (acc ++ [(p, k)]) := by
          simp only [walkP, if_pos hlt, e]
        rw [e2, ho]
        exact walkP_fuel hr _ _ (by omega) (by omega) (by omega)
  · have hlt' : ¬ (p : Int) < (w.length : Int) := by omega
    have wk : walkP rs w (w.length + 1) 0 [] = .inr acc := by rw [← hwk]; simp only [walkP, if_neg hlt]
    simp only [to_ok, to_er, to_no, to_bind, to_nx, to_rt, to_rl, to_bk, to_ct, to_err, to_nos, to_bindS, to_seq, to_if, to_raise, to_gR, to_gS, to_for, to_fComp, to_fCompL, to_lift, to_liftL, to_frz, k_b, k_s, k_i, k_c, k_l, k_f, k_and, k_or, k_band, k_bor, k_if, k_asb, k_bnot, then_nx, then_rt, then_rl, then_bk, then_ct, then_er, to_var0, to_varS, hide_nil, hide_cons, hide_d, hide_ow, hide_no, to_nD, to_c, to_f1, to_f2, to_args, to_argsL, to_acons, to_anil, to_and, to_or, to_not, to_band, to_bor, to_bnot, to_byes, to_asb, to_ifx, to_chain, to_tup, to_lst, to_lstL, to_items, to_rng1, to_rng2, to_enum, to_sl, to_oNone, to_oSome, to_join, to_set, to_sown, to_newL, to_sret, to_sretN, to_sretL, to_snil, to_sbk, to_sct, to_drop, to_stup, to_par, to_parL, to_app, to_ext, to_retO, to_aug, to_newK, to_putK, owL0, owLS, owK0, owKS, datD0, datDS, frz0, frzS, set0, setS, gAdd_i, gAdd_s, gAdd_t, gAdd_l, gAddI_i, gInt_i, gOrd_i, gOrd_s, gEq_to, gIs_to, gIn_s, gIx_l, gIx_t, gIx_s, gLen_s, gLen_t, gLen_l, gTup_l, gTup_t, gIsi_to, gIsi2_to, gSl_s, gSl_t, gSl_l, gAll_to, gJoin_to, at_0, at_1, at_2, at_3, k_li, k_set, k_own, k_new, k_drop, k_tupN, k_tupT, k_par, k_app, k_ext, k_its, k_itt, k_itl, k_r1, k_r2, k_ent, k_enl, k_os, k_mk, k_mkl, k_nb, k_op, k_ch, k_bl, k_bf, k_jn, gDct_to, k_dc, gGet_to, gInK_to, to_fkeys, k_ke, to_scr, k_scr, List.zip_cons_cons, List.zip_nil_right, List.zip_nil_left, List.foldl_cons, List.foldl_nil, and_true, true_and, ite_true, ite_false, if_true, if_false, reduceIte, Bool.false_eq_true, Option.some.injEq, D.str.injEq, D.int.injEq, D.tup.injEq, D.lst.injEq, D.bl.injEq, List.cons.injEq, exists_eq_left', exists_eq_left, forL_nil, sizeLine_eq, List.length_cons, List.length_nil, Nat.reduceAdd, Nat.reduceLeDiff, setT, setTn, setAll, wipeE, itemsOf, isD, id_eq, not_false_eq_true, exists_eq, exists_const, to_frzK, to_parK, gSortK_to, gIn_l, k_er, to_tryc, to_pB, k_pk, to_pN, k_pn, frzs_nil, frzs_cons, smU_t, smR_t, to_parLR, to_fnF, to_fnL, startN, List.map_cons, List.map_nil, List.cons_append, List.nil_append, List.replicate, Nat.reduceSub, hlt', decide_false, wk, walkD]
end
section
variable (n : Nat) (s : Unit)
theorem alike_flat (d : D) (hs : smD d = true) (hf : flD d = true) : FR__law_alike (n + 1) [d, d] s = .ok (.bl true) s := by
  have kb : ∀ b, okE (.bl b) = true := fun b => rfl
  have kt : eqD (.bl true) (.bl true) = true := rfl
  have kf : eqD (.bl false) (.bl false) = true := rfl
  have kr := eqD_refl d (smD_ok hs)
  cases d with
  | tup xs => cases hf
  | lst xs => cases hf
  | nm i => cases hs
  | dct _ _ => cases hs
  | non =>
    apply R.eq_of
    simp only [FR__law_alike, b__law_alike, to_ok, to_er, to_no, to_bind, to_nx, to_rt, to_rl, to_bk, to_ct, to_err, to_nos, to_bindS, to_seq, to_if, to_raise, to_gR, to_gS, to_for, to_fComp, to_fCompL, to_lift, to_liftL, to_frz, k_b, k_s, k_i, k_c, k_l, k_f, k_and, k_or, k_band, k_bor, k_if, k_asb, k_bnot, then_nx, then_rt, then_rl, then_bk, then_ct, then_er, to_var0, to_varS, hide_nil, hide_cons, hide_d, hide_ow, hide_no, to_nD, to_c, to_f1, to_f2, to_args, to_argsL, to_acons, to_anil, to_and, to_or, to_not, to_band, to_bor, to_bnot, to_byes, to_asb, to_ifx, to_chain, to_tup, to_lst, to_lstL, to_items, to_rng1, to_rng2, to_enum, to_sl, to_oNone, to_oSome, to_join, to_set, to_sown, to_newL, to_sret, to_sretN, to_sretL, to_snil, to_sbk, to_sct, to_drop, to_stup, to_par, to_parL, to_app, to_ext, to_retO, to_aug, to_newK, to_putK, owL0, owLS, owK0, owKS, datD0, datDS, frz0, frzS, set0, setS, gAdd_i, gAdd_s, gAdd_t, gAdd_l, gAddI_i, gInt_i, gOrd_i, gOrd_s, gEq_to, gIs_to, gIn_s, gIx_l, gIx_t, gIx_s, gLen_s, gLen_t, gLen_l, gTup_l, gTup_t, gIsi_to, gIsi2_to, gSl_s, gSl_t, gSl_l, gAll_to, gJoin_to, at_0, at_1, at_2, at_3, k_li, k_set, k_own, k_new, k_drop, k_tupN, k_tupT, k_par, k_app, k_ext, k_its, k_itt, k_itl, k_r1, k_r2, k_ent, k_enl, k_os, k_mk, k_mkl, k_nb, k_op, k_ch, k_bl, k_bf, k_jn, gDct_to, k_dc, gGet_to, gInK_to, to_fkeys, k_ke, to_scr, k_scr, List.zip_cons_cons, List.zip_nil_right, List.zip_nil_left, List.foldl_cons, List.foldl_nil, and_true, true_and, ite_true, ite_false, if_true, if_false, reduceIte, Bool.false_eq_true, Option.some.injEq, D.str.injEq, D.int.injEq, D.tup.injEq, D.lst.injEq, D.bl.injEq, List.cons.injEq, exists_eq_left', exists_eq_left, forL_nil, sizeLine_eq, List.length_cons, List.length_nil, Nat.reduceAdd, Nat.reduceLeDiff, setT, setTn, setAll, wipeE, itemsOf, isD, id_eq, not_false_eq_true, exists_eq, exists_const, to_frzK, to_parK, gSortK_to, gIn_l, k_er, to_tryc, to_pB, k_pk, to_pN, k_pn, frzs_nil, frzs_cons, smU_t, smR_t, to_parLR, to_fnF, to_fnL, startN, List.map_cons, List.map_nil, List.cons_append, List.nil_append, List.replicate, Nat.reduceSub, kb, kt, kf, Dm.isNon, Bool.or_false, Bool.not_true, Bool.not_false]
  | bl b =>
    have ke := okE_of hs (by simp [depD])
    apply R.eq_of
    simp only [FR__law_alike, b__law_alike, to_ok, to_er, to_no, to_bind, to_nx, to_rt, to_rl, to_bk, to_ct, to_err, to_nos, to_bindS, to_seq, to_if, to_raise, to_gR, to_gS, to_for, to_fComp, to_fCompL, to_lift, to_liftL, to_frz, k_b, k_s, k_i, k_c, k_l, k_f, k_and, k_or, k_band, k_bor, k_if, k_asb, k_bnot, then_nx, then_rt, then_rl, then_bk, then_ct, then_er, to_var0, to_varS, hide_nil, hide_cons, hide_d, hide_ow, hide_no, to_nD, to_c, to_f1, to_f2, to_args, to_argsL, to_acons, to_anil, to_and, to_or, to_not, to_band, to_bor, to_bnot, to_byes, to_asb, to_ifx, to_chain, to_tup, to_lst, to_lstL, to_items, to_rng1, to_rng2, to_enum, to_sl, to_oNone, to_oSome, to_join, to_set, to_sown, to_newL, to_sret, to_sretN, to_sretL, to_snil, to_sbk, to_sct, to_drop, to_stup, to_par, to_parL, to_app, to_ext, to_retO, to_aug, to_newK, to_putK, owL0, owLS, owK0, owKS, datD0, datDS, frz0, frzS, set0, setS, gAdd_i, gAdd_s, gAdd_t, gAdd_l, gAddI_i, gInt_i, gOrd_i, gOrd_s, gEq_to, gIs_to, gIn_s, gIx_l, gIx_t, gIx_s, gLen_s, gLen_t, gLen_l, gTup_l, gTup_t, gIsi_to, gIsi2_to, gSl_s, gSl_t, gSl_l, gAll_to, gJoin_to, at_0, at_1, at_2, at_3, k_li, k_set, k_own, k_new, k_drop, k_tupN, k_tupT, k_par, k_app, k_ext, k_its, k_itt, k_itl, k_r1, k_r2, k_ent, k_enl, k_os, k_mk, k_mkl, k_nb, k_op, k_ch, k_bl, k_bf, k_jn, gDct_to, k_dc, gGet_to, gInK_to, to_fkeys, k_ke, to_scr, k_scr, List.zip_cons_cons, List.zip_nil_right, List.zip_nil_left, List.foldl_cons, List.foldl_nil, and_true, true_and, ite_true, ite_false, if_true, if_false, reduceIte, Bool.false_eq_true, Option.some.injEq, D.str.injEq, D.int.injEq, D.tup.injEq, D.lst.injEq, D.bl.injEq, List.cons.injEq, exists_eq_left', exists_eq_left, forL_nil, sizeLine_eq, List.length_cons, List.length_nil, Nat.reduceAdd, Nat.reduceLeDiff, setT, setTn, setAll, wipeE, itemsOf, isD, id_eq, not_false_eq_true, exists_eq, exists_const, to_frzK, to_parK, gSortK_to, gIn_l, k_er, to_tryc, to_pB, k_pk, to_pN, k_pn, frzs_nil, frzs_cons, smU_t, smR_t, to_parLR, to_fnF, to_fnL, startN, List.map_cons, List.map_nil, List.cons_append, List.nil_append, List.replicate, Nat.reduceSub, kb, kt, kf, Dm.isNon, Bool.or_false, Bool.not_true, Bool.not_false, kr, ke]
  | int i =>
    have ke := okE_of hs (by simp [depD])
    apply R.eq_of
    simp only [FR__law_alike, b__law_alike, to_ok, to_er, to_no, to_bind, to_nx, to_rt, to_rl, to_bk, to_ct, to_err, to_nos, to_bindS, to_seq, to_if, to_raise, to_gR, to_gS, to_for, to_fComp, to_fCompL, to_lift, to_liftL, to_frz, k_b, k_s, k_i, k_c, k_l, k_f, k_and, k_or, k_band, k_bor, k_if, k_asb, k_bnot, then_nx, then_rt, then_rl, then_bk, then_ct, then_er, to_var0, to_varS, hide_nil, hide_cons, hide_d, hide_ow, hide_no, to_nD, to_c, to_f1, to_f2, to_args, to_argsL, to_acons, to_anil, to_and, to_or, to_not, to_band, to_bor, to_bnot, to_byes, to_asb, to_ifx, to_chain, to_tup, to_lst, to_lstL, to_items, to_rng1, to_rng2, to_enum, to_sl, to_oNone, to_oSome, to_join, to_set, to_sown, to_newL, to_sret, to_sretN, to_sretL, to_snil, to_sbk, to_sct, to_drop, to_stup, to_par, to_parL, to_app, to_ext, to_retO, to_aug, to_newK, to_putK, owL0, owLS, owK0, owKS, datD0, datDS, frz0, frzS, set0, setS, gAdd_i, gAdd_s, gAdd_t, gAdd_l, gAddI_i, gInt_i, gOrd_i, gOrd_s, gEq_to, gIs_to, gIn_s, gIx_l, gIx_t, gIx_s, gLen_s, gLen_t, gLen_l, gTup_l, gTup_t, gIsi_to, gIsi2_to, gSl_s, gSl_t, gSl_l, gAll_to, gJoin_to, at_0, at_1, at_2, at_3, k_li, k_set, k_own, k_new, k_drop, k_tupN, k_tupT, k_par, k_app, k_ext, k_its, k_itt, k_itl, k_r1, k_r2, k_ent, k_enl, k_os, k_mk, k_mkl, k_nb, k_op, k_ch, k_bl, k_bf, k_jn, gDct_to, k_dc, gGet_to, gInK_to, to_fkeys, k_ke, to_scr, k_scr, List.zip_cons_cons, List.zip_nil_right, List.zip_nil_left, List.foldl_cons, List.foldl_nil, and_true, true_and, ite_true, ite_false, if_true, if_false, reduceIte, Bool.false_eq_true, Option.some.injEq, D.str.injEq, D.int.injEq, D.tup.injEq, D.lst.injEq, D.bl.injEq, List.cons.injEq, exists_eq_left', exists_eq_left, forL_nil, sizeLine_eq, List.length_cons, List.length_nil, Nat.reduceAdd, Nat.reduceLeDiff, setT, setTn, setAll, wipeE, itemsOf, isD, id_eq, not_false_eq_true, exists_eq, exists_const, to_frzK, to_parK, gSortK_to, gIn_l, k_er, to_tryc, to_pB, k_pk, to_pN, k_pn, frzs_nil, frzs_cons, smU_t, smR_t, to_parLR, to_fnF, to_fnL, startN, List.map_cons, List.map_nil, List.cons_append, List.nil_append, List.replicate, Nat.reduceSub, kb, kt, kf, Dm.isNon, Bool.or_false, Bool.not_true, Bool.not_false, kr, ke]
  | str x =>
    have ke := okE_of hs (by simp [depD])
    apply R.eq_of
    simp only [FR__law_alike, b__law_alike, to_ok, to_er, to_no, to_bind, to_nx, to_rt, to_rl, to_bk, to_ct, to_err, to_nos, to_bindS, to_seq, to_if, to_raise, to_gR, to_gS, to_for, to_fComp, to_fCompL, to_lift, to_liftL, to_frz, k_b, k_s, k_i, k_c, k_l, k_f, k_and, k_or, k_band, k_bor, k_if, k_asb, k_bnot, then_nx, then_rt, then_rl, then_bk, then_ct, then_er, to_var0, to_varS, hide_nil, hide_cons, hide_d, hide_ow, hide_no, to_nD, to_c, to_f1, to_f2, to_args, to_argsL, to_acons, to_anil, to_and, to_or, to_not, to_band, to_bor, to_bnot, to_byes, to_asb, to_ifx, to_chain, to_tup, to_lst, to_lstL, to_items, to_rng1, to_rng2, to_enum, to_sl, to_oNone, to_oSome, to_join, to_set, to_sown, to_newL, to_sret, to_sretN, to_sretL, to_snil, to_sbk, to_sct, to_drop, to_stup, to_par, to_parL, to_app, to_ext, to_retO, to_aug, to_newK, to_putK, owL0, owLS, owK0, owKS, datD0, datDS, frz0, frzS, set0, setS, gAdd_i, gAdd_s, gAdd_t, gAdd_l, gAddI_i, gInt_i, gOrd_i, gOrd_s, gEq_to, gIs_to, gIn_s, gIx_l, gIx_t, gIx_s, gLen_s, gLen_t, gLen_l, gTup_l, gTup_t, gIsi_to, gIsi2_to, gSl_s, gSl_t, gSl_l, gAll_to, gJoin_to, at_0, at_1, at_2, at_3, k_li, k_set, k_own, k_new, k_drop, k_tupN, k_tupT, k_par, k_app, k_ext, k_its, k_itt, k_itl, k_r1, k_r2, k_ent, k_enl, k_os, k_mk, k_mkl, k_nb, k_op, k_ch, k_bl, k_bf, k_jn, gDct_to, k_dc, gGet_to, gInK_to, to_fkeys, k_ke, to_scr, k_scr, List.zip_cons_cons, List.zip_nil_right, List.zip_nil_left, List.foldl_cons, List.foldl_nil, and_true, true_and, ite_true, ite_false, if_true, if_false, reduceIte, Bool.false_eq_true, Option.some.injEq, D.str.injEq, D.int.injEq, D.tup.injEq, D.lst.injEq, D.bl.injEq, List.cons.injEq, exists_eq_left', exists_eq_left, forL_nil, sizeLine_eq, List.length_cons, List.length_nil, Nat.reduceAdd, Nat.reduceLeDiff, setT, setTn, setAll, wipeE, itemsOf, isD, id_eq, not_false_eq_true, exists_eq, exists_const, to_frzK, to_parK, gSortK_to, gIn_l, k_er, to_tryc, to_pB, k_pk, to_pN, k_pn, frzs_nil, frzs_cons, smU_t, smR_t, to_parLR, to_fnF, to_fnL, startN, List.map_cons, List.map_nil, List.cons_append, List.nil_append, List.replicate, Nat.reduceSub, kb, kt, kf, Dm.isNon, Bool.or_false, Bool.not_true, Bool.not_false, kr, ke]
theorem alike_comp (xs : List D) (mk : List D → D) (hmk : mk = .tup ∨ mk = .lst) (h : ∀ x ∈ xs, FR__law_alike n [x, x] s = .ok (.bl true) s) :
    compL (.nm 3) (bNot (asB (fArgs (lift id (fun _ s => s) (FR__law_alike n)) (aCons (f2 gIx (fVar 0) (fVar 3)) (aCons (f2 gIx (fVar 1) (fVar 3)) aNil))))) (fVar 3) [some (mk xs), some (mk xs), none, none] (rngD 0 xs.length) s = .ok [] s := by
  rw [rngD_zero]
  apply R.eq_of
  refine comp_map (fun _ => false) (fun k : Nat => D.int k) (fun k hk => ⟨_, rfl, ?_, fun z => by cases z⟩) ?_
  · rw [List.mem_range] at hk
    have e := h xs[k] (List.getElem_mem hk)
    rcases hmk with rfl | rfl <;> simp only [to_ok, to_er, to_no, to_bind, to_nx, to_rt, to_rl, to_bk, to_ct, to_err, to_nos, to_bindS, to_seq, to_if, to_raise, to_gR, to_gS, to_for, to_fComp, to_fCompL, to_lift, to_liftL, to_frz, k_b, k_s, k_i, k_c, k_l, k_f, k_and, k_or, k_band, k_bor, k_if, k_asb, k_bnot, then_nx, then_rt, then_rl, then_bk, then_ct, then_er, to_var0, to_varS, hide_nil, hide_cons, hide_d, hide_ow, hide_no, to_nD, to_c, to_f1, to_f2, to_args, to_argsL, to_acons, to_anil, to_and, to_or, to_not, to_band, to_bor, to_bnot, to_byes, to_asb, to_ifx, to_chain, to_tup, to_lst, to_lstL, to_items, to_rng1, to_rng2, to_enum, to_sl, to_oNone, to_oSome, to_join, to_set, to_sown, to_newL, to_sret, to_sretN, to_sretL, to_snil, to_sbk, to_sct, to_drop, to_stup, to_par, to_parL, to_app, to_ext, to_retO, to_aug, to_newK, to_putK, owL0, owLS, owK0, owKS, datD0, datDS, frz0, frzS, set0, setS, gAdd_i, gAdd_s, gAdd_t, gAdd_l, gAddI_i, gInt_i, gOrd_i, gOrd_s, gEq_to, gIs_to, gIn_s, gIx_l, gIx_t, gIx_s, gLen_s, gLen_t, gLen_l, gTup_l, gTup_t, gIsi_to, gIsi2_to, gSl_s, gSl_t, gSl_l, gAll_to, gJoin_to, at_0, at_1, at_2, at_3, k_li, k_set, k_own, k_new, k_drop, k_tupN, k_tupT, k_par, k_app, k_ext, k_its, k_itt, k_itl, k_r1, k_r2, k_ent, k_enl, k_os, k_mk, k_mkl, k_nb, k_op, k_ch, k_bl, k_bf, k_jn, gDct_to, k_dc, gGet_to, gInK_to, to_fkeys, k_ke, to_scr, k_scr, List.zip_cons_cons, List.zip_nil_right, List.zip_nil_left, List.foldl_cons, List.foldl_nil, and_true, true_and, ite_true, ite_false, if_true, if_false, reduceIte, Bool.false_eq_true, Option.some.injEq, D.str.injEq, D.int.injEq, D.tup.injEq, D.lst.injEq, D.bl.injEq, List.cons.injEq, exists_eq_left', exists_eq_left, forL_nil, sizeLine_eq, List.length_cons, List.length_nil, Nat.reduceAdd, Nat.reduceLeDiff, setT, setTn, setAll, wipeE, itemsOf, isD, id_eq, not_false_eq_true, exists_eq, exists_const, to_frzK, to_parK, gSortK_to, gIn_l, k_er, to_tryc, to_pB, k_pk, to_pN, k_pn, frzs_nil, frzs_cons, smU_t, smR_t, to_parLR, to_fnF, to_fnL, startN, List.map_cons, List.map_nil, List.cons_append, List.nil_append, List.replicate, Nat.reduceSub, atI_nat hk, e, Bool.not_true]
  · simp
theorem alike_tup (xs : List D) (hl : xs.length ≤ 1000000) (h : ∀ x ∈ xs, FR__law_alike n [x, x] s = .ok (.bl true) s) : FR__law_alike (n + 1) [.tup xs, .tup xs] s = .ok (.bl true) s := by
  have kb : ∀ b, okE (.bl b) = true := fun b => rfl
  have kt : eqD (.bl true) (.bl true) = true := rfl
  have hz : okR (xs.length : Int) = true := okR_nat (by omega)
  have k0 : okE (.lst []) = true := rfl
  have kl : okE (.int (xs.length : Int)) = true := rfl
  have kq : eqD (.int (xs.length : Int)) (.int (xs.length : Int)) = true := by simp [eqD]
  have kq2 : eqD (.lst []) (.lst []) = true := rfl
  have go := alike_comp n s xs .tup (.inl rfl) h
  have hl2 : xs.length ≤ 16777216 := by omega
  apply R.eq_of
  simp only [FR__law_alike, b__law_alike, to_ok, to_er, to_no, to_bind, to_nx, to_rt, to_rl, to_bk, to_ct, to_err, to_nos, to_bindS, to_seq, to_if, to_raise, to_gR, to_gS, to_for, to_fComp, to_fCompL, to_lift, to_liftL, to_frz, k_b, k_s, k_i, k_c, k_l, k_f, k_and, k_or, k_band, k_bor, k_if, k_asb, k_bnot, then_nx, then_rt, then_rl, then_bk, then_ct, then_er, to_var0, to_varS, hide_nil, hide_cons, hide_d, hide_ow, hide_no, to_nD, to_c, to_f1, to_f2, to_args, to_argsL, to_acons, to_anil, to_and, to_or, to_not, to_band, to_bor, to_bnot, to_byes, to_asb, to_ifx, to_chain, to_tup, to_lst, to_lstL, to_items, to_rng1, to_rng2, to_enum, to_sl, to_oNone, to_oSome, to_join, to_set, to_sown, to_newL, to_sret, to_sretN, to_sretL, to_snil, to_sbk, to_sct, to_drop, to_stup, to_par, to_parL, to_app, to_ext, to_retO, to_aug, to_newK, to_putK, owL0, owLS, owK0, owKS, datD0, datDS, frz0, frzS, set0, setS, gAdd_i, gAdd_s, gAdd_t, gAdd_l, gAddI_i, gInt_i, gOrd_i, gOrd_s, gEq_to, gIs_to, gIn_s, gIx_l, gIx_t, gIx_s, gLen_s, gLen_t, gLen_l, gTup_l, gTup_t, gIsi_to, gIsi2_to, gSl_s, gSl_t, gSl_l, gAll_to, gJoin_to, at_0, at_1, at_2, at_3, k_li, k_set, k_own, k_new, k_drop, k_tupN, k_tupT, k_par, k_app, k_ext, k_its, k_itt, k_itl, k_r1, k_r2, k_ent, k_enl, k_os, k_mk, k_mkl, k_nb, k_op, k_ch, k_bl, k_bf, k_jn, gDct_to, k_dc, gGet_to, gInK_to, to_fkeys, k_ke, to_scr, k_scr, List.zip_cons_cons, List.zip_nil_right, List.zip_nil_left, List.foldl_cons, List.foldl_nil, and_true, true_and, ite_true, ite_false, if_true, if_false, reduceIte, Bool.false_eq_true, Option.some.injEq, D.str.injEq, D.int.injEq, D.tup.injEq, D.lst.injEq, D.bl.injEq, List.cons.injEq, exists_eq_left', exists_eq_left, forL_nil, sizeLine_eq, List.length_cons, List.length_nil, Nat.reduceAdd, Nat.reduceLeDiff, setT, setTn, setAll, wipeE, itemsOf, isD, id_eq, not_false_eq_true, exists_eq, exists_const, to_frzK, to_parK, gSortK_to, gIn_l, k_er, to_tryc, to_pB, k_pk, to_pN, k_pn, frzs_nil, frzs_cons, smU_t, smR_t, to_parLR, to_fnF, to_fnL, startN, List.map_cons, List.map_nil, List.cons_append, List.nil_append, List.replicate, Nat.reduceSub, kb, kt, Bool.or_false, Bool.or_true, Bool.not_true, Bool.not_false, kl, kq, hz, Int.toNat_natCast, rngD_len, hl2, go, k0, kq2]
theorem alike_lst (xs : List D) (hl : xs.length ≤ 1000000) (h : ∀ x ∈ xs, FR__law_alike n [x, x] s = .ok (.bl true) s) : FR__law_alike (n + 1) [.lst xs, .lst xs] s = .ok (.bl true) s := by
  have kb : ∀ b, okE (.bl b) = true := fun b => rfl
  have kf : eqD (.bl false) (.bl false) = true := rfl
  have hz : okR (xs.length : Int) = true := okR_nat (by omega)
  have k0 : okE (.lst []) = true := rfl
  have kl : okE (.int (xs.length : Int)) = true := rfl
  have kq : eqD (.int (xs.length : Int)) (.int (xs.length : Int)) = true := by simp [eqD]
  have kq2 : eqD (.lst []) (.lst []) = true := rfl
  have go := alike_comp n s xs .lst (.inr rfl) h
  have hl2 : xs.length ≤ 16777216 := by omega
  apply R.eq_of
  simp only [FR__law_alike, b__law_alike, to_ok, to_er, to_no, to_bind, to_nx, to_rt, to_rl, to_bk, to_ct, to_err, to_nos, to_bindS, to_seq, to_if, to_raise, to_gR, to_gS, to_for, to_fComp, to_fCompL, to_lift, to_liftL, to_frz, k_b, k_s, k_i, k_c, k_l, k_f, k_and, k_or, k_band, k_bor, k_if, k_asb, k_bnot, then_nx, then_rt, then_rl, then_bk, then_ct, then_er, to_var0, to_varS, hide_nil, hide_cons, hide_d, hide_ow, hide_no, to_nD, to_c, to_f1, to_f2, to_args, to_argsL, to_acons, to_anil, to_and, to_or, to_not, to_band, to_bor, to_bnot, to_byes, to_asb, to_ifx, to_chain, to_tup, to_lst, to_lstL, to_items, to_rng1, to_rng2, to_enum, to_sl, to_oNone, to_oSome, to_join, to_set, to_sown, to_newL, to_sret, to_sretN, to_sretL, to_snil, to_sbk, to_sct, to_drop, to_stup, to_par, to_parL, to_app, to_ext, to_retO, to_aug, to_newK, to_putK, owL0, owLS, owK0, owKS, datD0, datDS, frz0, frzS, set0, setS, gAdd_i, gAdd_s, gAdd_t, gAdd_l, gAddI_i, gInt_i, gOrd_i, gOrd_s, gEq_to, gIs_to, gIn_s, gIx_l, gIx_t, gIx_s, gLen_s, gLen_t, gLen_l, gTup_l, gTup_t, gIsi_to, gIsi2_to, gSl_s, gSl_t, gSl_l, gAll_to, gJoin_to, at_0, at_1, at_2, at_3, k_li, k_set, k_own, k_new, k_drop, k_tupN, k_tupT, k_par, k_app, k_ext, k_its, k_itt, k_itl, k_r1, k_r2, k_ent, k_enl, k_os, k_mk, k_mkl, k_nb, k_op, k_ch, k_bl, k_bf, k_jn, gDct_to, k_dc, gGet_to, gInK_to, to_fkeys, k_ke, to_scr, k_scr, List.zip_cons_cons, List.zip_nil_right, List.zip_nil_left, List.foldl_cons, List.foldl_nil, and_true, true_and, ite_true, ite_false, if_true, if_false, reduceIte, Bool.false_eq_true, Option.some.injEq, D.str.injEq, D.int.injEq, D.tup.injEq, D.lst.injEq, D.bl.injEq, List.cons.injEq, exists_eq_left', exists_eq_left, forL_nil, sizeLine_eq, List.length_cons, List.length_nil, Nat.reduceAdd, Nat.reduceLeDiff, setT, setTn, setAll, wipeE, itemsOf, isD, id_eq, not_false_eq_true, exists_eq, exists_const, to_frzK, to_parK, gSortK_to, gIn_l, k_er, to_tryc, to_pB, k_pk, to_pN, k_pn, frzs_nil, frzs_cons, smU_t, smR_t, to_parLR, to_fnF, to_fnL, startN, List.map_cons, List.map_nil, List.cons_append, List.nil_append, List.replicate, Nat.reduceSub, kb, kf, Bool.or_false, Bool.or_true, Bool.false_or, Bool.not_true, Bool.not_false, kl, kq, hz, Int.toNat_natCast, rngD_len, hl2, go, k0, kq2]
end
theorem alike_refl : ∀ (n : Nat) (d : D) (s : Unit), smD d = true → depD d < n → FR__law_alike n [d, d] s = .ok (.bl true) s := by
  intro n
  induction n with
  | zero => intro d s _ h; omega
  | succ n ih =>
    intro d s hs hd
    cases d with
    | tup xs =>
      simp only [smD, Bool.and_eq_true, decide_eq_true_eq] at hs
      simp only [depD] at hd
      exact alike_tup n s xs hs.1 fun x hx => ih x s (smDs_all.mp hs.2 x hx) (Nat.lt_of_le_of_lt (depDs_le.mpr (Nat.le_refl _) x hx) (by omega))
    | lst xs =>
      simp only [smD, Bool.and_eq_true, decide_eq_true_eq] at hs
      simp only [depD] at hd
      exact alike_lst n s xs hs.1 fun x hx => ih x s (smDs_all.mp hs.2 x hx) (Nat.lt_of_le_of_lt (depDs_le.mpr (Nat.le_refl _) x hx) (by omega))
    | nm i => cases hs
    | dct _ _ => cases hs
    | non => exact alike_flat n s _ hs rfl
    | bl b => exact alike_flat n s _ hs rfl
    | int i => exact alike_flat n s _ hs rfl
    | str x => exact alike_flat n s _ hs rfl
theorem alike_same {d : D} (s : Unit) (hs : smD d = true) (hd : depD d < 6) : F__law_alike [d, d] s = .ok (.bl true) s := alike_refl 6 d s hs hd

end Yk15
namespace Yk15
open PySem L2 Dm
theorem fnF_of_L {S : Type} {n p : Nat} {b : Sn → S → SR S} {ds : List D} {s s' : S} {xs : List D} (h : fnL n p b ds s = .ok xs s') : fnF n p b ds s = .ok (.lst xs) s' := by
  unfold fnL at h
  unfold fnF
  split at h
  · rename_i hp
    rw [if_pos hp]
    cases hb : b (startN n ds) s with
    | rl ys t => rw [hb] at h; cases h; rfl
    | _ => rw [hb] at h; cases h
  · cases h
theorem fnF_of_Le {S : Type} {n p : Nat} {b : Sn → S → SR S} {ds : List D} {s s' : S} {e : Err} (h : fnL n p b ds s = .er e s') : fnF n p b ds s = .er e s' := by
  unfold fnL at h
  unfold fnF
  split at h
  · rename_i hp
    rw [if_pos hp]
    cases hb : b (startN n ds) s with
    | er e2 ε t => rw [hb] at h; cases h; rfl
    | _ => rw [hb] at h; cases h
  · cases h
theorem F_walk_of_eq (rs : List Rl) (w : List Nat) (hw : w.length ≤ 1000000) (kw : okS w) (hr : ∀ r ∈ rs, r.ok) (hl : rs.length ≤ 1000000) (s : Unit) :
    F_walk_of [.tup (rs.map dR), .str w] s = match walkP rs w (w.length + 1) 0 [] with
    | .inl q => .er ⟨.unsaid, [("place", (q : Int))]⟩ s
    | .inr l => .ok (.lst (l.map dPN)) s := by
  have h := FL_walk_of_eq rs w hw kw hr hl s
  cases q : walkP rs w (w.length + 1) 0 [] with
  | inl p => rw [q] at h; exact fnF_of_Le h
  | inr l => rw [q] at h; exact fnF_of_L h
theorem walkP_ix {rs : List Rl} {w : List Nat} : ∀ (n p : Nat) (acc l : List (Nat × Nat)), (∀ q ∈ acc, q.2 < rs.length) → walkP rs w n p acc = .inr l → ∀ q ∈ l, q.2 < rs.length := by
  intro n
  induction n with
  | zero => intro p acc l _ h; cases h
  | succ n ih =>
    intro p acc l ha h
    simp only [walkP] at h
    by_cases hlt : p < w.length
    · rw [if_pos hlt] at h
      cases e : fitL rs w p with
      | nil => rw [e] at h; cases h
      | cons k ks =>
        rw [e] at h
        obtain ⟨r, hk, _⟩ := fitL_mem (show k ∈ fitL rs w p by rw [e]; exact List.mem_cons_self)
        refine ih _ _ l (fun q hq => ?_) h
        rcases List.mem_append.mp hq with hq | hq
        · exact ha q hq
        · rw [List.mem_singleton.mp hq]
          exact (List.getElem?_eq_some_iff.mp hk).1
    · rw [if_neg hlt] at h
      cases h
      exact ha
theorem dR_at {rs : List Rl} {k : Nat} (h : k < rs.length) : L2.atI (rs.map dR) (k : Int) = some (.tup [.str (rs[k].a), .str (rs[k].o), .str (rs[k].b), .str (sOf rs k)]) := by
  rw [atI_eq, List.getElem?_map, List.getElem?_eq_getElem h]
  unfold sOf
  rw [List.getElem?_eq_getElem h]
  rfl
theorem F_by_rules_eq {L : List Nat} {rs : List Rl} {w : List Nat} (g : GL L) (hr : ∀ r ∈ rs, GR L r) (hl : rs.length ≤ 1000) (hw : ∀ c ∈ w, c ∈ L) (h12 : w.length ≤ 1000) (s : Unit) :
    F_by_rules [.tup (rs.map dR), .str w] s = match rulesSay rs w with
    | .inl q => .er ⟨.unsaid, [("place", (q : Int))]⟩ s
    | .inr y => .ok (.str y) s := by
  have hrk : ∀ r ∈ rs, r.ok := fun r h => (hr r h).ok g
  have e := F_walk_of_eq rs w (by omega) (g.okS hw) hrk (by omega) s
  unfold rulesSay
  cases q : walkP rs w (w.length + 1) 0 [] with
  | inl p =>
    rw [q] at e
    apply R.er_of
    simp only [F_by_rules, b_by_rules, to_ok, to_er, to_no, to_bind, to_nx, to_rt, to_rl, to_bk, to_ct, to_err, to_nos, to_bindS, to_seq, to_if, to_raise, to_gR, to_gS, to_for, to_fComp, to_fCompL, to_lift, to_liftL, to_frz, k_b, k_s, k_i, k_c, k_l, k_f, k_and, k_or, k_band, k_bor, k_if, k_asb, k_bnot, then_nx, then_rt, then_rl, then_bk, then_ct, then_er, to_var0, to_varS, hide_nil, hide_cons, hide_d, hide_ow, hide_no, to_nD, to_c, to_f1, to_f2, to_args, to_argsL, to_acons, to_anil, to_and, to_or, to_not, to_band, to_bor, to_bnot, to_byes, to_asb, to_ifx, to_chain, to_tup, to_lst, to_lstL, to_items, to_rng1, to_rng2, to_enum, to_sl, to_oNone, to_oSome, to_join, to_set, to_sown, to_newL, to_sret, to_sretN, to_sretL, to_snil, to_sbk, to_sct, to_drop, to_stup, to_par, to_parL, to_app, to_ext, to_retO, to_aug, to_newK, to_putK, owL0, owLS, owK0, owKS, datD0, datDS, frz0, frzS, set0, setS, gAdd_i, gAdd_s, gAdd_t, gAdd_l, gAddI_i, gInt_i, gOrd_i, gOrd_s, gEq_to, gIs_to, gIn_s, gIx_l, gIx_t, gIx_s, gLen_s, gLen_t, gLen_l, gTup_l, gTup_t, gIsi_to, gIsi2_to, gSl_s, gSl_t, gSl_l, gAll_to, gJoin_to, at_0, at_1, at_2, at_3, k_li, k_set, k_own, k_new, k_drop, k_tupN, k_tupT, k_par, k_app, k_ext, k_its, k_itt, k_itl, k_r1, k_r2, k_ent, k_enl, k_os, k_mk, k_mkl, k_nb, k_op, k_ch, k_bl, k_bf, k_jn, gDct_to, k_dc, gGet_to, gInK_to, to_fkeys, k_ke, to_scr, k_scr, List.zip_cons_cons, List.zip_nil_right, List.zip_nil_left, List.foldl_cons, List.foldl_nil, and_true, true_and, ite_true, ite_false, if_true, if_false, reduceIte, Bool.false_eq_true, Option.some.injEq, D.str.injEq, D.int.injEq, D.tup.injEq, D.lst.injEq, D.bl.injEq, List.cons.injEq, exists_eq_left', exists_eq_left, forL_nil, sizeLine_eq, List.length_cons, List.length_nil, Nat.reduceAdd, Nat.reduceLeDiff, setT, setTn, setAll, wipeE, itemsOf, isD, id_eq, not_false_eq_true, exists_eq, exists_const, to_frzK, to_parK, gSortK_to, gIn_l, k_er, to_tryc, to_pB, k_pk, to_pN, k_pn, frzs_nil, frzs_cons, smU_t, smR_t, to_parLR, to_fnF, to_fnL, startN, List.map_cons, List.map_nil, List.cons_append, List.nil_append, List.replicate, Nat.reduceSub, e]
  | inr l =>
    rw [q] at e
    have hll := walkP_len hrk _ _ _ _ (by simp) (by omega) q
    have hix := walkP_ix _ _ _ l (by simp) q
    apply R.eq_of
    simp only [F_by_rules, b_by_rules, to_ok, to_er, to_no, to_bind, to_nx, to_rt, to_rl, to_bk, to_ct, to_err, to_nos, to_bindS, to_seq, to_if, to_raise, to_gR, to_gS, to_for, to_fComp, to_fCompL, to_lift, to_liftL, to_frz, k_b, k_s, k_i, k_c, k_l, k_f, k_and, k_or, k_band, k_bor, k_if, k_asb, k_bnot, then_nx, then_rt, then_rl, then_bk, then_ct, then_er, to_var0, to_varS, hide_nil, hide_cons, hide_d, hide_ow, hide_no, to_nD, to_c, to_f1, to_f2, to_args, to_argsL, to_acons, to_anil, to_and, to_or, to_not, to_band, to_bor, to_bnot, to_byes, to_asb, to_ifx, to_chain, to_tup, to_lst, to_lstL, to_items, to_rng1, to_rng2, to_enum, to_sl, to_oNone, to_oSome, to_join, to_set, to_sown, to_newL, to_sret, to_sretN, to_sretL, to_snil, to_sbk, to_sct, to_drop, to_stup, to_par, to_parL, to_app, to_ext, to_retO, to_aug, to_newK, to_putK, owL0, owLS, owK0, owKS, datD0, datDS, frz0, frzS, set0, setS, gAdd_i, gAdd_s, gAdd_t, gAdd_l, gAddI_i, gInt_i, gOrd_i, gOrd_s, gEq_to, gIs_to, gIn_s, gIx_l, gIx_t, gIx_s, gLen_s, gLen_t, gLen_l, gTup_l, gTup_t, gIsi_to, gIsi2_to, gSl_s, gSl_t, gSl_l, gAll_to, gJoin_to, at_0, at_1, at_2, at_3, k_li, k_set, k_own, k_new, k_drop, k_tupN, k_tupT, k_par, k_app, k_ext, k_its, k_itt, k_itl, k_r1, k_r2, k_ent, k_enl, k_os, k_mk, k_mkl, k_nb, k_op, k_ch, k_bl, k_bf, k_jn, gDct_to, k_dc, gGet_to, gInK_to, to_fkeys, k_ke, to_scr, k_scr, List.zip_cons_cons, List.zip_nil_right, List.zip_nil_left, List.foldl_cons, List.foldl_nil, and_true, true_and, ite_true, ite_false, if_true, if_false, reduceIte, Bool.false_eq_true, Option.some.injEq, D.str.injEq, D.int.injEq, D.tup.injEq, D.lst.injEq, D.bl.injEq, List.cons.injEq, exists_eq_left', exists_eq_left, forL_nil, sizeLine_eq, List.length_cons, List.length_nil, Nat.reduceAdd, Nat.reduceLeDiff, setT, setTn, setAll, wipeE, itemsOf, isD, id_eq, not_false_eq_true, exists_eq, exists_const, to_frzK, to_parK, gSortK_to, gIn_l, k_er, to_tryc, to_pB, k_pk, to_pN, k_pn, frzs_nil, frzs_cons, smU_t, smR_t, to_parLR, to_fnF, to_fnL, startN, List.map_cons, List.map_nil, List.cons_append, List.nil_append, List.replicate, Nat.reduceSub, e, List.length_map]
    refine ⟨by omega, comp_all (fun q : Nat × Nat => .str (sOf rs q.2)) (fun x hx => ⟨_, rfl, ?_⟩) ?_⟩
    · simp only [to_ok, to_er, to_no, to_bind, to_nx, to_rt, to_rl, to_bk, to_ct, to_err, to_nos, to_bindS, to_seq, to_if, to_raise, to_gR, to_gS, to_for, to_fComp, to_fCompL, to_lift, to_liftL, to_frz, k_b, k_s, k_i, k_c, k_l, k_f, k_and, k_or, k_band, k_bor, k_if, k_asb, k_bnot, then_nx, then_rt, then_rl, then_bk, then_ct, then_er, to_var0, to_varS, hide_nil, hide_cons, hide_d, hide_ow, hide_no, to_nD, to_c, to_f1, to_f2, to_args, to_argsL, to_acons, to_anil, to_and, to_or, to_not, to_band, to_bor, to_bnot, to_byes, to_asb, to_ifx, to_chain, to_tup, to_lst, to_lstL, to_items, to_rng1, to_rng2, to_enum, to_sl, to_oNone, to_oSome, to_join, to_set, to_sown, to_newL, to_sret, to_sretN, to_sretL, to_snil, to_sbk, to_sct, to_drop, to_stup, to_par, to_parL, to_app, to_ext, to_retO, to_aug, to_newK, to_putK, owL0, owLS, owK0, owKS, datD0, datDS, frz0, frzS, set0, setS, gAdd_i, gAdd_s, gAdd_t, gAdd_l, gAddI_i, gInt_i, gOrd_i, gOrd_s, gEq_to, gIs_to, gIn_s, gIx_l, gIx_t, gIx_s, gLen_s, gLen_t, gLen_l, gTup_l, gTup_t, gIsi_to, gIsi2_to, gSl_s, gSl_t, gSl_l, gAll_to, gJoin_to, at_0, at_1, at_2, at_3, k_li, k_set, k_own, k_new, k_drop, k_tupN, k_tupT, k_par, k_app, k_ext, k_its, k_itt, k_itl, k_r1, k_r2, k_ent, k_enl, k_os, k_mk, k_mkl, k_nb, k_op, k_ch, k_bl, k_bf, k_jn, gDct_to, k_dc, gGet_to, gInK_to, to_fkeys, k_ke, to_scr, k_scr, List.zip_cons_cons, List.zip_nil_right, List.zip_nil_left, List.foldl_cons, List.foldl_nil, and_true, true_and, ite_true, ite_false, if_true, if_false, reduceIte, Bool.false_eq_true, Option.some.injEq, D.str.injEq, D.int.injEq, D.tup.injEq, D.lst.injEq, D.bl.injEq, List.cons.injEq, exists_eq_left', exists_eq_left, forL_nil, sizeLine_eq, List.length_cons, List.length_nil, Nat.reduceAdd, Nat.reduceLeDiff, setT, setTn, setAll, wipeE, itemsOf, isD, id_eq, not_false_eq_true, exists_eq, exists_const, to_frzK, to_parK, gSortK_to, gIn_l, k_er, to_tryc, to_pB, k_pk, to_pN, k_pn, frzs_nil, frzs_cons, smU_t, smR_t, to_parLR, to_fnF, to_fnL, startN, List.map_cons, List.map_nil, List.cons_append, List.nil_append, List.replicate, Nat.reduceSub, dR_at (hix x hx)]
    · simp only [to_ok, to_er, to_no, to_bind, to_nx, to_rt, to_rl, to_bk, to_ct, to_err, to_nos, to_bindS, to_seq, to_if, to_raise, to_gR, to_gS, to_for, to_fComp, to_fCompL, to_lift, to_liftL, to_frz, k_b, k_s, k_i, k_c, k_l, k_f, k_and, k_or, k_band, k_bor, k_if, k_asb, k_bnot, then_nx, then_rt, then_rl, then_bk, then_ct, then_er, to_var0, to_varS, hide_nil, hide_cons, hide_d, hide_ow, hide_no, to_nD, to_c, to_f1, to_f2, to_args, to_argsL, to_acons, to_anil, to_and, to_or, to_not, to_band, to_bor, to_bnot, to_byes, to_asb, to_ifx, to_chain, to_tup, to_lst, to_lstL, to_items, to_rng1, to_rng2, to_enum, to_sl, to_oNone, to_oSome, to_join, to_set, to_sown, to_newL, to_sret, to_sretN, to_sretL, to_snil, to_sbk, to_sct, to_drop, to_stup, to_par, to_parL, to_app, to_ext, to_retO, to_aug, to_newK, to_putK, owL0, owLS, owK0, owKS, datD0, datDS, frz0, frzS, set0, setS, gAdd_i, gAdd_s, gAdd_t, gAdd_l, gAddI_i, gInt_i, gOrd_i, gOrd_s, gEq_to, gIs_to, gIn_s, gIx_l, gIx_t, gIx_s, gLen_s, gLen_t, gLen_l, gTup_l, gTup_t, gIsi_to, gIsi2_to, gSl_s, gSl_t, gSl_l, gAll_to, gJoin_to, at_0, at_1, at_2, at_3, k_li, k_set, k_own, k_new, k_drop, k_tupN, k_tupT, k_par, k_app, k_ext, k_its, k_itt, k_itl, k_r1, k_r2, k_ent, k_enl, k_os, k_mk, k_mkl, k_nb, k_op, k_ch, k_bl, k_bf, k_jn, gDct_to, k_dc, gGet_to, gInK_to, to_fkeys, k_ke, to_scr, k_scr, List.zip_cons_cons, List.zip_nil_right, List.zip_nil_left, List.foldl_cons, List.foldl_nil, and_true, true_and, ite_true, ite_false, if_true, if_false, reduceIte, Bool.false_eq_true, Option.some.injEq, D.str.injEq, D.int.injEq, D.tup.injEq, D.lst.injEq, D.bl.injEq, List.cons.injEq, exists_eq_left', exists_eq_left, forL_nil, sizeLine_eq, List.length_cons, List.length_nil, Nat.reduceAdd, Nat.reduceLeDiff, setT, setTn, setAll, wipeE, itemsOf, isD, id_eq, not_false_eq_true, exists_eq, exists_const, to_frzK, to_parK, gSortK_to, gIn_l, k_er, to_tryc, to_pB, k_pk, to_pN, k_pn, frzs_nil, frzs_cons, smU_t, smR_t, to_parLR, to_fnF, to_fnL, startN, List.map_cons, List.map_nil, List.cons_append, List.nil_append, List.replicate, Nat.reduceSub]
      refine join_ok (fun q : Nat × Nat => sOf rs q.2) l _ (fun x _ => by have := sOf_le hr x.2; omega) (by omega) ?_
      simp only [to_ok, to_er, to_no, to_bind, to_nx, to_rt, to_rl, to_bk, to_ct, to_err, to_nos, to_bindS, to_seq, to_if, to_raise, to_gR, to_gS, to_for, to_fComp, to_fCompL, to_lift, to_liftL, to_frz, k_b, k_s, k_i, k_c, k_l, k_f, k_and, k_or, k_band, k_bor, k_if, k_asb, k_bnot, then_nx, then_rt, then_rl, then_bk, then_ct, then_er, to_var0, to_varS, hide_nil, hide_cons, hide_d, hide_ow, hide_no, to_nD, to_c, to_f1, to_f2, to_args, to_argsL, to_acons, to_anil, to_and, to_or, to_not, to_band, to_bor, to_bnot, to_byes, to_asb, to_ifx, to_chain, to_tup, to_lst, to_lstL, to_items, to_rng1, to_rng2, to_enum, to_sl, to_oNone, to_oSome, to_join, to_set, to_sown, to_newL, to_sret, to_sretN, to_sretL, to_snil, to_sbk, to_sct, to_drop, to_stup, to_par, to_parL, to_app, to_ext, to_retO, to_aug, to_newK, to_putK, owL0, owLS, owK0, owKS, datD0, datDS, frz0, frzS, set0, setS, gAdd_i, gAdd_s, gAdd_t, gAdd_l, gAddI_i, gInt_i, gOrd_i, gOrd_s, gEq_to, gIs_to, gIn_s, gIx_l, gIx_t, gIx_s, gLen_s, gLen_t, gLen_l, gTup_l, gTup_t, gIsi_to, gIsi2_to, gSl_s, gSl_t, gSl_l, gAll_to, gJoin_to, at_0, at_1, at_2, at_3, k_li, k_set, k_own, k_new, k_drop, k_tupN, k_tupT, k_par, k_app, k_ext, k_its, k_itt, k_itl, k_r1, k_r2, k_ent, k_enl, k_os, k_mk, k_mkl, k_nb, k_op, k_ch, k_bl, k_bf, k_jn, gDct_to, k_dc, gGet_to, gInK_to, to_fkeys, k_ke, to_scr, k_scr, List.zip_cons_cons, List.zip_nil_right, List.zip_nil_left, List.foldl_cons, List.foldl_nil, and_true, true_and, ite_true, ite_false, if_true, if_false, reduceIte, Bool.false_eq_true, Option.some.injEq, D.str.injEq, D.int.injEq, D.tup.injEq, D.lst.injEq, D.bl.injEq, List.cons.injEq, exists_eq_left', exists_eq_left, forL_nil, sizeLine_eq, List.length_cons, List.length_nil, Nat.reduceAdd, Nat.reduceLeDiff, setT, setTn, setAll, wipeE, itemsOf, isD, id_eq, not_false_eq_true, exists_eq, exists_const, to_frzK, to_parK, gSortK_to, gIn_l, k_er, to_tryc, to_pB, k_pk, to_pN, k_pn, frzs_nil, frzs_cons, smU_t, smR_t, to_parLR, to_fnF, to_fnL, startN, List.map_cons, List.map_nil, List.cons_append, List.nil_append, List.replicate, Nat.reduceSub]
theorem F_said_eq {L : List Nat} {rs : List Rl} {xs : List (List Nat × List Nat)} {w : List Nat} (g : GB L rs xs) (hw : ∀ c ∈ w, c ∈ L) (h12 : w.length ≤ 12) (s : Unit) :
    F_said [dB L rs xs, .str w] s = match saysP rs xs w with
    | .inl q => .er ⟨.unsaid, [("place", (q : Int))]⟩ s
    | .inr y => .ok (.str y) s := by
  have nr := g.nr
  have nx := g.nx
  have n4 := g.l.n4
  have e1 := F_need_book_eq L rs xs s (by omega) g.l.let' nr (fun r hr => ⟨(g.r r hr).short, (g.r r hr).b⟩) nx (fun x hx => ⟨by have := (g.x.all x hx).n8; omega, by have := (g.x.all x hx).s36; omega, by have := (g.x.all x hx).n1; intro z; rw [z] at this; simp at this, (g.x.all x hx).b⟩) g.x.ris
  have e2 := F_need_word_eq L w s (by omega) (ofB_of (by omega) (by omega) hw)
  have e3 := F_by_rules_eq g.l g.r (by omega) hw (by omega) s
  have nd : ((xs.map fun x => (x.1, D.str x.2)).map (·.1)).Nodup := by rw [List.map_map]; exact gxs_nd g.x
  unfold dB at e1 ⊢
  unfold saysP
  cases q : exLook xs w with
  | some y =>
    apply R.eq_of
    simp only [F_said, b_said, to_ok, to_er, to_no, to_bind, to_nx, to_rt, to_rl, to_bk, to_ct, to_err, to_nos, to_bindS, to_seq, to_if, to_raise, to_gR, to_gS, to_for, to_fComp, to_fCompL, to_lift, to_liftL, to_frz, k_b, k_s, k_i, k_c, k_l, k_f, k_and, k_or, k_band, k_bor, k_if, k_asb, k_bnot, then_nx, then_rt, then_rl, then_bk, then_ct, then_er, to_var0, to_varS, hide_nil, hide_cons, hide_d, hide_ow, hide_no, to_nD, to_c, to_f1, to_f2, to_args, to_argsL, to_acons, to_anil, to_and, to_or, to_not, to_band, to_bor, to_bnot, to_byes, to_asb, to_ifx, to_chain, to_tup, to_lst, to_lstL, to_items, to_rng1, to_rng2, to_enum, to_sl, to_oNone, to_oSome, to_join, to_set, to_sown, to_newL, to_sret, to_sretN, to_sretL, to_snil, to_sbk, to_sct, to_drop, to_stup, to_par, to_parL, to_app, to_ext, to_retO, to_aug, to_newK, to_putK, owL0, owLS, owK0, owKS, datD0, datDS, frz0, frzS, set0, setS, gAdd_i, gAdd_s, gAdd_t, gAdd_l, gAddI_i, gInt_i, gOrd_i, gOrd_s, gEq_to, gIs_to, gIn_s, gIx_l, gIx_t, gIx_s, gLen_s, gLen_t, gLen_l, gTup_l, gTup_t, gIsi_to, gIsi2_to, gSl_s, gSl_t, gSl_l, gAll_to, gJoin_to, at_0, at_1, at_2, at_3, k_li, k_set, k_own, k_new, k_drop, k_tupN, k_tupT, k_par, k_app, k_ext, k_its, k_itt, k_itl, k_r1, k_r2, k_ent, k_enl, k_os, k_mk, k_mkl, k_nb, k_op, k_ch, k_bl, k_bf, k_jn, gDct_to, k_dc, gGet_to, gInK_to, to_fkeys, k_ke, to_scr, k_scr, List.zip_cons_cons, List.zip_nil_right, List.zip_nil_left, List.foldl_cons, List.foldl_nil, and_true, true_and, ite_true, ite_false, if_true, if_false, reduceIte, Bool.false_eq_true, Option.some.injEq, D.str.injEq, D.int.injEq, D.tup.injEq, D.lst.injEq, D.bl.injEq, List.cons.injEq, exists_eq_left', exists_eq_left, forL_nil, sizeLine_eq, List.length_cons, List.length_nil, Nat.reduceAdd, Nat.reduceLeDiff, setT, setTn, setAll, wipeE, itemsOf, isD, id_eq, not_false_eq_true, exists_eq, exists_const, to_frzK, to_parK, gSortK_to, gIn_l, k_er, to_tryc, to_pB, k_pk, to_pN, k_pn, frzs_nil, frzs_cons, smU_t, smR_t, to_parLR, to_fnF, to_fnL, startN, List.map_cons, List.map_nil, List.cons_append, List.nil_append, List.replicate, Nat.reduceSub, e1, e2, prsD_map, mergeD_nd nd, lkD_map, q, Option.map_some, Option.isSome_some]
  | none =>
    dsimp only
    cases r : rulesSay rs w with
    | inl p =>
      rw [r] at e3
      apply R.er_of
      simp only [F_said, b_said, to_ok, to_er, to_no, to_bind, to_nx, to_rt, to_rl, to_bk, to_ct, to_err, to_nos, to_bindS, to_seq, to_if, to_raise, to_gR, to_gS, to_for, to_fComp, to_fCompL, to_lift, to_liftL, to_frz, k_b, k_s, k_i, k_c, k_l, k_f, k_and, k_or, k_band, k_bor, k_if, k_asb, k_bnot, then_nx, then_rt, then_rl, then_bk, then_ct, then_er, to_var0, to_varS, hide_nil, hide_cons, hide_d, hide_ow, hide_no, to_nD, to_c, to_f1, to_f2, to_args, to_argsL, to_acons, to_anil, to_and, to_or, to_not, to_band, to_bor, to_bnot, to_byes, to_asb, to_ifx, to_chain, to_tup, to_lst, to_lstL, to_items, to_rng1, to_rng2, to_enum, to_sl, to_oNone, to_oSome, to_join, to_set, to_sown, to_newL, to_sret, to_sretN, to_sretL, to_snil, to_sbk, to_sct, to_drop, to_stup, to_par, to_parL, to_app, to_ext, to_retO, to_aug, to_newK, to_putK, owL0, owLS, owK0, owKS, datD0, datDS, frz0, frzS, set0, setS, gAdd_i, gAdd_s, gAdd_t, gAdd_l, gAddI_i, gInt_i, gOrd_i, gOrd_s, gEq_to, gIs_to, gIn_s, gIx_l, gIx_t, gIx_s, gLen_s, gLen_t, gLen_l, gTup_l, gTup_t, gIsi_to, gIsi2_to, gSl_s, gSl_t, gSl_l, gAll_to, gJoin_to, at_0, at_1, at_2, at_3, k_li, k_set, k_own, k_new, k_drop, k_tupN, k_tupT, k_par, k_app, k_ext, k_its, k_itt, k_itl, k_r1, k_r2, k_ent, k_enl, k_os, k_mk, k_mkl, k_nb, k_op, k_ch, k_bl, k_bf, k_jn, gDct_to, k_dc, gGet_to, gInK_to, to_fkeys, k_ke, to_scr, k_scr, List.zip_cons_cons, List.zip_nil_right, List.zip_nil_left, List.foldl_cons, List.foldl_nil, and_true, true_and, ite_true, ite_false, if_true, if_false, reduceIte, Bool.false_eq_true, Option.some.injEq, D.str.injEq, D.int.injEq, D.tup.injEq, D.lst.injEq, D.bl.injEq, List.cons.injEq, exists_eq_left', exists_eq_left, forL_nil, sizeLine_eq, List.length_cons, List.length_nil, Nat.reduceAdd, Nat.reduceLeDiff, setT, setTn, setAll, wipeE, itemsOf, isD, id_eq, not_false_eq_true, exists_eq, exists_const, to_frzK, to_parK, gSortK_to, gIn_l, k_er, to_tryc, to_pB, k_pk, to_pN, k_pn, frzs_nil, frzs_cons, smU_t, smR_t, to_parLR, to_fnF, to_fnL, startN, List.map_cons, List.map_nil, List.cons_append, List.nil_append, List.replicate, Nat.reduceSub, e1, e2, e3, prsD_map, mergeD_nd nd, lkD_map, q, Option.map_none, Option.isSome_none]
    | inr y =>
      rw [r] at e3
      apply R.eq_of
      simp only [F_said, b_said, to_ok, to_er, to_no, to_bind, to_nx, to_rt, to_rl, to_bk, to_ct, to_err, to_nos, to_bindS, to_seq, to_if, to_raise, to_gR, to_gS, to_for, to_fComp, to_fCompL, to_lift, to_liftL, to_frz, k_b, k_s, k_i, k_c, k_l, k_f, k_and, k_or, k_band, k_bor, k_if, k_asb, k_bnot, then_nx, then_rt, then_rl, then_bk, then_ct, then_er, to_var0, to_varS, hide_nil, hide_cons, hide_d, hide_ow, hide_no, to_nD, to_c, to_f1, to_f2, to_args, to_argsL, to_acons, to_anil, to_and, to_or, to_not, to_band, to_bor, to_bnot, to_byes, to_asb, to_ifx, to_chain, to_tup, to_lst, to_lstL, to_items, to_rng1, to_rng2, to_enum, to_sl, to_oNone, to_oSome, to_join, to_set, to_sown, to_newL, to_sret, to_sretN, to_sretL, to_snil, to_sbk, to_sct, to_drop, to_stup, to_par, to_parL, to_app, to_ext, to_retO, to_aug, to_newK, to_putK, owL0, owLS, owK0, owKS, datD0, datDS, frz0, frzS, set0, setS, gAdd_i, gAdd_s, gAdd_t, gAdd_l, gAddI_i, gInt_i, gOrd_i, gOrd_s, gEq_to, gIs_to, gIn_s, gIx_l, gIx_t, gIx_s, gLen_s, gLen_t, gLen_l, gTup_l, gTup_t, gIsi_to, gIsi2_to, gSl_s, gSl_t, gSl_l, gAll_to, gJoin_to, at_0, at_1, at_2, at_3, k_li, k_set, k_own, k_new, k_drop, k_tupN, k_tupT, k_par, k_app, k_ext, k_its, k_itt, k_itl, k_r1, k_r2, k_ent, k_enl, k_os, k_mk, k_mkl, k_nb, k_op, k_ch, k_bl, k_bf, k_jn, gDct_to, k_dc, gGet_to, gInK_to, to_fkeys, k_ke, to_scr, k_scr, List.zip_cons_cons, List.zip_nil_right, List.zip_nil_left, List.foldl_cons, List.foldl_nil, and_true, true_and, ite_true, ite_false, if_true, if_false, reduceIte, Bool.false_eq_true, Option.some.injEq, D.str.injEq, D.int.injEq, D.tup.injEq, D.lst.injEq, D.bl.injEq, List.cons.injEq, exists_eq_left', exists_eq_left, forL_nil, sizeLine_eq, List.length_cons, List.length_nil, Nat.reduceAdd, Nat.reduceLeDiff, setT, setTn, setAll, wipeE, itemsOf, isD, id_eq, not_false_eq_true, exists_eq, exists_const, to_frzK, to_parK, gSortK_to, gIn_l, k_er, to_tryc, to_pB, k_pk, to_pN, k_pn, frzs_nil, frzs_cons, smU_t, smR_t, to_parLR, to_fnF, to_fnL, startN, List.map_cons, List.map_nil, List.cons_append, List.nil_append, List.replicate, Nat.reduceSub, e1, e2, e3, prsD_map, mergeD_nd nd, lkD_map, q, Option.map_none, Option.isSome_none]
theorem F__law_said_eq {L : List Nat} {rs : List Rl} {xs : List (List Nat × List Nat)} {w : List Nat} (g : GL L) (hr : ∀ r ∈ rs, GR L r) (hl : rs.length ≤ 1000) (hx : ∀ x ∈ xs, GX L x) (hxl : xs.length ≤ 1000) (hw : ∀ c ∈ w, c ∈ L) (h12 : w.length ≤ 1000) (s : Unit) :
    F__law_said [dB L rs xs, .str w] s = .ok (saidD (saysP rs xs w)) s := by
  have hrk : ∀ r ∈ rs, r.ok := fun r h => (hr r h).ok g
  have e := F__law_walk_eq rs w (by omega) (g.okS hw) hrk (by omega) s
  have kw := okE_str (g.okS hw)
  have k0 : okE (.str []) = true := rfl
  apply R.eq_of
  unfold dB
  simp only [F__law_said, b__law_said, to_ok, to_er, to_no, to_bind, to_nx, to_rt, to_rl, to_bk, to_ct, to_err, to_nos, to_bindS, to_seq, to_if, to_raise, to_gR, to_gS, to_for, to_fComp, to_fCompL, to_lift, to_liftL, to_frz, k_b, k_s, k_i, k_c, k_l, k_f, k_and, k_or, k_band, k_bor, k_if, k_asb, k_bnot, then_nx, then_rt, then_rl, then_bk, then_ct, then_er, to_var0, to_varS, hide_nil, hide_cons, hide_d, hide_ow, hide_no, to_nD, to_c, to_f1, to_f2, to_args, to_argsL, to_acons, to_anil, to_and, to_or, to_not, to_band, to_bor, to_bnot, to_byes, to_asb, to_ifx, to_chain, to_tup, to_lst, to_lstL, to_items, to_rng1, to_rng2, to_enum, to_sl, to_oNone, to_oSome, to_join, to_set, to_sown, to_newL, to_sret, to_sretN, to_sretL, to_snil, to_sbk, to_sct, to_drop, to_stup, to_par, to_parL, to_app, to_ext, to_retO, to_aug, to_newK, to_putK, owL0, owLS, owK0, owKS, datD0, datDS, frz0, frzS, set0, setS, gAdd_i, gAdd_s, gAdd_t, gAdd_l, gAddI_i, gInt_i, gOrd_i, gOrd_s, gEq_to, gIs_to, gIn_s, gIx_l, gIx_t, gIx_s, gLen_s, gLen_t, gLen_l, gTup_l, gTup_t, gIsi_to, gIsi2_to, gSl_s, gSl_t, gSl_l, gAll_to, gJoin_to, at_0, at_1, at_2, at_3, k_li, k_set, k_own, k_new, k_drop, k_tupN, k_tupT, k_par, k_app, k_ext, k_its, k_itt, k_itl, k_r1, k_r2, k_ent, k_enl, k_os, k_mk, k_mkl, k_nb, k_op, k_ch, k_bl, k_bf, k_jn, gDct_to, k_dc, gGet_to, gInK_to, to_fkeys, k_ke, to_scr, k_scr, List.zip_cons_cons, List.zip_nil_right, List.zip_nil_left, List.foldl_cons, List.foldl_nil, and_true, true_and, ite_true, ite_false, if_true, if_false, reduceIte, Bool.false_eq_true, Option.some.injEq, D.str.injEq, D.int.injEq, D.tup.injEq, D.lst.injEq, D.bl.injEq, List.cons.injEq, exists_eq_left', exists_eq_left, forL_nil, sizeLine_eq, List.length_cons, List.length_nil, Nat.reduceAdd, Nat.reduceLeDiff, setT, setTn, setAll, wipeE, itemsOf, isD, id_eq, not_false_eq_true, exists_eq, exists_const, to_frzK, to_parK, gSortK_to, gIn_l, k_er, to_tryc, to_pB, k_pk, to_pN, k_pn, frzs_nil, frzs_cons, smU_t, smR_t, to_parLR, to_fnF, to_fnL, startN, List.map_cons, List.map_nil, List.cons_append, List.nil_append, List.replicate, Nat.reduceSub]
  refine for_list (g := dX) (fun l ε s' => s' = s ∧ (∀ x ∈ l, x ∈ xs) ∧ exLook l w = exLook xs w ∧ ∃ (x y : Option O), ε = [some (.d (.tup [.str L, .tup (rs.map dR), .tup (xs.map dX)])), some (.d (.str w)), none, x, y, none, none]) ⟨rfl, fun x hx => hx, rfl, none, none, rfl⟩ ?_ ?_
  · rintro z rest ε s' ⟨rfl, hin, hlk, x, y, rfl⟩
    refine ⟨[some (.d (.tup [.str L, .tup (rs.map dR), .tup (xs.map dX)])), some (.d (.str w)), none, some (.d (.str z.1)), some (.d (.str z.2)), none, none], by simp [dX, setTn], ?_⟩
    have kz := okE_str (g.okS (hx z (hin z List.mem_cons_self)).mo)
    by_cases h : z.1 = w
    · have : saysP rs xs w = .inr z.2 := by
        unfold saysP
        rw [← hlk]
        unfold exLook
        rw [List.find?_cons_of_pos (by simpa using h)]
        rfl
      simp only [to_ok, to_er, to_no, to_bind, to_nx, to_rt, to_rl, to_bk, to_ct, to_err, to_nos, to_bindS, to_seq, to_if, to_raise, to_gR, to_gS, to_for, to_fComp, to_fCompL, to_lift, to_liftL, to_frz, k_b, k_s, k_i, k_c, k_l, k_f, k_and, k_or, k_band, k_bor, k_if, k_asb, k_bnot, then_nx, then_rt, then_rl, then_bk, then_ct, then_er, to_var0, to_varS, hide_nil, hide_cons, hide_d, hide_ow, hide_no, to_nD, to_c, to_f1, to_f2, to_args, to_argsL, to_acons, to_anil, to_and, to_or, to_not, to_band, to_bor, to_bnot, to_byes, to_asb, to_ifx, to_chain, to_tup, to_lst, to_lstL, to_items, to_rng1, to_rng2, to_enum, to_sl, to_oNone, to_oSome, to_join, to_set, to_sown, to_newL, to_sret, to_sretN, to_sretL, to_snil, to_sbk, to_sct, to_drop, to_stup, to_par, to_parL, to_app, to_ext, to_retO, to_aug, to_newK, to_putK, owL0, owLS, owK0, owKS, datD0, datDS, frz0, frzS, set0, setS, gAdd_i, gAdd_s, gAdd_t, gAdd_l, gAddI_i, gInt_i, gOrd_i, gOrd_s, gEq_to, gIs_to, gIn_s, gIx_l, gIx_t, gIx_s, gLen_s, gLen_t, gLen_l, gTup_l, gTup_t, gIsi_to, gIsi2_to, gSl_s, gSl_t, gSl_l, gAll_to, gJoin_to, at_0, at_1, at_2, at_3, k_li, k_set, k_own, k_new, k_drop, k_tupN, k_tupT, k_par, k_app, k_ext, k_its, k_itt, k_itl, k_r1, k_r2, k_ent, k_enl, k_os, k_mk, k_mkl, k_nb, k_op, k_ch, k_bl, k_bf, k_jn, gDct_to, k_dc, gGet_to, gInK_to, to_fkeys, k_ke, to_scr, k_scr, List.zip_cons_cons, List.zip_nil_right, List.zip_nil_left, List.foldl_cons, List.foldl_nil, and_true, true_and, ite_true, ite_false, if_true, if_false, reduceIte, Bool.false_eq_true, Option.some.injEq, D.str.injEq, D.int.injEq, D.tup.injEq, D.lst.injEq, D.bl.injEq, List.cons.injEq, exists_eq_left', exists_eq_left, forL_nil, sizeLine_eq, List.length_cons, List.length_nil, Nat.reduceAdd, Nat.reduceLeDiff, setT, setTn, setAll, wipeE, itemsOf, isD, id_eq, not_false_eq_true, exists_eq, exists_const, to_frzK, to_parK, gSortK_to, gIn_l, k_er, to_tryc, to_pB, k_pk, to_pN, k_pn, frzs_nil, frzs_cons, smU_t, smR_t, to_parLR, to_fnF, to_fnL, startN, List.map_cons, List.map_nil, List.cons_append, List.nil_append, List.replicate, Nat.reduceSub, kz, kw, eqD, h, decide_true, this, saidD]
    · simp only [to_ok, to_er, to_no, to_bind, to_nx, to_rt, to_rl, to_bk, to_ct, to_err, to_nos, to_bindS, to_seq, to_if, to_raise, to_gR, to_gS, to_for, to_fComp, to_fCompL, to_lift, to_liftL, to_frz, k_b, k_s, k_i, k_c, k_l, k_f, k_and, k_or, k_band, k_bor, k_if, k_asb, k_bnot, then_nx, then_rt, then_rl, then_bk, then_ct, then_er, to_var0, to_varS, hide_nil, hide_cons, hide_d, hide_ow, hide_no, to_nD, to_c, to_f1, to_f2, to_args, to_argsL, to_acons, to_anil, to_and, to_or, to_not, to_band, to_bor, to_bnot, to_byes, to_asb, to_ifx, to_chain, to_tup, to_lst, to_lstL, to_items, to_rng1, to_rng2, to_enum, to_sl, to_oNone, to_oSome, to_join, to_set, to_sown, to_newL, to_sret, to_sretN, to_sretL, to_snil, to_sbk, to_sct, to_drop, to_stup, to_par, to_parL, to_app, to_ext, to_retO, to_aug, to_newK, to_putK, owL0, owLS, owK0, owKS, datD0, datDS, frz0, frzS, set0, setS, gAdd_i, gAdd_s, gAdd_t, gAdd_l, gAddI_i, gInt_i, gOrd_i, gOrd_s, gEq_to, gIs_to, gIn_s, gIx_l, gIx_t, gIx_s, gLen_s, gLen_t, gLen_l, gTup_l, gTup_t, gIsi_to, gIsi2_to, gSl_s, gSl_t, gSl_l, gAll_to, gJoin_to, at_0, at_1, at_2, at_3, k_li, k_set, k_own, k_new, k_drop, k_tupN, k_tupT, k_par, k_app, k_ext, k_its, k_itt, k_itl, k_r1, k_r2, k_ent, k_enl, k_os, k_mk, k_mkl, k_nb, k_op, k_ch, k_bl, k_bf, k_jn, gDct_to, k_dc, gGet_to, gInK_to, to_fkeys, k_ke, to_scr, k_scr, List.zip_cons_cons, List.zip_nil_right, List.zip_nil_left, List.foldl_cons, List.foldl_nil, and_true, true_and, ite_true, ite_false, if_true, if_false, reduceIte, Bool.false_eq_true, Option.some.injEq, D.str.injEq, D.int.injEq, D.tup.injEq, D.lst.injEq, D.bl.injEq, List.cons.injEq, exists_eq_left', exists_eq_left, forL_nil, sizeLine_eq, List.length_cons, List.length_nil, Nat.reduceAdd, Nat.reduceLeDiff, setT, setTn, setAll, wipeE, itemsOf, isD, id_eq, not_false_eq_true, exists_eq, exists_const, to_frzK, to_parK, gSortK_to, gIn_l, k_er, to_tryc, to_pB, k_pk, to_pN, k_pn, frzs_nil, frzs_cons, smU_t, smR_t, to_parLR, to_fnF, to_fnL, startN, List.map_cons, List.map_nil, List.cons_append, List.nil_append, List.replicate, Nat.reduceSub, kz, kw, eqD, h, decide_false]
      refine ⟨fun a ha => hin a (List.mem_cons_of_mem _ ha), ?_, some (.d (.str z.1)), some (.d (.str z.2)), rfl, rfl⟩
      rw [← hlk]
      unfold exLook
      rw [List.find?_cons_of_neg (by simpa using h)]
  · rintro ε s' ⟨rfl, hin, hlk, x, y, rfl⟩
    have hn : exLook xs w = none := hlk.symm
    unfold saysP rulesSay
    rw [hn]
    cases q : walkP rs w (w.length + 1) 0 [] with
    | inl p =>
      rw [q] at e
      have kq : okE (.str [117, 110, 115, 97, 105, 100]) = true := rfl
      simp only [to_ok, to_er, to_no, to_bind, to_nx, to_rt, to_rl, to_bk, to_ct, to_err, to_nos, to_bindS, to_seq, to_if, to_raise, to_gR, to_gS, to_for, to_fComp, to_fCompL, to_lift, to_liftL, to_frz, k_b, k_s, k_i, k_c, k_l, k_f, k_and, k_or, k_band, k_bor, k_if, k_asb, k_bnot, then_nx, then_rt, then_rl, then_bk, then_ct, then_er, to_var0, to_varS, hide_nil, hide_cons, hide_d, hide_ow, hide_no, to_nD, to_c, to_f1, to_f2, to_args, to_argsL, to_acons, to_anil, to_and, to_or, to_not, to_band, to_bor, to_bnot, to_byes, to_asb, to_ifx, to_chain, to_tup, to_lst, to_lstL, to_items, to_rng1, to_rng2, to_enum, to_sl, to_oNone, to_oSome, to_join, to_set, to_sown, to_newL, to_sret, to_sretN, to_sretL, to_snil, to_sbk, to_sct, to_drop, to_stup, to_par, to_parL, to_app, to_ext, to_retO, to_aug, to_newK, to_putK, owL0, owLS, owK0, owKS, datD0, datDS, frz0, frzS, set0, setS, gAdd_i, gAdd_s, gAdd_t, gAdd_l, gAddI_i, gInt_i, gOrd_i, gOrd_s, gEq_to, gIs_to, gIn_s, gIx_l, gIx_t, gIx_s, gLen_s, gLen_t, gLen_l, gTup_l, gTup_t, gIsi_to, gIsi2_to, gSl_s, gSl_t, gSl_l, gAll_to, gJoin_to, at_0, at_1, at_2, at_3, k_li, k_set, k_own, k_new, k_drop, k_tupN, k_tupT, k_par, k_app, k_ext, k_its, k_itt, k_itl, k_r1, k_r2, k_ent, k_enl, k_os, k_mk, k_mkl, k_nb, k_op, k_ch, k_bl, k_bf, k_jn, gDct_to, k_dc, gGet_to, gInK_to, to_fkeys, k_ke, to_scr, k_scr, List.zip_cons_cons, List.zip_nil_right, List.zip_nil_left, List.foldl_cons, List.foldl_nil, and_true, true_and, ite_true, ite_false, if_true, if_false, reduceIte, Bool.false_eq_true, Option.some.injEq, D.str.injEq, D.int.injEq, D.tup.injEq, D.lst.injEq, D.bl.injEq, List.cons.injEq, exists_eq_left', exists_eq_left, forL_nil, sizeLine_eq, List.length_cons, List.length_nil, Nat.reduceAdd, Nat.reduceLeDiff, setT, setTn, setAll, wipeE, itemsOf, isD, id_eq, not_false_eq_true, exists_eq, exists_const, to_frzK, to_parK, gSortK_to, gIn_l, k_er, to_tryc, to_pB, k_pk, to_pN, k_pn, frzs_nil, frzs_cons, smU_t, smR_t, to_parLR, to_fnF, to_fnL, startN, List.map_cons, List.map_nil, List.cons_append, List.nil_append, List.replicate, Nat.reduceSub, e, walkD, k0, kq, eqD, show ¬ ([117, 110, 115, 97, 105, 100] : List Nat) = [] from fun z => (nomatch z), decide_false, Bool.not_false, saidD]
    | inr l =>
      rw [q] at e
      have hll := walkP_len hrk _ _ _ _ (by simp) (by omega) q
      have hix := walkP_ix _ _ _ l (by simp) q
      simp only [to_ok, to_er, to_no, to_bind, to_nx, to_rt, to_rl, to_bk, to_ct, to_err, to_nos, to_bindS, to_seq, to_if, to_raise, to_gR, to_gS, to_for, to_fComp, to_fCompL, to_lift, to_liftL, to_frz, k_b, k_s, k_i, k_c, k_l, k_f, k_and, k_or, k_band, k_bor, k_if, k_asb, k_bnot, then_nx, then_rt, then_rl, then_bk, then_ct, then_er, to_var0, to_varS, hide_nil, hide_cons, hide_d, hide_ow, hide_no, to_nD, to_c, to_f1, to_f2, to_args, to_argsL, to_acons, to_anil, to_and, to_or, to_not, to_band, to_bor, to_bnot, to_byes, to_asb, to_ifx, to_chain, to_tup, to_lst, to_lstL, to_items, to_rng1, to_rng2, to_enum, to_sl, to_oNone, to_oSome, to_join, to_set, to_sown, to_newL, to_sret, to_sretN, to_sretL, to_snil, to_sbk, to_sct, to_drop, to_stup, to_par, to_parL, to_app, to_ext, to_retO, to_aug, to_newK, to_putK, owL0, owLS, owK0, owKS, datD0, datDS, frz0, frzS, set0, setS, gAdd_i, gAdd_s, gAdd_t, gAdd_l, gAddI_i, gInt_i, gOrd_i, gOrd_s, gEq_to, gIs_to, gIn_s, gIx_l, gIx_t, gIx_s, gLen_s, gLen_t, gLen_l, gTup_l, gTup_t, gIsi_to, gIsi2_to, gSl_s, gSl_t, gSl_l, gAll_to, gJoin_to, at_0, at_1, at_2, at_3, k_li, k_set, k_own, k_new, k_drop, k_tupN, k_tupT, k_par, k_app, k_ext, k_its, k_itt, k_itl, k_r1, k_r2, k_ent, k_enl, k_os, k_mk, k_mkl, k_nb, k_op, k_ch, k_bl, k_bf, k_jn, gDct_to, k_dc, gGet_to, gInK_to, to_fkeys, k_ke, to_scr, k_scr, List.zip_cons_cons, List.zip_nil_right, List.zip_nil_left, List.foldl_cons, List.foldl_nil, and_true, true_and, ite_true, ite_false, if_true, if_false, reduceIte, Bool.false_eq_true, Option.some.injEq, D.str.injEq, D.int.injEq, D.tup.injEq, D.lst.injEq, D.bl.injEq, List.cons.injEq, exists_eq_left', exists_eq_left, forL_nil, sizeLine_eq, List.length_cons, List.length_nil, Nat.reduceAdd, Nat.reduceLeDiff, setT, setTn, setAll, wipeE, itemsOf, isD, id_eq, not_false_eq_true, exists_eq, exists_const, to_frzK, to_parK, gSortK_to, gIn_l, k_er, to_tryc, to_pB, k_pk, to_pN, k_pn, frzs_nil, frzs_cons, smU_t, smR_t, to_parLR, to_fnF, to_fnL, startN, List.map_cons, List.map_nil, List.cons_append, List.nil_append, List.replicate, Nat.reduceSub, e, walkD, k0, eqD, decide_true, Bool.not_true, List.length_map]
      refine ⟨by omega, comp_all (fun q : Nat × Nat => .str (sOf rs q.2)) (fun x hx => ⟨_, rfl, ?_⟩) ?_⟩
      · simp only [to_ok, to_er, to_no, to_bind, to_nx, to_rt, to_rl, to_bk, to_ct, to_err, to_nos, to_bindS, to_seq, to_if, to_raise, to_gR, to_gS, to_for, to_fComp, to_fCompL, to_lift, to_liftL, to_frz, k_b, k_s, k_i, k_c, k_l, k_f, k_and, k_or, k_band, k_bor, k_if, k_asb, k_bnot, then_nx, then_rt, then_rl, then_bk, then_ct, then_er, to_var0, to_varS, hide_nil, hide_cons, hide_d, hide_ow, hide_no, to_nD, to_c, to_f1, to_f2, to_args, to_argsL, to_acons, to_anil, to_and, to_or, to_not, to_band, to_bor, to_bnot, to_byes, to_asb, to_ifx, to_chain, to_tup, to_lst, to_lstL, to_items, to_rng1, to_rng2, to_enum, to_sl, to_oNone, to_oSome, to_join, to_set, to_sown, to_newL, to_sret, to_sretN, to_sretL, to_snil, to_sbk, to_sct, to_drop, to_stup, to_par, to_parL, to_app, to_ext, to_retO, to_aug, to_newK, to_putK, owL0, owLS, owK0, owKS, datD0, datDS, frz0, frzS, set0, setS, gAdd_i, gAdd_s, gAdd_t, gAdd_l, gAddI_i, gInt_i, gOrd_i, gOrd_s, gEq_to, gIs_to, gIn_s, gIx_l, gIx_t, gIx_s, gLen_s, gLen_t, gLen_l, gTup_l, gTup_t, gIsi_to, gIsi2_to, gSl_s, gSl_t, gSl_l, gAll_to, gJoin_to, at_0, at_1, at_2, at_3, k_li, k_set, k_own, k_new, k_drop, k_tupN, k_tupT, k_par, k_app, k_ext, k_its, k_itt, k_itl, k_r1, k_r2, k_ent, k_enl, k_os, k_mk, k_mkl, k_nb, k_op, k_ch, k_bl, k_bf, k_jn, gDct_to, k_dc, gGet_to, gInK_to, to_fkeys, k_ke, to_scr, k_scr, List.zip_cons_cons, List.zip_nil_right, List.zip_nil_left, List.foldl_cons, List.foldl_nil, and_true, true_and, ite_true, ite_false, if_true, if_false, reduceIte, Bool.false_eq_true, Option.some.injEq, D.str.injEq, D.int.injEq, D.tup.injEq, D.lst.injEq, D.bl.injEq, List.cons.injEq, exists_eq_left', exists_eq_left, forL_nil, sizeLine_eq, List.length_cons, List.length_nil, Nat.reduceAdd, Nat.reduceLeDiff, setT, setTn, setAll, wipeE, itemsOf, isD, id_eq, not_false_eq_true, exists_eq, exists_const, to_frzK, to_parK, gSortK_to, gIn_l, k_er, to_tryc, to_pB, k_pk, to_pN, k_pn, frzs_nil, frzs_cons, smU_t, smR_t, to_parLR, to_fnF, to_fnL, startN, List.map_cons, List.map_nil, List.cons_append, List.nil_append, List.replicate, Nat.reduceSub, dR_at (hix x hx)]
      · simp only [to_ok, to_er, to_no, to_bind, to_nx, to_rt, to_rl, to_bk, to_ct, to_err, to_nos, to_bindS, to_seq, to_if, to_raise, to_gR, to_gS, to_for, to_fComp, to_fCompL, to_lift, to_liftL, to_frz, k_b, k_s, k_i, k_c, k_l, k_f, k_and, k_or, k_band, k_bor, k_if, k_asb, k_bnot, then_nx, then_rt, then_rl, then_bk, then_ct, then_er, to_var0, to_varS, hide_nil, hide_cons, hide_d, hide_ow, hide_no, to_nD, to_c, to_f1, to_f2, to_args, to_argsL, to_acons, to_anil, to_and, to_or, to_not, to_band, to_bor, to_bnot, to_byes, to_asb, to_ifx, to_chain, to_tup, to_lst, to_lstL, to_items, to_rng1, to_rng2, to_enum, to_sl, to_oNone, to_oSome, to_join, to_set, to_sown, to_newL, to_sret, to_sretN, to_sretL, to_snil, to_sbk, to_sct, to_drop, to_stup, to_par, to_parL, to_app, to_ext, to_retO, to_aug, to_newK, to_putK, owL0, owLS, owK0, owKS, datD0, datDS, frz0, frzS, set0, setS, gAdd_i, gAdd_s, gAdd_t, gAdd_l, gAddI_i, gInt_i, gOrd_i, gOrd_s, gEq_to, gIs_to, gIn_s, gIx_l, gIx_t, gIx_s, gLen_s, gLen_t, gLen_l, gTup_l, gTup_t, gIsi_to, gIsi2_to, gSl_s, gSl_t, gSl_l, gAll_to, gJoin_to, at_0, at_1, at_2, at_3, k_li, k_set, k_own, k_new, k_drop, k_tupN, k_tupT, k_par, k_app, k_ext, k_its, k_itt, k_itl, k_r1, k_r2, k_ent, k_enl, k_os, k_mk, k_mkl, k_nb, k_op, k_ch, k_bl, k_bf, k_jn, gDct_to, k_dc, gGet_to, gInK_to, to_fkeys, k_ke, to_scr, k_scr, List.zip_cons_cons, List.zip_nil_right, List.zip_nil_left, List.foldl_cons, List.foldl_nil, and_true, true_and, ite_true, ite_false, if_true, if_false, reduceIte, Bool.false_eq_true, Option.some.injEq, D.str.injEq, D.int.injEq, D.tup.injEq, D.lst.injEq, D.bl.injEq, List.cons.injEq, exists_eq_left', exists_eq_left, forL_nil, sizeLine_eq, List.length_cons, List.length_nil, Nat.reduceAdd, Nat.reduceLeDiff, setT, setTn, setAll, wipeE, itemsOf, isD, id_eq, not_false_eq_true, exists_eq, exists_const, to_frzK, to_parK, gSortK_to, gIn_l, k_er, to_tryc, to_pB, k_pk, to_pN, k_pn, frzs_nil, frzs_cons, smU_t, smR_t, to_parLR, to_fnF, to_fnL, startN, List.map_cons, List.map_nil, List.cons_append, List.nil_append, List.replicate, Nat.reduceSub]
        refine join_ok (fun q : Nat × Nat => sOf rs q.2) l _ (fun x _ => by have := sOf_le hr x.2; omega) (by omega) ?_
        simp only [to_ok, to_er, to_no, to_bind, to_nx, to_rt, to_rl, to_bk, to_ct, to_err, to_nos, to_bindS, to_seq, to_if, to_raise, to_gR, to_gS, to_for, to_fComp, to_fCompL, to_lift, to_liftL, to_frz, k_b, k_s, k_i, k_c, k_l, k_f, k_and, k_or, k_band, k_bor, k_if, k_asb, k_bnot, then_nx, then_rt, then_rl, then_bk, then_ct, then_er, to_var0, to_varS, hide_nil, hide_cons, hide_d, hide_ow, hide_no, to_nD, to_c, to_f1, to_f2, to_args, to_argsL, to_acons, to_anil, to_and, to_or, to_not, to_band, to_bor, to_bnot, to_byes, to_asb, to_ifx, to_chain, to_tup, to_lst, to_lstL, to_items, to_rng1, to_rng2, to_enum, to_sl, to_oNone, to_oSome, to_join, to_set, to_sown, to_newL, to_sret, to_sretN, to_sretL, to_snil, to_sbk, to_sct, to_drop, to_stup, to_par, to_parL, to_app, to_ext, to_retO, to_aug, to_newK, to_putK, owL0, owLS, owK0, owKS, datD0, datDS, frz0, frzS, set0, setS, gAdd_i, gAdd_s, gAdd_t, gAdd_l, gAddI_i, gInt_i, gOrd_i, gOrd_s, gEq_to, gIs_to, gIn_s, gIx_l, gIx_t, gIx_s, gLen_s, gLen_t, gLen_l, gTup_l, gTup_t, gIsi_to, gIsi2_to, gSl_s, gSl_t, gSl_l, gAll_to, gJoin_to, at_0, at_1, at_2, at_3, k_li, k_set, k_own, k_new, k_drop, k_tupN, k_tupT, k_par, k_app, k_ext, k_its, k_itt, k_itl, k_r1, k_r2, k_ent, k_enl, k_os, k_mk, k_mkl, k_nb, k_op, k_ch, k_bl, k_bf, k_jn, gDct_to, k_dc, gGet_to, gInK_to, to_fkeys, k_ke, to_scr, k_scr, List.zip_cons_cons, List.zip_nil_right, List.zip_nil_left, List.foldl_cons, List.foldl_nil, and_true, true_and, ite_true, ite_false, if_true, if_false, reduceIte, Bool.false_eq_true, Option.some.injEq, D.str.injEq, D.int.injEq, D.tup.injEq, D.lst.injEq, D.bl.injEq, List.cons.injEq, exists_eq_left', exists_eq_left, forL_nil, sizeLine_eq, List.length_cons, List.length_nil, Nat.reduceAdd, Nat.reduceLeDiff, setT, setTn, setAll, wipeE, itemsOf, isD, id_eq, not_false_eq_true, exists_eq, exists_const, to_frzK, to_parK, gSortK_to, gIn_l, k_er, to_tryc, to_pB, k_pk, to_pN, k_pn, frzs_nil, frzs_cons, smU_t, smR_t, to_parLR, to_fnF, to_fnL, startN, List.map_cons, List.map_nil, List.cons_append, List.nil_append, List.replicate, Nat.reduceSub, saidD]
theorem F_said_by_eq {L : List Nat} {rs : List Rl} {xs : List (List Nat × List Nat)} {w : List Nat} (g : GL L) (hr : ∀ r ∈ rs, GR L r) (hl : rs.length ≤ 1000) (nd0 : (xs.map (·.1)).Nodup) (hw : ∀ c ∈ w, c ∈ L) (h12 : w.length ≤ 1000) (s : Unit) :
    F_said_by [dB L rs xs, .str w] s = .ok (saidN (saysP rs xs w)) s := by
  have e3 := F_by_rules_eq g hr hl hw h12 s
  have nd : ((xs.map fun x => (x.1, D.str x.2)).map (·.1)).Nodup := by rw [List.map_map]; exact nd0
  unfold dB saysP
  cases q : exLook xs w with
  | some y =>
    apply R.eq_of
    simp only [F_said_by, b_said_by, to_ok, to_er, to_no, to_bind, to_nx, to_rt, to_rl, to_bk, to_ct, to_err, to_nos, to_bindS, to_seq, to_if, to_raise, to_gR, to_gS, to_for, to_fComp, to_fCompL, to_lift, to_liftL, to_frz, k_b, k_s, k_i, k_c, k_l, k_f, k_and, k_or, k_band, k_bor, k_if, k_asb, k_bnot, then_nx, then_rt, then_rl, then_bk, then_ct, then_er, to_var0, to_varS, hide_nil, hide_cons, hide_d, hide_ow, hide_no, to_nD, to_c, to_f1, to_f2, to_args, to_argsL, to_acons, to_anil, to_and, to_or, to_not, to_band, to_bor, to_bnot, to_byes, to_asb, to_ifx, to_chain, to_tup, to_lst, to_lstL, to_items, to_rng1, to_rng2, to_enum, to_sl, to_oNone, to_oSome, to_join, to_set, to_sown, to_newL, to_sret, to_sretN, to_sretL, to_snil, to_sbk, to_sct, to_drop, to_stup, to_par, to_parL, to_app, to_ext, to_retO, to_aug, to_newK, to_putK, owL0, owLS, owK0, owKS, datD0, datDS, frz0, frzS, set0, setS, gAdd_i, gAdd_s, gAdd_t, gAdd_l, gAddI_i, gInt_i, gOrd_i, gOrd_s, gEq_to, gIs_to, gIn_s, gIx_l, gIx_t, gIx_s, gLen_s, gLen_t, gLen_l, gTup_l, gTup_t, gIsi_to, gIsi2_to, gSl_s, gSl_t, gSl_l, gAll_to, gJoin_to, at_0, at_1, at_2, at_3, k_li, k_set, k_own, k_new, k_drop, k_tupN, k_tupT, k_par, k_app, k_ext, k_its, k_itt, k_itl, k_r1, k_r2, k_ent, k_enl, k_os, k_mk, k_mkl, k_nb, k_op, k_ch, k_bl, k_bf, k_jn, gDct_to, k_dc, gGet_to, gInK_to, to_fkeys, k_ke, to_scr, k_scr, List.zip_cons_cons, List.zip_nil_right, List.zip_nil_left, List.foldl_cons, List.foldl_nil, and_true, true_and, ite_true, ite_false, if_true, if_false, reduceIte, Bool.false_eq_true, Option.some.injEq, D.str.injEq, D.int.injEq, D.tup.injEq, D.lst.injEq, D.bl.injEq, List.cons.injEq, exists_eq_left', exists_eq_left, forL_nil, sizeLine_eq, List.length_cons, List.length_nil, Nat.reduceAdd, Nat.reduceLeDiff, setT, setTn, setAll, wipeE, itemsOf, isD, id_eq, not_false_eq_true, exists_eq, exists_const, to_frzK, to_parK, gSortK_to, gIn_l, k_er, to_tryc, to_pB, k_pk, to_pN, k_pn, frzs_nil, frzs_cons, smU_t, smR_t, to_parLR, to_fnF, to_fnL, startN, List.map_cons, List.map_nil, List.cons_append, List.nil_append, List.replicate, Nat.reduceSub, prsD_map, mergeD_nd nd, lkD_map, q, Option.map_some, Option.isSome_some, saidN]
  | none =>
    dsimp only
    cases r : rulesSay rs w with
    | inl p =>
      rw [r] at e3
      apply R.eq_of
      simp only [F_said_by, b_said_by, to_ok, to_er, to_no, to_bind, to_nx, to_rt, to_rl, to_bk, to_ct, to_err, to_nos, to_bindS, to_seq, to_if, to_raise, to_gR, to_gS, to_for, to_fComp, to_fCompL, to_lift, to_liftL, to_frz, k_b, k_s, k_i, k_c, k_l, k_f, k_and, k_or, k_band, k_bor, k_if, k_asb, k_bnot, then_nx, then_rt, then_rl, then_bk, then_ct, then_er, to_var0, to_varS, hide_nil, hide_cons, hide_d, hide_ow, hide_no, to_nD, to_c, to_f1, to_f2, to_args, to_argsL, to_acons, to_anil, to_and, to_or, to_not, to_band, to_bor, to_bnot, to_byes, to_asb, to_ifx, to_chain, to_tup, to_lst, to_lstL, to_items, to_rng1, to_rng2, to_enum, to_sl, to_oNone, to_oSome, to_join, to_set, to_sown, to_newL, to_sret, to_sretN, to_sretL, to_snil, to_sbk, to_sct, to_drop, to_stup, to_par, to_parL, to_app, to_ext, to_retO, to_aug, to_newK, to_putK, owL0, owLS, owK0, owKS, datD0, datDS, frz0, frzS, set0, setS, gAdd_i, gAdd_s, gAdd_t, gAdd_l, gAddI_i, gInt_i, gOrd_i, gOrd_s, gEq_to, gIs_to, gIn_s, gIx_l, gIx_t, gIx_s, gLen_s, gLen_t, gLen_l, gTup_l, gTup_t, gIsi_to, gIsi2_to, gSl_s, gSl_t, gSl_l, gAll_to, gJoin_to, at_0, at_1, at_2, at_3, k_li, k_set, k_own, k_new, k_drop, k_tupN, k_tupT, k_par, k_app, k_ext, k_its, k_itt, k_itl, k_r1, k_r2, k_ent, k_enl, k_os, k_mk, k_mkl, k_nb, k_op, k_ch, k_bl, k_bf, k_jn, gDct_to, k_dc, gGet_to, gInK_to, to_fkeys, k_ke, to_scr, k_scr, List.zip_cons_cons, List.zip_nil_right, List.zip_nil_left, List.foldl_cons, List.foldl_nil, and_true, true_and, ite_true, ite_false, if_true, if_false, reduceIte, Bool.false_eq_true, Option.some.injEq, D.str.injEq, D.int.injEq, D.tup.injEq, D.lst.injEq, D.bl.injEq, List.cons.injEq, exists_eq_left', exists_eq_left, forL_nil, sizeLine_eq, List.length_cons, List.length_nil, Nat.reduceAdd, Nat.reduceLeDiff, setT, setTn, setAll, wipeE, itemsOf, isD, id_eq, not_false_eq_true, exists_eq, exists_const, to_frzK, to_parK, gSortK_to, gIn_l, k_er, to_tryc, to_pB, k_pk, to_pN, k_pn, frzs_nil, frzs_cons, smU_t, smR_t, to_parLR, to_fnF, to_fnL, startN, List.map_cons, List.map_nil, List.cons_append, List.nil_append, List.replicate, Nat.reduceSub, e3, prsD_map, mergeD_nd nd, lkD_map, q, Option.map_none, Option.isSome_none, ct_Unsaid, saidN]
    | inr y =>
      rw [r] at e3
      apply R.eq_of
      simp only [F_said_by, b_said_by, to_ok, to_er, to_no, to_bind, to_nx, to_rt, to_rl, to_bk, to_ct, to_err, to_nos, to_bindS, to_seq, to_if, to_raise, to_gR, to_gS, to_for, to_fComp, to_fCompL, to_lift, to_liftL, to_frz, k_b, k_s, k_i, k_c, k_l, k_f, k_and, k_or, k_band, k_bor, k_if, k_asb, k_bnot, then_nx, then_rt, then_rl, then_bk, then_ct, then_er, to_var0, to_varS, hide_nil, hide_cons, hide_d, hide_ow, hide_no, to_nD, to_c, to_f1, to_f2, to_args, to_argsL, to_acons, to_anil, to_and, to_or, to_not, to_band, to_bor, to_bnot, to_byes, to_asb, to_ifx, to_chain, to_tup, to_lst, to_lstL, to_items, to_rng1, to_rng2, to_enum, to_sl, to_oNone, to_oSome, to_join, to_set, to_sown, to_newL, to_sret, to_sretN, to_sretL, to_snil, to_sbk, to_sct, to_drop, to_stup, to_par, to_parL, to_app, to_ext, to_retO, to_aug, to_newK, to_putK, owL0, owLS, owK0, owKS, datD0, datDS, frz0, frzS, set0, setS, gAdd_i, gAdd_s, gAdd_t, gAdd_l, gAddI_i, gInt_i, gOrd_i, gOrd_s, gEq_to, gIs_to, gIn_s, gIx_l, gIx_t, gIx_s, gLen_s, gLen_t, gLen_l, gTup_l, gTup_t, gIsi_to, gIsi2_to, gSl_s, gSl_t, gSl_l, gAll_to, gJoin_to, at_0, at_1, at_2, at_3, k_li, k_set, k_own, k_new, k_drop, k_tupN, k_tupT, k_par, k_app, k_ext, k_its, k_itt, k_itl, k_r1, k_r2, k_ent, k_enl, k_os, k_mk, k_mkl, k_nb, k_op, k_ch, k_bl, k_bf, k_jn, gDct_to, k_dc, gGet_to, gInK_to, to_fkeys, k_ke, to_scr, k_scr, List.zip_cons_cons, List.zip_nil_right, List.zip_nil_left, List.foldl_cons, List.foldl_nil, and_true, true_and, ite_true, ite_false, if_true, if_false, reduceIte, Bool.false_eq_true, Option.some.injEq, D.str.injEq, D.int.injEq, D.tup.injEq, D.lst.injEq, D.bl.injEq, List.cons.injEq, exists_eq_left', exists_eq_left, forL_nil, sizeLine_eq, List.length_cons, List.length_nil, Nat.reduceAdd, Nat.reduceLeDiff, setT, setTn, setAll, wipeE, itemsOf, isD, id_eq, not_false_eq_true, exists_eq, exists_const, to_frzK, to_parK, gSortK_to, gIn_l, k_er, to_tryc, to_pB, k_pk, to_pN, k_pn, frzs_nil, frzs_cons, smU_t, smR_t, to_parLR, to_fnF, to_fnL, startN, List.map_cons, List.map_nil, List.cons_append, List.nil_append, List.replicate, Nat.reduceSub, e3, prsD_map, mergeD_nd nd, lkD_map, q, Option.map_none, Option.isSome_none, saidN]
theorem rules_good {L : List Nat} {rs : List Rl} {w y : List Nat} (g : GL L) (hr : ∀ r ∈ rs, GR L r) (h : rulesSay rs w = .inr y) : y.length ≤ w.length * 3 ∧ ∀ c ∈ y, 65 ≤ c ∧ c ≤ 90 := by
  have hrk : ∀ r ∈ rs, r.ok := fun r h => (hr r h).ok g
  unfold rulesSay at h
  cases q : walkP rs w (w.length + 1) 0 [] with
  | inl p => rw [q] at h; cases h
  | inr l =>
    rw [q] at h
    cases h
    have hll := walkP_len hrk _ _ _ _ (by simp) (by omega) q
    constructor
    · rw [List.length_flatMap]
      have := sum_le (fun q : Nat × Nat => (sOf rs q.2).length) 3 l fun x _ => sOf_le hr x.2
      have h3 : l.length * 3 ≤ w.length * 3 := Nat.mul_le_mul_right 3 hll
      exact Nat.le_trans this h3
    · intro c hc
      obtain ⟨p, _, hp⟩ := List.mem_flatMap.mp hc
      exact sOf_ms hr p.2 c hp
theorem F_needless_eq {L : List Nat} {rs : List Rl} {xs : List (List Nat × List Nat)} (g : GB L rs xs) (s : Unit) : F_needless [dB L rs xs] s = .ok (.lst (needL rs xs)) s ∧ FL_needless [dB L rs xs] s = .ok (needL rs xs) s := by
  have nr := g.nr
  have nx := g.nx
  have n4 := g.l.n4
  have e1 := F_need_book_eq L rs xs s (by omega) g.l.let' nr (fun r hr => ⟨(g.r r hr).short, (g.r r hr).b⟩) nx (fun x hx => ⟨by have := (g.x.all x hx).n8; omega, by have := (g.x.all x hx).s36; omega, by have := (g.x.all x hx).n1; intro z; rw [z] at this; simp at this, (g.x.all x hx).b⟩) g.x.ris
  have e2 : ∀ x ∈ xs, F_said_by [.tup [.str L, .tup (rs.map dR), .tup []], .str x.1] s = .ok (saidN (saysP rs [] x.1)) s := fun x hx => F_said_by_eq (xs := []) g.l g.r (by omega) List.nodup_nil (g.x.all x hx).mo (by have := (g.x.all x hx).n8; omega) s
  unfold dB at e1 ⊢
  constructor
  · apply R.eq_of
    simp only [F_needless, b_needless, to_ok, to_er, to_no, to_bind, to_nx, to_rt, to_rl, to_bk, to_ct, to_err, to_nos, to_bindS, to_seq, to_if, to_raise, to_gR, to_gS, to_for, to_fComp, to_fCompL, to_lift, to_liftL, to_frz, k_b, k_s, k_i, k_c, k_l, k_f, k_and, k_or, k_band, k_bor, k_if, k_asb, k_bnot, then_nx, then_rt, then_rl, then_bk, then_ct, then_er, to_var0, to_varS, hide_nil, hide_cons, hide_d, hide_ow, hide_no, to_nD, to_c, to_f1, to_f2, to_args, to_argsL, to_acons, to_anil, to_and, to_or, to_not, to_band, to_bor, to_bnot, to_byes, to_asb, to_ifx, to_chain, to_tup, to_lst, to_lstL, to_items, to_rng1, to_rng2, to_enum, to_sl, to_oNone, to_oSome, to_join, to_set, to_sown, to_newL, to_sret, to_sretN, to_sretL, to_snil, to_sbk, to_sct, to_drop, to_stup, to_par, to_parL, to_app, to_ext, to_retO, to_aug, to_newK, to_putK, owL0, owLS, owK0, owKS, datD0, datDS, frz0, frzS, set0, setS, gAdd_i, gAdd_s, gAdd_t, gAdd_l, gAddI_i, gInt_i, gOrd_i, gOrd_s, gEq_to, gIs_to, gIn_s, gIx_l, gIx_t, gIx_s, gLen_s, gLen_t, gLen_l, gTup_l, gTup_t, gIsi_to, gIsi2_to, gSl_s, gSl_t, gSl_l, gAll_to, gJoin_to, at_0, at_1, at_2, at_3, k_li, k_set, k_own, k_new, k_drop, k_tupN, k_tupT, k_par, k_app, k_ext, k_its, k_itt, k_itl, k_r1, k_r2, k_ent, k_enl, k_os, k_mk, k_mkl, k_nb, k_op, k_ch, k_bl, k_bf, k_jn, gDct_to, k_dc, gGet_to, gInK_to, to_fkeys, k_ke, to_scr, k_scr, List.zip_cons_cons, List.zip_nil_right, List.zip_nil_left, List.foldl_cons, List.foldl_nil, and_true, true_and, ite_true, ite_false, if_true, if_false, reduceIte, Bool.false_eq_true, Option.some.injEq, D.str.injEq, D.int.injEq, D.tup.injEq, D.lst.injEq, D.bl.injEq, List.cons.injEq, exists_eq_left', exists_eq_left, forL_nil, sizeLine_eq, List.length_cons, List.length_nil, Nat.reduceAdd, Nat.reduceLeDiff, setT, setTn, setAll, wipeE, itemsOf, isD, id_eq, not_false_eq_true, exists_eq, exists_const, to_frzK, to_parK, gSortK_to, gIn_l, k_er, to_tryc, to_pB, k_pk, to_pN, k_pn, frzs_nil, frzs_cons, smU_t, smR_t, to_parLR, to_fnF, to_fnL, startN, List.map_cons, List.map_nil, List.cons_append, List.nil_append, List.replicate, Nat.reduceSub, e1, List.length_map]
    refine ⟨by omega, comp_map (nP rs) (fun x : List Nat × List Nat => D.str x.1) (fun x hx => ⟨_, rfl, ?_, fun _ => ?_⟩) ?_⟩
    · have gx := g.x.all x hx
      have ko := saidN_ok (says_ok (xs := []) (w := x.1) g.l g.r (fun x h => by cases h))
      have ky : okE (.str x.2) = true := okE_str (okS_of fun c hc => by have := gx.ms c hc; omega)
      have ez : saysP rs [] x.1 = rulesSay rs x.1 := rfl
      rw [ez] at ko
      have e3 := e2 x hx
      rw [ez] at e3
      simp only [to_ok, to_er, to_no, to_bind, to_nx, to_rt, to_rl, to_bk, to_ct, to_err, to_nos, to_bindS, to_seq, to_if, to_raise, to_gR, to_gS, to_for, to_fComp, to_fCompL, to_lift, to_liftL, to_frz, k_b, k_s, k_i, k_c, k_l, k_f, k_and, k_or, k_band, k_bor, k_if, k_asb, k_bnot, then_nx, then_rt, then_rl, then_bk, then_ct, then_er, to_var0, to_varS, hide_nil, hide_cons, hide_d, hide_ow, hide_no, to_nD, to_c, to_f1, to_f2, to_args, to_argsL, to_acons, to_anil, to_and, to_or, to_not, to_band, to_bor, to_bnot, to_byes, to_asb, to_ifx, to_chain, to_tup, to_lst, to_lstL, to_items, to_rng1, to_rng2, to_enum, to_sl, to_oNone, to_oSome, to_join, to_set, to_sown, to_newL, to_sret, to_sretN, to_sretL, to_snil, to_sbk, to_sct, to_drop, to_stup, to_par, to_parL, to_app, to_ext, to_retO, to_aug, to_newK, to_putK, owL0, owLS, owK0, owKS, datD0, datDS, frz0, frzS, set0, setS, gAdd_i, gAdd_s, gAdd_t, gAdd_l, gAddI_i, gInt_i, gOrd_i, gOrd_s, gEq_to, gIs_to, gIn_s, gIx_l, gIx_t, gIx_s, gLen_s, gLen_t, gLen_l, gTup_l, gTup_t, gIsi_to, gIsi2_to, gSl_s, gSl_t, gSl_l, gAll_to, gJoin_to, at_0, at_1, at_2, at_3, k_li, k_set, k_own, k_new, k_drop, k_tupN, k_tupT, k_par, k_app, k_ext, k_its, k_itt, k_itl, k_r1, k_r2, k_ent, k_enl, k_os, k_mk, k_mkl, k_nb, k_op, k_ch, k_bl, k_bf, k_jn, gDct_to, k_dc, gGet_to, gInK_to, to_fkeys, k_ke, to_scr, k_scr, List.zip_cons_cons, List.zip_nil_right, List.zip_nil_left, List.foldl_cons, List.foldl_nil, and_true, true_and, ite_true, ite_false, if_true, if_false, reduceIte, Bool.false_eq_true, Option.some.injEq, D.str.injEq, D.int.injEq, D.tup.injEq, D.lst.injEq, D.bl.injEq, List.cons.injEq, exists_eq_left', exists_eq_left, forL_nil, sizeLine_eq, List.length_cons, List.length_nil, Nat.reduceAdd, Nat.reduceLeDiff, setT, setTn, setAll, wipeE, itemsOf, isD, id_eq, not_false_eq_true, exists_eq, exists_const, to_frzK, to_parK, gSortK_to, gIn_l, k_er, to_tryc, to_pB, k_pk, to_pN, k_pn, frzs_nil, frzs_cons, smU_t, smR_t, to_parLR, to_fnF, to_fnL, startN, List.map_cons, List.map_nil, List.cons_append, List.nil_append, List.replicate, Nat.reduceSub, dX, e3, ko, ky, saidN_eq, nP]
    · simp only [to_ok, to_er, to_no, to_bind, to_nx, to_rt, to_rl, to_bk, to_ct, to_err, to_nos, to_bindS, to_seq, to_if, to_raise, to_gR, to_gS, to_for, to_fComp, to_fCompL, to_lift, to_liftL, to_frz, k_b, k_s, k_i, k_c, k_l, k_f, k_and, k_or, k_band, k_bor, k_if, k_asb, k_bnot, then_nx, then_rt, then_rl, then_bk, then_ct, then_er, to_var0, to_varS, hide_nil, hide_cons, hide_d, hide_ow, hide_no, to_nD, to_c, to_f1, to_f2, to_args, to_argsL, to_acons, to_anil, to_and, to_or, to_not, to_band, to_bor, to_bnot, to_byes, to_asb, to_ifx, to_chain, to_tup, to_lst, to_lstL, to_items, to_rng1, to_rng2, to_enum, to_sl, to_oNone, to_oSome, to_join, to_set, to_sown, to_newL, to_sret, to_sretN, to_sretL, to_snil, to_sbk, to_sct, to_drop, to_stup, to_par, to_parL, to_app, to_ext, to_retO, to_aug, to_newK, to_putK, owL0, owLS, owK0, owKS, datD0, datDS, frz0, frzS, set0, setS, gAdd_i, gAdd_s, gAdd_t, gAdd_l, gAddI_i, gInt_i, gOrd_i, gOrd_s, gEq_to, gIs_to, gIn_s, gIx_l, gIx_t, gIx_s, gLen_s, gLen_t, gLen_l, gTup_l, gTup_t, gIsi_to, gIsi2_to, gSl_s, gSl_t, gSl_l, gAll_to, gJoin_to, at_0, at_1, at_2, at_3, k_li, k_set, k_own, k_new, k_drop, k_tupN, k_tupT, k_par, k_app, k_ext, k_its, k_itt, k_itl, k_r1, k_r2, k_ent, k_enl, k_os, k_mk, k_mkl, k_nb, k_op, k_ch, k_bl, k_bf, k_jn, gDct_to, k_dc, gGet_to, gInK_to, to_fkeys, k_ke, to_scr, k_scr, List.zip_cons_cons, List.zip_nil_right, List.zip_nil_left, List.foldl_cons, List.foldl_nil, and_true, true_and, ite_true, ite_false, if_true, if_false, reduceIte, Bool.false_eq_true, Option.some.injEq, D.str.injEq, D.int.injEq, D.tup.injEq, D.lst.injEq, D.bl.injEq, List.cons.injEq, exists_eq_left', exists_eq_left, forL_nil, sizeLine_eq, List.length_cons, List.length_nil, Nat.reduceAdd, Nat.reduceLeDiff, setT, setTn, setAll, wipeE, itemsOf, isD, id_eq, not_false_eq_true, exists_eq, exists_const, to_frzK, to_parK, gSortK_to, gIn_l, k_er, to_tryc, to_pB, k_pk, to_pN, k_pn, frzs_nil, frzs_cons, smU_t, smR_t, to_parLR, to_fnF, to_fnL, startN, List.map_cons, List.map_nil, List.cons_append, List.nil_append, List.replicate, Nat.reduceSub, dX]
    · simp only [to_ok, to_er, to_no, to_bind, to_nx, to_rt, to_rl, to_bk, to_ct, to_err, to_nos, to_bindS, to_seq, to_if, to_raise, to_gR, to_gS, to_for, to_fComp, to_fCompL, to_lift, to_liftL, to_frz, k_b, k_s, k_i, k_c, k_l, k_f, k_and, k_or, k_band, k_bor, k_if, k_asb, k_bnot, then_nx, then_rt, then_rl, then_bk, then_ct, then_er, to_var0, to_varS, hide_nil, hide_cons, hide_d, hide_ow, hide_no, to_nD, to_c, to_f1, to_f2, to_args, to_argsL, to_acons, to_anil, to_and, to_or, to_not, to_band, to_bor, to_bnot, to_byes, to_asb, to_ifx, to_chain, to_tup, to_lst, to_lstL, to_items, to_rng1, to_rng2, to_enum, to_sl, to_oNone, to_oSome, to_join, to_set, to_sown, to_newL, to_sret, to_sretN, to_sretL, to_snil, to_sbk, to_sct, to_drop, to_stup, to_par, to_parL, to_app, to_ext, to_retO, to_aug, to_newK, to_putK, owL0, owLS, owK0, owKS, datD0, datDS, frz0, frzS, set0, setS, gAdd_i, gAdd_s, gAdd_t, gAdd_l, gAddI_i, gInt_i, gOrd_i, gOrd_s, gEq_to, gIs_to, gIn_s, gIx_l, gIx_t, gIx_s, gLen_s, gLen_t, gLen_l, gTup_l, gTup_t, gIsi_to, gIsi2_to, gSl_s, gSl_t, gSl_l, gAll_to, gJoin_to, at_0, at_1, at_2, at_3, k_li, k_set, k_own, k_new, k_drop, k_tupN, k_tupT, k_par, k_app, k_ext, k_its, k_itt, k_itl, k_r1, k_r2, k_ent, k_enl, k_os, k_mk, k_mkl, k_nb, k_op, k_ch, k_bl, k_bf, k_jn, gDct_to, k_dc, gGet_to, gInK_to, to_fkeys, k_ke, to_scr, k_scr, List.zip_cons_cons, List.zip_nil_right, List.zip_nil_left, List.foldl_cons, List.foldl_nil, and_true, true_and, ite_true, ite_false, if_true, if_false, reduceIte, Bool.false_eq_true, Option.some.injEq, D.str.injEq, D.int.injEq, D.tup.injEq, D.lst.injEq, D.bl.injEq, List.cons.injEq, exists_eq_left', exists_eq_left, forL_nil, sizeLine_eq, List.length_cons, List.length_nil, Nat.reduceAdd, Nat.reduceLeDiff, setT, setTn, setAll, wipeE, itemsOf, isD, id_eq, not_false_eq_true, exists_eq, exists_const, to_frzK, to_parK, gSortK_to, gIn_l, k_er, to_tryc, to_pB, k_pk, to_pN, k_pn, frzs_nil, frzs_cons, smU_t, smR_t, to_parLR, to_fnF, to_fnL, startN, List.map_cons, List.map_nil, List.cons_append, List.nil_append, List.replicate, Nat.reduceSub, needL]
  · apply R.eq_of
    simp only [FL_needless, bL_needless, to_ok, to_er, to_no, to_bind, to_nx, to_rt, to_rl, to_bk, to_ct, to_err, to_nos, to_bindS, to_seq, to_if, to_raise, to_gR, to_gS, to_for, to_fComp, to_fCompL, to_lift, to_liftL, to_frz, k_b, k_s, k_i, k_c, k_l, k_f, k_and, k_or, k_band, k_bor, k_if, k_asb, k_bnot, then_nx, then_rt, then_rl, then_bk, then_ct, then_er, to_var0, to_varS, hide_nil, hide_cons, hide_d, hide_ow, hide_no, to_nD, to_c, to_f1, to_f2, to_args, to_argsL, to_acons, to_anil, to_and, to_or, to_not, to_band, to_bor, to_bnot, to_byes, to_asb, to_ifx, to_chain, to_tup, to_lst, to_lstL, to_items, to_rng1, to_rng2, to_enum, to_sl, to_oNone, to_oSome, to_join, to_set, to_sown, to_newL, to_sret, to_sretN, to_sretL, to_snil, to_sbk, to_sct, to_drop, to_stup, to_par, to_parL, to_app, to_ext, to_retO, to_aug, to_newK, to_putK, owL0, owLS, owK0, owKS, datD0, datDS, frz0, frzS, set0, setS, gAdd_i, gAdd_s, gAdd_t, gAdd_l, gAddI_i, gInt_i, gOrd_i, gOrd_s, gEq_to, gIs_to, gIn_s, gIx_l, gIx_t, gIx_s, gLen_s, gLen_t, gLen_l, gTup_l, gTup_t, gIsi_to, gIsi2_to, gSl_s, gSl_t, gSl_l, gAll_to, gJoin_to, at_0, at_1, at_2, at_3, k_li, k_set, k_own, k_new, k_drop, k_tupN, k_tupT, k_par, k_app, k_ext, k_its, k_itt, k_itl, k_r1, k_r2, k_ent, k_enl, k_os, k_mk, k_mkl, k_nb, k_op, k_ch, k_bl, k_bf, k_jn, gDct_to, k_dc, gGet_to, gInK_to, to_fkeys, k_ke, to_scr, k_scr, List.zip_cons_cons, List.zip_nil_right, List.zip_nil_left, List.foldl_cons, List.foldl_nil, and_true, true_and, ite_true, ite_false, if_true, if_false, reduceIte, Bool.false_eq_true, Option.some.injEq, D.str.injEq, D.int.injEq, D.tup.injEq, D.lst.injEq, D.bl.injEq, List.cons.injEq, exists_eq_left', exists_eq_left, forL_nil, sizeLine_eq, List.length_cons, List.length_nil, Nat.reduceAdd, Nat.reduceLeDiff, setT, setTn, setAll, wipeE, itemsOf, isD, id_eq, not_false_eq_true, exists_eq, exists_const, to_frzK, to_parK, gSortK_to, gIn_l, k_er, to_tryc, to_pB, k_pk, to_pN, k_pn, frzs_nil, frzs_cons, smU_t, smR_t, to_parLR, to_fnF, to_fnL, startN, List.map_cons, List.map_nil, List.cons_append, List.nil_append, List.replicate, Nat.reduceSub, e1, List.length_map]
    refine ⟨by omega, comp_map (nP rs) (fun x : List Nat × List Nat => D.str x.1) (fun x hx => ⟨_, rfl, ?_, fun _ => ?_⟩) ?_⟩
    · have gx := g.x.all x hx
      have ko := saidN_ok (says_ok (xs := []) (w := x.1) g.l g.r (fun x h => by cases h))
      have ky : okE (.str x.2) = true := okE_str (okS_of fun c hc => by have := gx.ms c hc; omega)
      have ez : saysP rs [] x.1 = rulesSay rs x.1 := rfl
      rw [ez] at ko
      have e3 := e2 x hx
      rw [ez] at e3
      simp only [to_ok, to_er, to_no, to_bind, to_nx, to_rt, to_rl, to_bk, to_ct, to_err, to_nos, to_bindS, to_seq, to_if, to_raise, to_gR, to_gS, to_for, to_fComp, to_fCompL, to_lift, to_liftL, to_frz, k_b, k_s, k_i, k_c, k_l, k_f, k_and, k_or, k_band, k_bor, k_if, k_asb, k_bnot, then_nx, then_rt, then_rl, then_bk, then_ct, then_er, to_var0, to_varS, hide_nil, hide_cons, hide_d, hide_ow, hide_no, to_nD, to_c, to_f1, to_f2, to_args, to_argsL, to_acons, to_anil, to_and, to_or, to_not, to_band, to_bor, to_bnot, to_byes, to_asb, to_ifx, to_chain, to_tup, to_lst, to_lstL, to_items, to_rng1, to_rng2, to_enum, to_sl, to_oNone, to_oSome, to_join, to_set, to_sown, to_newL, to_sret, to_sretN, to_sretL, to_snil, to_sbk, to_sct, to_drop, to_stup, to_par, to_parL, to_app, to_ext, to_retO, to_aug, to_newK, to_putK, owL0, owLS, owK0, owKS, datD0, datDS, frz0, frzS, set0, setS, gAdd_i, gAdd_s, gAdd_t, gAdd_l, gAddI_i, gInt_i, gOrd_i, gOrd_s, gEq_to, gIs_to, gIn_s, gIx_l, gIx_t, gIx_s, gLen_s, gLen_t, gLen_l, gTup_l, gTup_t, gIsi_to, gIsi2_to, gSl_s, gSl_t, gSl_l, gAll_to, gJoin_to, at_0, at_1, at_2, at_3, k_li, k_set, k_own, k_new, k_drop, k_tupN, k_tupT, k_par, k_app, k_ext, k_its, k_itt, k_itl, k_r1, k_r2, k_ent, k_enl, k_os, k_mk, k_mkl, k_nb, k_op, k_ch, k_bl, k_bf, k_jn, gDct_to, k_dc, gGet_to, gInK_to, to_fkeys, k_ke, to_scr, k_scr, List.zip_cons_cons, List.zip_nil_right, List.zip_nil_left, List.foldl_cons, List.foldl_nil, and_true, true_and, ite_true, ite_false, if_true, if_false, reduceIte, Bool.false_eq_true, Option.some.injEq, D.str.injEq, D.int.injEq, D.tup.injEq, D.lst.injEq, D.bl.injEq, List.cons.injEq, exists_eq_left', exists_eq_left, forL_nil, sizeLine_eq, List.length_cons, List.length_nil, Nat.reduceAdd, Nat.reduceLeDiff, setT, setTn, setAll, wipeE, itemsOf, isD, id_eq, not_false_eq_true, exists_eq, exists_const, to_frzK, to_parK, gSortK_to, gIn_l, k_er, to_tryc, to_pB, k_pk, to_pN, k_pn, frzs_nil, frzs_cons, smU_t, smR_t, to_parLR, to_fnF, to_fnL, startN, List.map_cons, List.map_nil, List.cons_append, List.nil_append, List.replicate, Nat.reduceSub, dX, e3, ko, ky, saidN_eq, nP]
    · simp only [to_ok, to_er, to_no, to_bind, to_nx, to_rt, to_rl, to_bk, to_ct, to_err, to_nos, to_bindS, to_seq, to_if, to_raise, to_gR, to_gS, to_for, to_fComp, to_fCompL, to_lift, to_liftL, to_frz, k_b, k_s, k_i, k_c, k_l, k_f, k_and, k_or, k_band, k_bor, k_if, k_asb, k_bnot, then_nx, then_rt, then_rl, then_bk, then_ct, then_er, to_var0, to_varS, hide_nil, hide_cons, hide_d, hide_ow, hide_no, to_nD, to_c, to_f1, to_f2, to_args, to_argsL, to_acons, to_anil, to_and, to_or, to_not, to_band, to_bor, to_bnot, to_byes, to_asb, to_ifx, to_chain, to_tup, to_lst, to_lstL, to_items, to_rng1, to_rng2, to_enum, to_sl, to_oNone, to_oSome, to_join, to_set, to_sown, to_newL, to_sret, to_sretN, to_sretL, to_snil, to_sbk, to_sct, to_drop, to_stup, to_par, to_parL, to_app, to_ext, to_retO, to_aug, to_newK, to_putK, owL0, owLS, owK0, owKS, datD0, datDS, frz0, frzS, set0, setS, gAdd_i, gAdd_s, gAdd_t, gAdd_l, gAddI_i, gInt_i, gOrd_i, gOrd_s, gEq_to, gIs_to, gIn_s, gIx_l, gIx_t, gIx_s, gLen_s, gLen_t, gLen_l, gTup_l, gTup_t, gIsi_to, gIsi2_to, gSl_s, gSl_t, gSl_l, gAll_to, gJoin_to, at_0, at_1, at_2, at_3, k_li, k_set, k_own, k_new, k_drop, k_tupN, k_tupT, k_par, k_app, k_ext, k_its, k_itt, k_itl, k_r1, k_r2, k_ent, k_enl, k_os, k_mk, k_mkl, k_nb, k_op, k_ch, k_bl, k_bf, k_jn, gDct_to, k_dc, gGet_to, gInK_to, to_fkeys, k_ke, to_scr, k_scr, List.zip_cons_cons, List.zip_nil_right, List.zip_nil_left, List.foldl_cons, List.foldl_nil, and_true, true_and, ite_true, ite_false, if_true, if_false, reduceIte, Bool.false_eq_true, Option.some.injEq, D.str.injEq, D.int.injEq, D.tup.injEq, D.lst.injEq, D.bl.injEq, List.cons.injEq, exists_eq_left', exists_eq_left, forL_nil, sizeLine_eq, List.length_cons, List.length_nil, Nat.reduceAdd, Nat.reduceLeDiff, setT, setTn, setAll, wipeE, itemsOf, isD, id_eq, not_false_eq_true, exists_eq, exists_const, to_frzK, to_parK, gSortK_to, gIn_l, k_er, to_tryc, to_pB, k_pk, to_pN, k_pn, frzs_nil, frzs_cons, smU_t, smR_t, to_parLR, to_fnF, to_fnL, startN, List.map_cons, List.map_nil, List.cons_append, List.nil_append, List.replicate, Nat.reduceSub, dX]
    · simp only [to_ok, to_er, to_no, to_bind, to_nx, to_rt, to_rl, to_bk, to_ct, to_err, to_nos, to_bindS, to_seq, to_if, to_raise, to_gR, to_gS, to_for, to_fComp, to_fCompL, to_lift, to_liftL, to_frz, k_b, k_s, k_i, k_c, k_l, k_f, k_and, k_or, k_band, k_bor, k_if, k_asb, k_bnot, then_nx, then_rt, then_rl, then_bk, then_ct, then_er, to_var0, to_varS, hide_nil, hide_cons, hide_d, hide_ow, hide_no, to_nD, to_c, to_f1, to_f2, to_args, to_argsL, to_acons, to_anil, to_and, to_or, to_not, to_band, to_bor, to_bnot, to_byes, to_asb, to_ifx, to_chain, to_tup, to_lst, to_lstL, to_items, to_rng1, to_rng2, to_enum, to_sl, to_oNone, to_oSome, to_join, to_set, to_sown, to_newL, to_sret, to_sretN, to_sretL, to_snil, to_sbk, to_sct, to_drop, to_stup, to_par, to_parL, to_app, to_ext, to_retO, to_aug, to_newK, to_putK, owL0, owLS, owK0, owKS, datD0, datDS, frz0, frzS, set0, setS, gAdd_i, gAdd_s, gAdd_t, gAdd_l, gAddI_i, gInt_i, gOrd_i, gOrd_s, gEq_to, gIs_to, gIn_s, gIx_l, gIx_t, gIx_s, gLen_s, gLen_t, gLen_l, gTup_l, gTup_t, gIsi_to, gIsi2_to, gSl_s, gSl_t, gSl_l, gAll_to, gJoin_to, at_0, at_1, at_2, at_3, k_li, k_set, k_own, k_new, k_drop, k_tupN, k_tupT, k_par, k_app, k_ext, k_its, k_itt, k_itl, k_r1, k_r2, k_ent, k_enl, k_os, k_mk, k_mkl, k_nb, k_op, k_ch, k_bl, k_bf, k_jn, gDct_to, k_dc, gGet_to, gInK_to, to_fkeys, k_ke, to_scr, k_scr, List.zip_cons_cons, List.zip_nil_right, List.zip_nil_left, List.foldl_cons, List.foldl_nil, and_true, true_and, ite_true, ite_false, if_true, if_false, reduceIte, Bool.false_eq_true, Option.some.injEq, D.str.injEq, D.int.injEq, D.tup.injEq, D.lst.injEq, D.bl.injEq, List.cons.injEq, exists_eq_left', exists_eq_left, forL_nil, sizeLine_eq, List.length_cons, List.length_nil, Nat.reduceAdd, Nat.reduceLeDiff, setT, setTn, setAll, wipeE, itemsOf, isD, id_eq, not_false_eq_true, exists_eq, exists_const, to_frzK, to_parK, gSortK_to, gIn_l, k_er, to_tryc, to_pB, k_pk, to_pN, k_pn, frzs_nil, frzs_cons, smU_t, smR_t, to_parLR, to_fnF, to_fnL, startN, List.map_cons, List.map_nil, List.cons_append, List.nil_append, List.replicate, Nat.reduceSub, needL]

end Yk15
namespace Yk15
open PySem L2 Dm
theorem row_eq (ns : List Int) (hl : ns.length ≤ 63) (hb : ∀ z ∈ ns, Builtin.Int.intBits z ≤ 1048576) : FL__law_row [.nm 1] ns = .ok [.nm 1, .int 0, .int 0, .int (mixL ns)] ns := by
  apply R.eq_of
  have hm : ∀ m : Int, 0 ≤ m → m < 2147483647 → m.natAbs.log2 + Nat.log2 48271 < 1000000 := by
    intro m h0 h1
    have a : m.natAbs.log2 < 32 := by
      by_cases h : m.natAbs = 0
      · rw [h]; decide
      · exact (Nat.log2_lt h).mpr (by omega)
    have b : Nat.log2 48271 ≤ 20 := by decide
    omega
  simp only [FL__law_row, bL__law_row, to_ok, to_er, to_no, to_bind, to_nx, to_rt, to_rl, to_bk, to_ct, to_err, to_nos, to_bindS, to_seq, to_if, to_raise, to_gR, to_gS, to_for, to_fComp, to_fCompL, to_lift, to_liftL, to_frz, k_b, k_s, k_i, k_c, k_l, k_f, k_and, k_or, k_band, k_bor, k_if, k_asb, k_bnot, then_nx, then_rt, then_rl, then_bk, then_ct, then_er, to_var0, to_varS, hide_nil, hide_cons, hide_d, hide_ow, hide_no, to_nD, to_c, to_f1, to_f2, to_args, to_argsL, to_acons, to_anil, to_and, to_or, to_not, to_band, to_bor, to_bnot, to_byes, to_asb, to_ifx, to_chain, to_tup, to_lst, to_lstL, to_items, to_rng1, to_rng2, to_enum, to_sl, to_oNone, to_oSome, to_join, to_set, to_sown, to_newL, to_sret, to_sretN, to_sretL, to_snil, to_sbk, to_sct, to_drop, to_stup, to_par, to_parL, to_app, to_ext, to_retO, to_aug, to_newK, to_putK, owL0, owLS, owK0, owKS, datD0, datDS, frz0, frzS, set0, setS, gAdd_i, gAdd_s, gAdd_t, gAdd_l, gAddI_i, gInt_i, gOrd_i, gOrd_s, gEq_to, gIs_to, gIn_s, gIx_l, gIx_t, gIx_s, gLen_s, gLen_t, gLen_l, gTup_l, gTup_t, gIsi_to, gIsi2_to, gSl_s, gSl_t, gSl_l, gAll_to, gJoin_to, at_0, at_1, at_2, at_3, k_li, k_set, k_own, k_new, k_drop, k_tupN, k_tupT, k_par, k_app, k_ext, k_its, k_itt, k_itl, k_r1, k_r2, k_ent, k_enl, k_os, k_mk, k_mkl, k_nb, k_op, k_ch, k_bl, k_bf, k_jn, gDct_to, k_dc, gGet_to, gInK_to, to_fkeys, k_ke, to_scr, k_scr, List.zip_cons_cons, List.zip_nil_right, List.zip_nil_left, List.foldl_cons, List.foldl_nil, and_true, true_and, ite_true, ite_false, if_true, if_false, reduceIte, Bool.false_eq_true, Option.some.injEq, D.str.injEq, D.int.injEq, D.tup.injEq, D.lst.injEq, D.bl.injEq, List.cons.injEq, exists_eq_left', exists_eq_left, forL_nil, sizeLine_eq, List.length_cons, List.length_nil, Nat.reduceAdd, Nat.reduceLeDiff, setT, setTn, setAll, wipeE, itemsOf, isD, id_eq, not_false_eq_true, exists_eq, exists_const, to_frzK, to_parK, gSortK_to, gIn_l, k_er, to_tryc, to_pB, k_pk, to_pN, k_pn, frzs_nil, frzs_cons, smU_t, smR_t, to_parLR, to_fnF, to_fnL, startN, List.map_cons, List.map_nil, List.cons_append, List.nil_append, List.replicate, Nat.reduceSub, to_scr, k_scr]
  refine for_list (fun l ε s' => s' = ns ∧ ∃ (m : Int) (x : Option O), 0 ≤ m ∧ m < 2147483647 ∧ l.foldl (fun m c => (m * 48271 + c + 11) % 2147483647) m = mixL ns ∧ ε = [some (.d (.nm 1)), some (.d (.int m)), x]) ⟨rfl, 7, none, by decide, by decide, rfl, rfl⟩ ?_ ?_
  · rintro c rest ε s' ⟨rfl, m, x, h0, h1, hf, rfl⟩
    refine ⟨_, rfl, ?_⟩
    have h2 : m.natAbs.log2 + (48271 : Int).natAbs.log2 < 1000000 := hm m h0 h1
    simp only [to_ok, to_er, to_no, to_bind, to_nx, to_rt, to_rl, to_bk, to_ct, to_err, to_nos, to_bindS, to_seq, to_if, to_raise, to_gR, to_gS, to_for, to_fComp, to_fCompL, to_lift, to_liftL, to_frz, k_b, k_s, k_i, k_c, k_l, k_f, k_and, k_or, k_band, k_bor, k_if, k_asb, k_bnot, then_nx, then_rt, then_rl, then_bk, then_ct, then_er, to_var0, to_varS, hide_nil, hide_cons, hide_d, hide_ow, hide_no, to_nD, to_c, to_f1, to_f2, to_args, to_argsL, to_acons, to_anil, to_and, to_or, to_not, to_band, to_bor, to_bnot, to_byes, to_asb, to_ifx, to_chain, to_tup, to_lst, to_lstL, to_items, to_rng1, to_rng2, to_enum, to_sl, to_oNone, to_oSome, to_join, to_set, to_sown, to_newL, to_sret, to_sretN, to_sretL, to_snil, to_sbk, to_sct, to_drop, to_stup, to_par, to_parL, to_app, to_ext, to_retO, to_aug, to_newK, to_putK, owL0, owLS, owK0, owKS, datD0, datDS, frz0, frzS, set0, setS, gAdd_i, gAdd_s, gAdd_t, gAdd_l, gAddI_i, gInt_i, gOrd_i, gOrd_s, gEq_to, gIs_to, gIn_s, gIx_l, gIx_t, gIx_s, gLen_s, gLen_t, gLen_l, gTup_l, gTup_t, gIsi_to, gIsi2_to, gSl_s, gSl_t, gSl_l, gAll_to, gJoin_to, at_0, at_1, at_2, at_3, k_li, k_set, k_own, k_new, k_drop, k_tupN, k_tupT, k_par, k_app, k_ext, k_its, k_itt, k_itl, k_r1, k_r2, k_ent, k_enl, k_os, k_mk, k_mkl, k_nb, k_op, k_ch, k_bl, k_bf, k_jn, gDct_to, k_dc, gGet_to, gInK_to, to_fkeys, k_ke, to_scr, k_scr, List.zip_cons_cons, List.zip_nil_right, List.zip_nil_left, List.foldl_cons, List.foldl_nil, and_true, true_and, ite_true, ite_false, if_true, if_false, reduceIte, Bool.false_eq_true, Option.some.injEq, D.str.injEq, D.int.injEq, D.tup.injEq, D.lst.injEq, D.bl.injEq, List.cons.injEq, exists_eq_left', exists_eq_left, forL_nil, sizeLine_eq, List.length_cons, List.length_nil, Nat.reduceAdd, Nat.reduceLeDiff, setT, setTn, setAll, wipeE, itemsOf, isD, id_eq, not_false_eq_true, exists_eq, exists_const, to_frzK, to_parK, gSortK_to, gIn_l, k_er, to_tryc, to_pB, k_pk, to_pN, k_pn, frzs_nil, frzs_cons, smU_t, smR_t, to_parLR, to_fnF, to_fnL, startN, List.map_cons, List.map_nil, List.cons_append, List.nil_append, List.replicate, Nat.reduceSub, h2, decide_true, show (0 : Int) < 2147483647 by decide]
    exact ⟨_, some (.d (.int c)), Int.emod_nonneg _ (by decide), Int.emod_lt_of_pos _ (by decide), hf, by simp⟩
  · rintro ε s' ⟨rfl, m, x, h0, h1, hf, rfl⟩
    simp only [to_ok, to_er, to_no, to_bind, to_nx, to_rt, to_rl, to_bk, to_ct, to_err, to_nos, to_bindS, to_seq, to_if, to_raise, to_gR, to_gS, to_for, to_fComp, to_fCompL, to_lift, to_liftL, to_frz, k_b, k_s, k_i, k_c, k_l, k_f, k_and, k_or, k_band, k_bor, k_if, k_asb, k_bnot, then_nx, then_rt, then_rl, then_bk, then_ct, then_er, to_var0, to_varS, hide_nil, hide_cons, hide_d, hide_ow, hide_no, to_nD, to_c, to_f1, to_f2, to_args, to_argsL, to_acons, to_anil, to_and, to_or, to_not, to_band, to_bor, to_bnot, to_byes, to_asb, to_ifx, to_chain, to_tup, to_lst, to_lstL, to_items, to_rng1, to_rng2, to_enum, to_sl, to_oNone, to_oSome, to_join, to_set, to_sown, to_newL, to_sret, to_sretN, to_sretL, to_snil, to_sbk, to_sct, to_drop, to_stup, to_par, to_parL, to_app, to_ext, to_retO, to_aug, to_newK, to_putK, owL0, owLS, owK0, owKS, datD0, datDS, frz0, frzS, set0, setS, gAdd_i, gAdd_s, gAdd_t, gAdd_l, gAddI_i, gInt_i, gOrd_i, gOrd_s, gEq_to, gIs_to, gIn_s, gIx_l, gIx_t, gIx_s, gLen_s, gLen_t, gLen_l, gTup_l, gTup_t, gIsi_to, gIsi2_to, gSl_s, gSl_t, gSl_l, gAll_to, gJoin_to, at_0, at_1, at_2, at_3, k_li, k_set, k_own, k_new, k_drop, k_tupN, k_tupT, k_par, k_app, k_ext, k_its, k_itt, k_itl, k_r1, k_r2, k_ent, k_enl, k_os, k_mk, k_mkl, k_nb, k_op, k_ch, k_bl, k_bf, k_jn, gDct_to, k_dc, gGet_to, gInK_to, to_fkeys, k_ke, to_scr, k_scr, List.zip_cons_cons, List.zip_nil_right, List.zip_nil_left, List.foldl_cons, List.foldl_nil, and_true, true_and, ite_true, ite_false, if_true, if_false, reduceIte, Bool.false_eq_true, Option.some.injEq, D.str.injEq, D.int.injEq, D.tup.injEq, D.lst.injEq, D.bl.injEq, List.cons.injEq, exists_eq_left', exists_eq_left, forL_nil, sizeLine_eq, List.length_cons, List.length_nil, Nat.reduceAdd, Nat.reduceLeDiff, setT, setTn, setAll, wipeE, itemsOf, isD, id_eq, not_false_eq_true, exists_eq, exists_const, to_frzK, to_parK, gSortK_to, gIn_l, k_er, to_tryc, to_pB, k_pk, to_pN, k_pn, frzs_nil, frzs_cons, smU_t, smR_t, to_parLR, to_fnF, to_fnL, startN, List.map_cons, List.map_nil, List.cons_append, List.nil_append, List.replicate, Nat.reduceSub]
    simp only [List.foldl_nil] at hf
    rw [hf]
def I15a (L : List Nat) (rs : List Rl) (x : D) (a b c e f z : Option O) (v n : Nat) (ε : Sn) (s : RS) : Prop := s.WF ∧ ∃ (kvs : List (List Nat × D)) (p q u : Option O), GKV L kvs ∧ kvs.length + n ≤ v ∧ ε = [some (.d (.nm 1)), some (.d (.nm 0)), some (.d x), some (.d (.str L)), p, a, b, c, e, some (.d (.tup (rs.map dR))), some (.ow (.k kvs)), q, u, z]
def I15d (ε : Sn) (s : RS) : Prop := s.WF ∧ ∃ a b c d e f g h i j k l, ε = [some (.d (.nm 1)), some (.d (.nm 0)), a, b, c, d, e, f, g, h, i, j, k, l]
theorem law_math (ns : List Int) (hl : ns.length ≤ 63) (hb : ∀ z ∈ ns, Builtin.Int.intBits z ≤ 1048576) : ∃ s', b_law (εLaw ns_law.length) ⟨ns, 0, 0, mixL ns⟩ = .rt (.bl true) s' := by
  have k0 : okE (.str []) = true := rfl
  have ku : okE (.str [117, 110, 115, 97, 105, 100]) = true := rfl
  have ki : ∀ i : Int, okE (.int i) = true := fun i => rfl
  have kn : okE (.lst []) = true := rfl
  refine law_of ?_
  rw [show εLaw ns_law.length = [some (.d (.nm 1)), some (.d (.nm 0)), none, none, none, none, none, none, none, none, none, none, none, none] from rfl]
  simp only [b_law, to_ok, to_er, to_no, to_bind, to_nx, to_rt, to_rl, to_bk, to_ct, to_err, to_nos, to_bindS, to_seq, to_if, to_raise, to_gR, to_gS, to_for, to_fComp, to_fCompL, to_lift, to_liftL, to_frz, k_b, k_s, k_i, k_c, k_l, k_f, k_and, k_or, k_band, k_bor, k_if, k_asb, k_bnot, then_nx, then_rt, then_rl, then_bk, then_ct, then_er, to_var0, to_varS, hide_nil, hide_cons, hide_d, hide_ow, hide_no, to_nD, to_c, to_f1, to_f2, to_args, to_argsL, to_acons, to_anil, to_and, to_or, to_not, to_band, to_bor, to_bnot, to_byes, to_asb, to_ifx, to_chain, to_tup, to_lst, to_lstL, to_items, to_rng1, to_rng2, to_enum, to_sl, to_oNone, to_oSome, to_join, to_set, to_sown, to_newL, to_sret, to_sretN, to_sretL, to_snil, to_sbk, to_sct, to_drop, to_stup, to_par, to_parL, to_app, to_ext, to_retO, to_aug, to_newK, to_putK, owL0, owLS, owK0, owKS, datD0, datDS, frz0, frzS, set0, setS, gAdd_i, gAdd_s, gAdd_t, gAdd_l, gAddI_i, gInt_i, gOrd_i, gOrd_s, gEq_to, gIs_to, gIn_s, gIx_l, gIx_t, gIx_s, gLen_s, gLen_t, gLen_l, gTup_l, gTup_t, gIsi_to, gIsi2_to, gSl_s, gSl_t, gSl_l, gAll_to, gJoin_to, at_0, at_1, at_2, at_3, k_li, k_set, k_own, k_new, k_drop, k_tupN, k_tupT, k_par, k_app, k_ext, k_its, k_itt, k_itl, k_r1, k_r2, k_ent, k_enl, k_os, k_mk, k_mkl, k_nb, k_op, k_ch, k_bl, k_bf, k_jn, gDct_to, k_dc, gGet_to, gInK_to, to_fkeys, k_ke, to_scr, k_scr, List.zip_cons_cons, List.zip_nil_right, List.zip_nil_left, List.foldl_cons, List.foldl_nil, and_true, true_and, ite_true, ite_false, if_true, if_false, reduceIte, Bool.false_eq_true, Option.some.injEq, D.str.injEq, D.int.injEq, D.tup.injEq, D.lst.injEq, D.bl.injEq, List.cons.injEq, exists_eq_left', exists_eq_left, forL_nil, sizeLine_eq, List.length_cons, List.length_nil, Nat.reduceAdd, Nat.reduceLeDiff, setT, setTn, setAll, wipeE, itemsOf, isD, id_eq, not_false_eq_true, exists_eq, exists_const, to_frzK, to_parK, gSortK_to, gIn_l, k_er, to_tryc, to_pB, k_pk, to_pN, k_pn, frzs_nil, frzs_cons, smU_t, smR_t, to_parLR, to_fnF, to_fnL, startN, List.map_cons, List.map_nil, List.cons_append, List.nil_append, List.replicate, Nat.reduceSub, okR_nat (n := 4) (by decide)]
  refine ⟨rfl, for_inv (fun _ ε s => I15d ε s) ⟨mix_wf ns, _, _, _, _, _, _, _, _, _, _, _, _, rfl⟩ ?_ ?_⟩
  · rintro x rest ε s ⟨w0, a, b, c, d, e, f, g, h, i, j, k, l, rfl⟩
    refine ⟨_, rfl, ?_⟩
    simp only [to_ok, to_er, to_no, to_bind, to_nx, to_rt, to_rl, to_bk, to_ct, to_err, to_nos, to_bindS, to_seq, to_if, to_raise, to_gR, to_gS, to_for, to_fComp, to_fCompL, to_lift, to_liftL, to_frz, k_b, k_s, k_i, k_c, k_l, k_f, k_and, k_or, k_band, k_bor, k_if, k_asb, k_bnot, then_nx, then_rt, then_rl, then_bk, then_ct, then_er, to_var0, to_varS, hide_nil, hide_cons, hide_d, hide_ow, hide_no, to_nD, to_c, to_f1, to_f2, to_args, to_argsL, to_acons, to_anil, to_and, to_or, to_not, to_band, to_bor, to_bnot, to_byes, to_asb, to_ifx, to_chain, to_tup, to_lst, to_lstL, to_items, to_rng1, to_rng2, to_enum, to_sl, to_oNone, to_oSome, to_join, to_set, to_sown, to_newL, to_sret, to_sretN, to_sretL, to_snil, to_sbk, to_sct, to_drop, to_stup, to_par, to_parL, to_app, to_ext, to_retO, to_aug, to_newK, to_putK, owL0, owLS, owK0, owKS, datD0, datDS, frz0, frzS, set0, setS, gAdd_i, gAdd_s, gAdd_t, gAdd_l, gAddI_i, gInt_i, gOrd_i, gOrd_s, gEq_to, gIs_to, gIn_s, gIx_l, gIx_t, gIx_s, gLen_s, gLen_t, gLen_l, gTup_l, gTup_t, gIsi_to, gIsi2_to, gSl_s, gSl_t, gSl_l, gAll_to, gJoin_to, at_0, at_1, at_2, at_3, k_li, k_set, k_own, k_new, k_drop, k_tupN, k_tupT, k_par, k_app, k_ext, k_its, k_itt, k_itl, k_r1, k_r2, k_ent, k_enl, k_os, k_mk, k_mkl, k_nb, k_op, k_ch, k_bl, k_bf, k_jn, gDct_to, k_dc, gGet_to, gInK_to, to_fkeys, k_ke, to_scr, k_scr, List.zip_cons_cons, List.zip_nil_right, List.zip_nil_left, List.foldl_cons, List.foldl_nil, and_true, true_and, ite_true, ite_false, if_true, if_false, reduceIte, Bool.false_eq_true, Option.some.injEq, D.str.injEq, D.int.injEq, D.tup.injEq, D.lst.injEq, D.bl.injEq, List.cons.injEq, exists_eq_left', exists_eq_left, forL_nil, sizeLine_eq, List.length_cons, List.length_nil, Nat.reduceAdd, Nat.reduceLeDiff, setT, setTn, setAll, wipeE, itemsOf, isD, id_eq, not_false_eq_true, exists_eq, exists_const, to_frzK, to_parK, gSortK_to, gIn_l, k_er, to_tryc, to_pB, k_pk, to_pN, k_pn, frzs_nil, frzs_cons, smU_t, smR_t, to_parLR, to_fnF, to_fnL, startN, List.map_cons, List.map_nil, List.cons_append, List.nil_append, List.replicate, Nat.reduceSub]
    refine letters_to w0 fun L s1 gL w1 => ?_
    have n1 := gL.n1
    have n4 := gL.n4
    simp only [to_ok, to_er, to_no, to_bind, to_nx, to_rt, to_rl, to_bk, to_ct, to_err, to_nos, to_bindS, to_seq, to_if, to_raise, to_gR, to_gS, to_for, to_fComp, to_fCompL, to_lift, to_liftL, to_frz, k_b, k_s, k_i, k_c, k_l, k_f, k_and, k_or, k_band, k_bor, k_if, k_asb, k_bnot, then_nx, then_rt, then_rl, then_bk, then_ct, then_er, to_var0, to_varS, hide_nil, hide_cons, hide_d, hide_ow, hide_no, to_nD, to_c, to_f1, to_f2, to_args, to_argsL, to_acons, to_anil, to_and, to_or, to_not, to_band, to_bor, to_bnot, to_byes, to_asb, to_ifx, to_chain, to_tup, to_lst, to_lstL, to_items, to_rng1, to_rng2, to_enum, to_sl, to_oNone, to_oSome, to_join, to_set, to_sown, to_newL, to_sret, to_sretN, to_sretL, to_snil, to_sbk, to_sct, to_drop, to_stup, to_par, to_parL, to_app, to_ext, to_retO, to_aug, to_newK, to_putK, owL0, owLS, owK0, owKS, datD0, datDS, frz0, frzS, set0, setS, gAdd_i, gAdd_s, gAdd_t, gAdd_l, gAddI_i, gInt_i, gOrd_i, gOrd_s, gEq_to, gIs_to, gIn_s, gIx_l, gIx_t, gIx_s, gLen_s, gLen_t, gLen_l, gTup_l, gTup_t, gIsi_to, gIsi2_to, gSl_s, gSl_t, gSl_l, gAll_to, gJoin_to, at_0, at_1, at_2, at_3, k_li, k_set, k_own, k_new, k_drop, k_tupN, k_tupT, k_par, k_app, k_ext, k_its, k_itt, k_itl, k_r1, k_r2, k_ent, k_enl, k_os, k_mk, k_mkl, k_nb, k_op, k_ch, k_bl, k_bf, k_jn, gDct_to, k_dc, gGet_to, gInK_to, to_fkeys, k_ke, to_scr, k_scr, List.zip_cons_cons, List.zip_nil_right, List.zip_nil_left, List.foldl_cons, List.foldl_nil, and_true, true_and, ite_true, ite_false, if_true, if_false, reduceIte, Bool.false_eq_true, Option.some.injEq, D.str.injEq, D.int.injEq, D.tup.injEq, D.lst.injEq, D.bl.injEq, List.cons.injEq, exists_eq_left', exists_eq_left, forL_nil, sizeLine_eq, List.length_cons, List.length_nil, Nat.reduceAdd, Nat.reduceLeDiff, setT, setTn, setAll, wipeE, itemsOf, isD, id_eq, not_false_eq_true, exists_eq, exists_const, to_frzK, to_parK, gSortK_to, gIn_l, k_er, to_tryc, to_pB, k_pk, to_pN, k_pn, frzs_nil, frzs_cons, smU_t, smR_t, to_parLR, to_fnF, to_fnL, startN, List.map_cons, List.map_nil, List.cons_append, List.nil_append, List.replicate, Nat.reduceSub]
    refine rules_to gL (by decide) (by decide) w1 fun rs s2 hr hrl w2 => ?_
    simp only [to_ok, to_er, to_no, to_bind, to_nx, to_rt, to_rl, to_bk, to_ct, to_err, to_nos, to_bindS, to_seq, to_if, to_raise, to_gR, to_gS, to_for, to_fComp, to_fCompL, to_lift, to_liftL, to_frz, k_b, k_s, k_i, k_c, k_l, k_f, k_and, k_or, k_band, k_bor, k_if, k_asb, k_bnot, then_nx, then_rt, then_rl, then_bk, then_ct, then_er, to_var0, to_varS, hide_nil, hide_cons, hide_d, hide_ow, hide_no, to_nD, to_c, to_f1, to_f2, to_args, to_argsL, to_acons, to_anil, to_and, to_or, to_not, to_band, to_bor, to_bnot, to_byes, to_asb, to_ifx, to_chain, to_tup, to_lst, to_lstL, to_items, to_rng1, to_rng2, to_enum, to_sl, to_oNone, to_oSome, to_join, to_set, to_sown, to_newL, to_sret, to_sretN, to_sretL, to_snil, to_sbk, to_sct, to_drop, to_stup, to_par, to_parL, to_app, to_ext, to_retO, to_aug, to_newK, to_putK, owL0, owLS, owK0, owKS, datD0, datDS, frz0, frzS, set0, setS, gAdd_i, gAdd_s, gAdd_t, gAdd_l, gAddI_i, gInt_i, gOrd_i, gOrd_s, gEq_to, gIs_to, gIn_s, gIx_l, gIx_t, gIx_s, gLen_s, gLen_t, gLen_l, gTup_l, gTup_t, gIsi_to, gIsi2_to, gSl_s, gSl_t, gSl_l, gAll_to, gJoin_to, at_0, at_1, at_2, at_3, k_li, k_set, k_own, k_new, k_drop, k_tupN, k_tupT, k_par, k_app, k_ext, k_its, k_itt, k_itl, k_r1, k_r2, k_ent, k_enl, k_os, k_mk, k_mkl, k_nb, k_op, k_ch, k_bl, k_bf, k_jn, gDct_to, k_dc, gGet_to, gInK_to, to_fkeys, k_ke, to_scr, k_scr, List.zip_cons_cons, List.zip_nil_right, List.zip_nil_left, List.foldl_cons, List.foldl_nil, and_true, true_and, ite_true, ite_false, if_true, if_false, reduceIte, Bool.false_eq_true, Option.some.injEq, D.str.injEq, D.int.injEq, D.tup.injEq, D.lst.injEq, D.bl.injEq, List.cons.injEq, exists_eq_left', exists_eq_left, forL_nil, sizeLine_eq, List.length_cons, List.length_nil, Nat.reduceAdd, Nat.reduceLeDiff, setT, setTn, setAll, wipeE, itemsOf, isD, id_eq, not_false_eq_true, exists_eq, exists_const, to_frzK, to_parK, gSortK_to, gIn_l, k_er, to_tryc, to_pB, k_pk, to_pN, k_pn, frzs_nil, frzs_cons, smU_t, smR_t, to_parLR, to_fnF, to_fnL, startN, List.map_cons, List.map_nil, List.cons_append, List.nil_append, List.replicate, Nat.reduceSub]
    refine taken_to (by decide) (by decide) w2 fun v s3 hv w3 => ?_
    simp only [to_ok, to_er, to_no, to_bind, to_nx, to_rt, to_rl, to_bk, to_ct, to_err, to_nos, to_bindS, to_seq, to_if, to_raise, to_gR, to_gS, to_for, to_fComp, to_fCompL, to_lift, to_liftL, to_frz, k_b, k_s, k_i, k_c, k_l, k_f, k_and, k_or, k_band, k_bor, k_if, k_asb, k_bnot, then_nx, then_rt, then_rl, then_bk, then_ct, then_er, to_var0, to_varS, hide_nil, hide_cons, hide_d, hide_ow, hide_no, to_nD, to_c, to_f1, to_f2, to_args, to_argsL, to_acons, to_anil, to_and, to_or, to_not, to_band, to_bor, to_bnot, to_byes, to_asb, to_ifx, to_chain, to_tup, to_lst, to_lstL, to_items, to_rng1, to_rng2, to_enum, to_sl, to_oNone, to_oSome, to_join, to_set, to_sown, to_newL, to_sret, to_sretN, to_sretL, to_snil, to_sbk, to_sct, to_drop, to_stup, to_par, to_parL, to_app, to_ext, to_retO, to_aug, to_newK, to_putK, owL0, owLS, owK0, owKS, datD0, datDS, frz0, frzS, set0, setS, gAdd_i, gAdd_s, gAdd_t, gAdd_l, gAddI_i, gInt_i, gOrd_i, gOrd_s, gEq_to, gIs_to, gIn_s, gIx_l, gIx_t, gIx_s, gLen_s, gLen_t, gLen_l, gTup_l, gTup_t, gIsi_to, gIsi2_to, gSl_s, gSl_t, gSl_l, gAll_to, gJoin_to, at_0, at_1, at_2, at_3, k_li, k_set, k_own, k_new, k_drop, k_tupN, k_tupT, k_par, k_app, k_ext, k_its, k_itt, k_itl, k_r1, k_r2, k_ent, k_enl, k_os, k_mk, k_mkl, k_nb, k_op, k_ch, k_bl, k_bf, k_jn, gDct_to, k_dc, gGet_to, gInK_to, to_fkeys, k_ke, to_scr, k_scr, List.zip_cons_cons, List.zip_nil_right, List.zip_nil_left, List.foldl_cons, List.foldl_nil, and_true, true_and, ite_true, ite_false, if_true, if_false, reduceIte, Bool.false_eq_true, Option.some.injEq, D.str.injEq, D.int.injEq, D.tup.injEq, D.lst.injEq, D.bl.injEq, List.cons.injEq, exists_eq_left', exists_eq_left, forL_nil, sizeLine_eq, List.length_cons, List.length_nil, Nat.reduceAdd, Nat.reduceLeDiff, setT, setTn, setAll, wipeE, itemsOf, isD, id_eq, not_false_eq_true, exists_eq, exists_const, to_frzK, to_parK, gSortK_to, gIn_l, k_er, to_tryc, to_pB, k_pk, to_pN, k_pn, frzs_nil, frzs_cons, smU_t, smR_t, to_parLR, to_fnF, to_fnL, startN, List.map_cons, List.map_nil, List.cons_append, List.nil_append, List.replicate, Nat.reduceSub, okR_nat (show v ≤ 1000000000 by omega), Int.toNat_natCast]
    refine for_inv (fun r ε s => I15a L rs x d e f g j l v r.length ε s) ⟨w3, [], _, _, _, ⟨(fun _ z => by cases z), by simp⟩, by simp [rngD_len], rfl⟩ ?_ ?_
    · rintro x2 rest ε s4 ⟨w4, kvs, p, q, u, gk, hlen, rfl⟩
      rw [List.length_cons] at hlen
      refine ⟨_, rfl, ?_⟩
      simp only [to_ok, to_er, to_no, to_bind, to_nx, to_rt, to_rl, to_bk, to_ct, to_err, to_nos, to_bindS, to_seq, to_if, to_raise, to_gR, to_gS, to_for, to_fComp, to_fCompL, to_lift, to_liftL, to_frz, k_b, k_s, k_i, k_c, k_l, k_f, k_and, k_or, k_band, k_bor, k_if, k_asb, k_bnot, then_nx, then_rt, then_rl, then_bk, then_ct, then_er, to_var0, to_varS, hide_nil, hide_cons, hide_d, hide_ow, hide_no, to_nD, to_c, to_f1, to_f2, to_args, to_argsL, to_acons, to_anil, to_and, to_or, to_not, to_band, to_bor, to_bnot, to_byes, to_asb, to_ifx, to_chain, to_tup, to_lst, to_lstL, to_items, to_rng1, to_rng2, to_enum, to_sl, to_oNone, to_oSome, to_join, to_set, to_sown, to_newL, to_sret, to_sretN, to_sretL, to_snil, to_sbk, to_sct, to_drop, to_stup, to_par, to_parL, to_app, to_ext, to_retO, to_aug, to_newK, to_putK, owL0, owLS, owK0, owKS, datD0, datDS, frz0, frzS, set0, setS, gAdd_i, gAdd_s, gAdd_t, gAdd_l, gAddI_i, gInt_i, gOrd_i, gOrd_s, gEq_to, gIs_to, gIn_s, gIx_l, gIx_t, gIx_s, gLen_s, gLen_t, gLen_l, gTup_l, gTup_t, gIsi_to, gIsi2_to, gSl_s, gSl_t, gSl_l, gAll_to, gJoin_to, at_0, at_1, at_2, at_3, k_li, k_set, k_own, k_new, k_drop, k_tupN, k_tupT, k_par, k_app, k_ext, k_its, k_itt, k_itl, k_r1, k_r2, k_ent, k_enl, k_os, k_mk, k_mkl, k_nb, k_op, k_ch, k_bl, k_bf, k_jn, gDct_to, k_dc, gGet_to, gInK_to, to_fkeys, k_ke, to_scr, k_scr, List.zip_cons_cons, List.zip_nil_right, List.zip_nil_left, List.foldl_cons, List.foldl_nil, and_true, true_and, ite_true, ite_false, if_true, if_false, reduceIte, Bool.false_eq_true, Option.some.injEq, D.str.injEq, D.int.injEq, D.tup.injEq, D.lst.injEq, D.bl.injEq, List.cons.injEq, exists_eq_left', exists_eq_left, forL_nil, sizeLine_eq, List.length_cons, List.length_nil, Nat.reduceAdd, Nat.reduceLeDiff, setT, setTn, setAll, wipeE, itemsOf, isD, id_eq, not_false_eq_true, exists_eq, exists_const, to_frzK, to_parK, gSortK_to, gIn_l, k_er, to_tryc, to_pB, k_pk, to_pN, k_pn, frzs_nil, frzs_cons, smU_t, smR_t, to_parLR, to_fnF, to_fnL, startN, List.map_cons, List.map_nil, List.cons_append, List.nil_append, List.replicate, Nat.reduceSub]
      refine text_to n1 (by omega) (by decide) (by decide) (by decide) w4 fun w s5 t1 t2 t3 w5 => ?_
      have e1 : F__law_said [.tup [.str L, .tup (rs.map dR), .tup []], .str w] () = .ok (saidD (saysP rs [] w)) () := F__law_said_eq (xs := []) gL hr (by omega) (fun x h => by cases h) (by decide) t3 (by omega) ()
      have app : ∀ (y : List Nat) (s6 : RS) (p q u : Option O), y.length ≤ 36 → (∀ c ∈ y, 65 ≤ c ∧ c ≤ 90) → s6.WF → kvs.length < 16777216 ∧ I15a L rs x d e f g j l v rest.length [some (O.d (.nm 1)), some (.d (.nm 0)), some (.d x), some (.d (.str L)), p, d, e, f, g, some (.d (.tup (rs.map dR))), some (.ow (.k (putD kvs w (.str y)))), q, u, l] s6 := by
        intro y s6 p q u hy hc w6
        obtain ⟨g1, g2⟩ := gkv_put gk (gx_of (x := (w, y)) (by simp only; omega) (by simp only; omega) hy t3 hc)
        exact ⟨by omega, w6, _, p, q, u, g1, by omega, rfl⟩
      simp only [to_ok, to_er, to_no, to_bind, to_nx, to_rt, to_rl, to_bk, to_ct, to_err, to_nos, to_bindS, to_seq, to_if, to_raise, to_gR, to_gS, to_for, to_fComp, to_fCompL, to_lift, to_liftL, to_frz, k_b, k_s, k_i, k_c, k_l, k_f, k_and, k_or, k_band, k_bor, k_if, k_asb, k_bnot, then_nx, then_rt, then_rl, then_bk, then_ct, then_er, to_var0, to_varS, hide_nil, hide_cons, hide_d, hide_ow, hide_no, to_nD, to_c, to_f1, to_f2, to_args, to_argsL, to_acons, to_anil, to_and, to_or, to_not, to_band, to_bor, to_bnot, to_byes, to_asb, to_ifx, to_chain, to_tup, to_lst, to_lstL, to_items, to_rng1, to_rng2, to_enum, to_sl, to_oNone, to_oSome, to_join, to_set, to_sown, to_newL, to_sret, to_sretN, to_sretL, to_snil, to_sbk, to_sct, to_drop, to_stup, to_par, to_parL, to_app, to_ext, to_retO, to_aug, to_newK, to_putK, owL0, owLS, owK0, owKS, datD0, datDS, frz0, frzS, set0, setS, gAdd_i, gAdd_s, gAdd_t, gAdd_l, gAddI_i, gInt_i, gOrd_i, gOrd_s, gEq_to, gIs_to, gIn_s, gIx_l, gIx_t, gIx_s, gLen_s, gLen_t, gLen_l, gTup_l, gTup_t, gIsi_to, gIsi2_to, gSl_s, gSl_t, gSl_l, gAll_to, gJoin_to, at_0, at_1, at_2, at_3, k_li, k_set, k_own, k_new, k_drop, k_tupN, k_tupT, k_par, k_app, k_ext, k_its, k_itt, k_itl, k_r1, k_r2, k_ent, k_enl, k_os, k_mk, k_mkl, k_nb, k_op, k_ch, k_bl, k_bf, k_jn, gDct_to, k_dc, gGet_to, gInK_to, to_fkeys, k_ke, to_scr, k_scr, List.zip_cons_cons, List.zip_nil_right, List.zip_nil_left, List.foldl_cons, List.foldl_nil, and_true, true_and, ite_true, ite_false, if_true, if_false, reduceIte, Bool.false_eq_true, Option.some.injEq, D.str.injEq, D.int.injEq, D.tup.injEq, D.lst.injEq, D.bl.injEq, List.cons.injEq, exists_eq_left', exists_eq_left, forL_nil, sizeLine_eq, List.length_cons, List.length_nil, Nat.reduceAdd, Nat.reduceLeDiff, setT, setTn, setAll, wipeE, itemsOf, isD, id_eq, not_false_eq_true, exists_eq, exists_const, to_frzK, to_parK, gSortK_to, gIn_l, k_er, to_tryc, to_pB, k_pk, to_pN, k_pn, frzs_nil, frzs_cons, smU_t, smR_t, to_parLR, to_fnF, to_fnL, startN, List.map_cons, List.map_nil, List.cons_append, List.nil_append, List.replicate, Nat.reduceSub, e1]
      cases hs : rulesSay rs w with
      | inl pl =>
        have hs2 : saysP rs [] w = .inl pl := hs
        simp only [to_ok, to_er, to_no, to_bind, to_nx, to_rt, to_rl, to_bk, to_ct, to_err, to_nos, to_bindS, to_seq, to_if, to_raise, to_gR, to_gS, to_for, to_fComp, to_fCompL, to_lift, to_liftL, to_frz, k_b, k_s, k_i, k_c, k_l, k_f, k_and, k_or, k_band, k_bor, k_if, k_asb, k_bnot, then_nx, then_rt, then_rl, then_bk, then_ct, then_er, to_var0, to_varS, hide_nil, hide_cons, hide_d, hide_ow, hide_no, to_nD, to_c, to_f1, to_f2, to_args, to_argsL, to_acons, to_anil, to_and, to_or, to_not, to_band, to_bor, to_bnot, to_byes, to_asb, to_ifx, to_chain, to_tup, to_lst, to_lstL, to_items, to_rng1, to_rng2, to_enum, to_sl, to_oNone, to_oSome, to_join, to_set, to_sown, to_newL, to_sret, to_sretN, to_sretL, to_snil, to_sbk, to_sct, to_drop, to_stup, to_par, to_parL, to_app, to_ext, to_retO, to_aug, to_newK, to_putK, owL0, owLS, owK0, owKS, datD0, datDS, frz0, frzS, set0, setS, gAdd_i, gAdd_s, gAdd_t, gAdd_l, gAddI_i, gInt_i, gOrd_i, gOrd_s, gEq_to, gIs_to, gIn_s, gIx_l, gIx_t, gIx_s, gLen_s, gLen_t, gLen_l, gTup_l, gTup_t, gIsi_to, gIsi2_to, gSl_s, gSl_t, gSl_l, gAll_to, gJoin_to, at_0, at_1, at_2, at_3, k_li, k_set, k_own, k_new, k_drop, k_tupN, k_tupT, k_par, k_app, k_ext, k_its, k_itt, k_itl, k_r1, k_r2, k_ent, k_enl, k_os, k_mk, k_mkl, k_nb, k_op, k_ch, k_bl, k_bf, k_jn, gDct_to, k_dc, gGet_to, gInK_to, to_fkeys, k_ke, to_scr, k_scr, List.zip_cons_cons, List.zip_nil_right, List.zip_nil_left, List.foldl_cons, List.foldl_nil, and_true, true_and, ite_true, ite_false, if_true, if_false, reduceIte, Bool.false_eq_true, Option.some.injEq, D.str.injEq, D.int.injEq, D.tup.injEq, D.lst.injEq, D.bl.injEq, List.cons.injEq, exists_eq_left', exists_eq_left, forL_nil, sizeLine_eq, List.length_cons, List.length_nil, Nat.reduceAdd, Nat.reduceLeDiff, setT, setTn, setAll, wipeE, itemsOf, isD, id_eq, not_false_eq_true, exists_eq, exists_const, to_frzK, to_parK, gSortK_to, gIn_l, k_er, to_tryc, to_pB, k_pk, to_pN, k_pn, frzs_nil, frzs_cons, smU_t, smR_t, to_parLR, to_fnF, to_fnL, startN, List.map_cons, List.map_nil, List.cons_append, List.nil_append, List.replicate, Nat.reduceSub, hs2, saidD, k0, ku, eqD, show ¬ ([117, 110, 115, 97, 105, 100] : List Nat) = [] from fun z => (nomatch z), decide_false]
        refine text_to (by decide) (by decide) (by decide) (by decide) (by decide) w5 fun t s6 y1 y2 y3 w6 => ?_
        simp only [to_ok, to_er, to_no, to_bind, to_nx, to_rt, to_rl, to_bk, to_ct, to_err, to_nos, to_bindS, to_seq, to_if, to_raise, to_gR, to_gS, to_for, to_fComp, to_fCompL, to_lift, to_liftL, to_frz, k_b, k_s, k_i, k_c, k_l, k_f, k_and, k_or, k_band, k_bor, k_if, k_asb, k_bnot, then_nx, then_rt, then_rl, then_bk, then_ct, then_er, to_var0, to_varS, hide_nil, hide_cons, hide_d, hide_ow, hide_no, to_nD, to_c, to_f1, to_f2, to_args, to_argsL, to_acons, to_anil, to_and, to_or, to_not, to_band, to_bor, to_bnot, to_byes, to_asb, to_ifx, to_chain, to_tup, to_lst, to_lstL, to_items, to_rng1, to_rng2, to_enum, to_sl, to_oNone, to_oSome, to_join, to_set, to_sown, to_newL, to_sret, to_sretN, to_sretL, to_snil, to_sbk, to_sct, to_drop, to_stup, to_par, to_parL, to_app, to_ext, to_retO, to_aug, to_newK, to_putK, owL0, owLS, owK0, owKS, datD0, datDS, frz0, frzS, set0, setS, gAdd_i, gAdd_s, gAdd_t, gAdd_l, gAddI_i, gInt_i, gOrd_i, gOrd_s, gEq_to, gIs_to, gIn_s, gIx_l, gIx_t, gIx_s, gLen_s, gLen_t, gLen_l, gTup_l, gTup_t, gIsi_to, gIsi2_to, gSl_s, gSl_t, gSl_l, gAll_to, gJoin_to, at_0, at_1, at_2, at_3, k_li, k_set, k_own, k_new, k_drop, k_tupN, k_tupT, k_par, k_app, k_ext, k_its, k_itt, k_itl, k_r1, k_r2, k_ent, k_enl, k_os, k_mk, k_mkl, k_nb, k_op, k_ch, k_bl, k_bf, k_jn, gDct_to, k_dc, gGet_to, gInK_to, to_fkeys, k_ke, to_scr, k_scr, List.zip_cons_cons, List.zip_nil_right, List.zip_nil_left, List.foldl_cons, List.foldl_nil, and_true, true_and, ite_true, ite_false, if_true, if_false, reduceIte, Bool.false_eq_true, Option.some.injEq, D.str.injEq, D.int.injEq, D.tup.injEq, D.lst.injEq, D.bl.injEq, List.cons.injEq, exists_eq_left', exists_eq_left, forL_nil, sizeLine_eq, List.length_cons, List.length_nil, Nat.reduceAdd, Nat.reduceLeDiff, setT, setTn, setAll, wipeE, itemsOf, isD, id_eq, not_false_eq_true, exists_eq, exists_const, to_frzK, to_parK, gSortK_to, gIn_l, k_er, to_tryc, to_pB, k_pk, to_pN, k_pn, frzs_nil, frzs_cons, smU_t, smR_t, to_parLR, to_fnF, to_fnL, startN, List.map_cons, List.map_nil, List.cons_append, List.nil_append, List.replicate, Nat.reduceSub]
        exact app t _ _ _ _ (by omega) (fun c hc => by have := y3 c hc; simp at this; omega) w6
      | inr y =>
        have hs2 : saysP rs [] w = .inr y := hs
        obtain ⟨y1, y2⟩ := rules_good gL hr hs
        simp only [to_ok, to_er, to_no, to_bind, to_nx, to_rt, to_rl, to_bk, to_ct, to_err, to_nos, to_bindS, to_seq, to_if, to_raise, to_gR, to_gS, to_for, to_fComp, to_fCompL, to_lift, to_liftL, to_frz, k_b, k_s, k_i, k_c, k_l, k_f, k_and, k_or, k_band, k_bor, k_if, k_asb, k_bnot, then_nx, then_rt, then_rl, then_bk, then_ct, then_er, to_var0, to_varS, hide_nil, hide_cons, hide_d, hide_ow, hide_no, to_nD, to_c, to_f1, to_f2, to_args, to_argsL, to_acons, to_anil, to_and, to_or, to_not, to_band, to_bor, to_bnot, to_byes, to_asb, to_ifx, to_chain, to_tup, to_lst, to_lstL, to_items, to_rng1, to_rng2, to_enum, to_sl, to_oNone, to_oSome, to_join, to_set, to_sown, to_newL, to_sret, to_sretN, to_sretL, to_snil, to_sbk, to_sct, to_drop, to_stup, to_par, to_parL, to_app, to_ext, to_retO, to_aug, to_newK, to_putK, owL0, owLS, owK0, owKS, datD0, datDS, frz0, frzS, set0, setS, gAdd_i, gAdd_s, gAdd_t, gAdd_l, gAddI_i, gInt_i, gOrd_i, gOrd_s, gEq_to, gIs_to, gIn_s, gIx_l, gIx_t, gIx_s, gLen_s, gLen_t, gLen_l, gTup_l, gTup_t, gIsi_to, gIsi2_to, gSl_s, gSl_t, gSl_l, gAll_to, gJoin_to, at_0, at_1, at_2, at_3, k_li, k_set, k_own, k_new, k_drop, k_tupN, k_tupT, k_par, k_app, k_ext, k_its, k_itt, k_itl, k_r1, k_r2, k_ent, k_enl, k_os, k_mk, k_mkl, k_nb, k_op, k_ch, k_bl, k_bf, k_jn, gDct_to, k_dc, gGet_to, gInK_to, to_fkeys, k_ke, to_scr, k_scr, List.zip_cons_cons, List.zip_nil_right, List.zip_nil_left, List.foldl_cons, List.foldl_nil, and_true, true_and, ite_true, ite_false, if_true, if_false, reduceIte, Bool.false_eq_true, Option.some.injEq, D.str.injEq, D.int.injEq, D.tup.injEq, D.lst.injEq, D.bl.injEq, List.cons.injEq, exists_eq_left', exists_eq_left, forL_nil, sizeLine_eq, List.length_cons, List.length_nil, Nat.reduceAdd, Nat.reduceLeDiff, setT, setTn, setAll, wipeE, itemsOf, isD, id_eq, not_false_eq_true, exists_eq, exists_const, to_frzK, to_parK, gSortK_to, gIn_l, k_er, to_tryc, to_pB, k_pk, to_pN, k_pn, frzs_nil, frzs_cons, smU_t, smR_t, to_parLR, to_fnF, to_fnL, startN, List.map_cons, List.map_nil, List.cons_append, List.nil_append, List.replicate, Nat.reduceSub, hs2, saidD, k0, eqD, decide_true]
        refine taken_to (by decide) (by decide) w5 fun u6 s6 hu w6 => ?_
        simp only [to_ok, to_er, to_no, to_bind, to_nx, to_rt, to_rl, to_bk, to_ct, to_err, to_nos, to_bindS, to_seq, to_if, to_raise, to_gR, to_gS, to_for, to_fComp, to_fCompL, to_lift, to_liftL, to_frz, k_b, k_s, k_i, k_c, k_l, k_f, k_and, k_or, k_band, k_bor, k_if, k_asb, k_bnot, then_nx, then_rt, then_rl, then_bk, then_ct, then_er, to_var0, to_varS, hide_nil, hide_cons, hide_d, hide_ow, hide_no, to_nD, to_c, to_f1, to_f2, to_args, to_argsL, to_acons, to_anil, to_and, to_or, to_not, to_band, to_bor, to_bnot, to_byes, to_asb, to_ifx, to_chain, to_tup, to_lst, to_lstL, to_items, to_rng1, to_rng2, to_enum, to_sl, to_oNone, to_oSome, to_join, to_set, to_sown, to_newL, to_sret, to_sretN, to_sretL, to_snil, to_sbk, to_sct, to_drop, to_stup, to_par, to_parL, to_app, to_ext, to_retO, to_aug, to_newK, to_putK, owL0, owLS, owK0, owKS, datD0, datDS, frz0, frzS, set0, setS, gAdd_i, gAdd_s, gAdd_t, gAdd_l, gAddI_i, gInt_i, gOrd_i, gOrd_s, gEq_to, gIs_to, gIn_s, gIx_l, gIx_t, gIx_s, gLen_s, gLen_t, gLen_l, gTup_l, gTup_t, gIsi_to, gIsi2_to, gSl_s, gSl_t, gSl_l, gAll_to, gJoin_to, at_0, at_1, at_2, at_3, k_li, k_set, k_own, k_new, k_drop, k_tupN, k_tupT, k_par, k_app, k_ext, k_its, k_itt, k_itl, k_r1, k_r2, k_ent, k_enl, k_os, k_mk, k_mkl, k_nb, k_op, k_ch, k_bl, k_bf, k_jn, gDct_to, k_dc, gGet_to, gInK_to, to_fkeys, k_ke, to_scr, k_scr, List.zip_cons_cons, List.zip_nil_right, List.zip_nil_left, List.foldl_cons, List.foldl_nil, and_true, true_and, ite_true, ite_false, if_true, if_false, reduceIte, Bool.false_eq_true, Option.some.injEq, D.str.injEq, D.int.injEq, D.tup.injEq, D.lst.injEq, D.bl.injEq, List.cons.injEq, exists_eq_left', exists_eq_left, forL_nil, sizeLine_eq, List.length_cons, List.length_nil, Nat.reduceAdd, Nat.reduceLeDiff, setT, setTn, setAll, wipeE, itemsOf, isD, id_eq, not_false_eq_true, exists_eq, exists_const, to_frzK, to_parK, gSortK_to, gIn_l, k_er, to_tryc, to_pB, k_pk, to_pN, k_pn, frzs_nil, frzs_cons, smU_t, smR_t, to_parLR, to_fnF, to_fnL, startN, List.map_cons, List.map_nil, List.cons_append, List.nil_append, List.replicate, Nat.reduceSub, ki, eqD]
        cases hq : ((u6 : Int) == 0) with
        | true =>
          simp only [to_ok, to_er, to_no, to_bind, to_nx, to_rt, to_rl, to_bk, to_ct, to_err, to_nos, to_bindS, to_seq, to_if, to_raise, to_gR, to_gS, to_for, to_fComp, to_fCompL, to_lift, to_liftL, to_frz, k_b, k_s, k_i, k_c, k_l, k_f, k_and, k_or, k_band, k_bor, k_if, k_asb, k_bnot, then_nx, then_rt, then_rl, then_bk, then_ct, then_er, to_var0, to_varS, hide_nil, hide_cons, hide_d, hide_ow, hide_no, to_nD, to_c, to_f1, to_f2, to_args, to_argsL, to_acons, to_anil, to_and, to_or, to_not, to_band, to_bor, to_bnot, to_byes, to_asb, to_ifx, to_chain, to_tup, to_lst, to_lstL, to_items, to_rng1, to_rng2, to_enum, to_sl, to_oNone, to_oSome, to_join, to_set, to_sown, to_newL, to_sret, to_sretN, to_sretL, to_snil, to_sbk, to_sct, to_drop, to_stup, to_par, to_parL, to_app, to_ext, to_retO, to_aug, to_newK, to_putK, owL0, owLS, owK0, owKS, datD0, datDS, frz0, frzS, set0, setS, gAdd_i, gAdd_s, gAdd_t, gAdd_l, gAddI_i, gInt_i, gOrd_i, gOrd_s, gEq_to, gIs_to, gIn_s, gIx_l, gIx_t, gIx_s, gLen_s, gLen_t, gLen_l, gTup_l, gTup_t, gIsi_to, gIsi2_to, gSl_s, gSl_t, gSl_l, gAll_to, gJoin_to, at_0, at_1, at_2, at_3, k_li, k_set, k_own, k_new, k_drop, k_tupN, k_tupT, k_par, k_app, k_ext, k_its, k_itt, k_itl, k_r1, k_r2, k_ent, k_enl, k_os, k_mk, k_mkl, k_nb, k_op, k_ch, k_bl, k_bf, k_jn, gDct_to, k_dc, gGet_to, gInK_to, to_fkeys, k_ke, to_scr, k_scr, List.zip_cons_cons, List.zip_nil_right, List.zip_nil_left, List.foldl_cons, List.foldl_nil, and_true, true_and, ite_true, ite_false, if_true, if_false, reduceIte, Bool.false_eq_true, Option.some.injEq, D.str.injEq, D.int.injEq, D.tup.injEq, D.lst.injEq, D.bl.injEq, List.cons.injEq, exists_eq_left', exists_eq_left, forL_nil, sizeLine_eq, List.length_cons, List.length_nil, Nat.reduceAdd, Nat.reduceLeDiff, setT, setTn, setAll, wipeE, itemsOf, isD, id_eq, not_false_eq_true, exists_eq, exists_const, to_frzK, to_parK, gSortK_to, gIn_l, k_er, to_tryc, to_pB, k_pk, to_pN, k_pn, frzs_nil, frzs_cons, smU_t, smR_t, to_parLR, to_fnF, to_fnL, startN, List.map_cons, List.map_nil, List.cons_append, List.nil_append, List.replicate, Nat.reduceSub]
          exact app y _ _ _ _ (by omega) y2 w6
        | false =>
          simp only [to_ok, to_er, to_no, to_bind, to_nx, to_rt, to_rl, to_bk, to_ct, to_err, to_nos, to_bindS, to_seq, to_if, to_raise, to_gR, to_gS, to_for, to_fComp, to_fCompL, to_lift, to_liftL, to_frz, k_b, k_s, k_i, k_c, k_l, k_f, k_and, k_or, k_band, k_bor, k_if, k_asb, k_bnot, then_nx, then_rt, then_rl, then_bk, then_ct, then_er, to_var0, to_varS, hide_nil, hide_cons, hide_d, hide_ow, hide_no, to_nD, to_c, to_f1, to_f2, to_args, to_argsL, to_acons, to_anil, to_and, to_or, to_not, to_band, to_bor, to_bnot, to_byes, to_asb, to_ifx, to_chain, to_tup, to_lst, to_lstL, to_items, to_rng1, to_rng2, to_enum, to_sl, to_oNone, to_oSome, to_join, to_set, to_sown, to_newL, to_sret, to_sretN, to_sretL, to_snil, to_sbk, to_sct, to_drop, to_stup, to_par, to_parL, to_app, to_ext, to_retO, to_aug, to_newK, to_putK, owL0, owLS, owK0, owKS, datD0, datDS, frz0, frzS, set0, setS, gAdd_i, gAdd_s, gAdd_t, gAdd_l, gAddI_i, gInt_i, gOrd_i, gOrd_s, gEq_to, gIs_to, gIn_s, gIx_l, gIx_t, gIx_s, gLen_s, gLen_t, gLen_l, gTup_l, gTup_t, gIsi_to, gIsi2_to, gSl_s, gSl_t, gSl_l, gAll_to, gJoin_to, at_0, at_1, at_2, at_3, k_li, k_set, k_own, k_new, k_drop, k_tupN, k_tupT, k_par, k_app, k_ext, k_its, k_itt, k_itl, k_r1, k_r2, k_ent, k_enl, k_os, k_mk, k_mkl, k_nb, k_op, k_ch, k_bl, k_bf, k_jn, gDct_to, k_dc, gGet_to, gInK_to, to_fkeys, k_ke, to_scr, k_scr, List.zip_cons_cons, List.zip_nil_right, List.zip_nil_left, List.foldl_cons, List.foldl_nil, and_true, true_and, ite_true, ite_false, if_true, if_false, reduceIte, Bool.false_eq_true, Option.some.injEq, D.str.injEq, D.int.injEq, D.tup.injEq, D.lst.injEq, D.bl.injEq, List.cons.injEq, exists_eq_left', exists_eq_left, forL_nil, sizeLine_eq, List.length_cons, List.length_nil, Nat.reduceAdd, Nat.reduceLeDiff, setT, setTn, setAll, wipeE, itemsOf, isD, id_eq, not_false_eq_true, exists_eq, exists_const, to_frzK, to_parK, gSortK_to, gIn_l, k_er, to_tryc, to_pB, k_pk, to_pN, k_pn, frzs_nil, frzs_cons, smU_t, smR_t, to_parLR, to_fnF, to_fnL, startN, List.map_cons, List.map_nil, List.cons_append, List.nil_append, List.replicate, Nat.reduceSub]
          refine text_to (by decide) (by decide) (by decide) (by decide) (by decide) w6 fun t s7 y1 y2 y3 w7 => ?_
          simp only [to_ok, to_er, to_no, to_bind, to_nx, to_rt, to_rl, to_bk, to_ct, to_err, to_nos, to_bindS, to_seq, to_if, to_raise, to_gR, to_gS, to_for, to_fComp, to_fCompL, to_lift, to_liftL, to_frz, k_b, k_s, k_i, k_c, k_l, k_f, k_and, k_or, k_band, k_bor, k_if, k_asb, k_bnot, then_nx, then_rt, then_rl, then_bk, then_ct, then_er, to_var0, to_varS, hide_nil, hide_cons, hide_d, hide_ow, hide_no, to_nD, to_c, to_f1, to_f2, to_args, to_argsL, to_acons, to_anil, to_and, to_or, to_not, to_band, to_bor, to_bnot, to_byes, to_asb, to_ifx, to_chain, to_tup, to_lst, to_lstL, to_items, to_rng1, to_rng2, to_enum, to_sl, to_oNone, to_oSome, to_join, to_set, to_sown, to_newL, to_sret, to_sretN, to_sretL, to_snil, to_sbk, to_sct, to_drop, to_stup, to_par, to_parL, to_app, to_ext, to_retO, to_aug, to_newK, to_putK, owL0, owLS, owK0, owKS, datD0, datDS, frz0, frzS, set0, setS, gAdd_i, gAdd_s, gAdd_t, gAdd_l, gAddI_i, gInt_i, gOrd_i, gOrd_s, gEq_to, gIs_to, gIn_s, gIx_l, gIx_t, gIx_s, gLen_s, gLen_t, gLen_l, gTup_l, gTup_t, gIsi_to, gIsi2_to, gSl_s, gSl_t, gSl_l, gAll_to, gJoin_to, at_0, at_1, at_2, at_3, k_li, k_set, k_own, k_new, k_drop, k_tupN, k_tupT, k_par, k_app, k_ext, k_its, k_itt, k_itl, k_r1, k_r2, k_ent, k_enl, k_os, k_mk, k_mkl, k_nb, k_op, k_ch, k_bl, k_bf, k_jn, gDct_to, k_dc, gGet_to, gInK_to, to_fkeys, k_ke, to_scr, k_scr, List.zip_cons_cons, List.zip_nil_right, List.zip_nil_left, List.foldl_cons, List.foldl_nil, and_true, true_and, ite_true, ite_false, if_true, if_false, reduceIte, Bool.false_eq_true, Option.some.injEq, D.str.injEq, D.int.injEq, D.tup.injEq, D.lst.injEq, D.bl.injEq, List.cons.injEq, exists_eq_left', exists_eq_left, forL_nil, sizeLine_eq, List.length_cons, List.length_nil, Nat.reduceAdd, Nat.reduceLeDiff, setT, setTn, setAll, wipeE, itemsOf, isD, id_eq, not_false_eq_true, exists_eq, exists_const, to_frzK, to_parK, gSortK_to, gIn_l, k_er, to_tryc, to_pB, k_pk, to_pN, k_pn, frzs_nil, frzs_cons, smU_t, smR_t, to_parLR, to_fnF, to_fnL, startN, List.map_cons, List.map_nil, List.cons_append, List.nil_append, List.replicate, Nat.reduceSub]
          exact app t _ _ _ _ (by omega) (fun c hc => by have := y3 c hc; simp at this; omega) w7
    · rintro ε s4 ⟨w4, kvs, p, q, u, gk, hlen, rfl⟩
      rw [List.length_nil] at hlen
      obtain ⟨qs, rfl, gq, nd, hql⟩ := kv_of gk
      have hq8 : qs.length ≤ 8 := by omega
      obtain ⟨gxs, hxl⟩ := sort_gxs gq nd
      have gB : GB L rs (sortKV qs) := ⟨gL, hr, gxs, by omega, by omega⟩
      have gB2 : GB L rs (leftX rs (sortKV qs)) := ⟨gL, hr, left_gxs gxs, by omega, by have : (leftX rs (sortKV qs)).length ≤ (sortKV qs).length := List.length_filter_le _ _; omega⟩
      have nds := gxs_nd gxs
      have mem : ∀ {x}, x ∈ sortKV qs ↔ x ∈ qs := fun {x} => (sortKV_perm qs).mem_iff
      obtain ⟨n1', n2'⟩ := F_needless_eq gB ()
      obtain ⟨n3', _⟩ := F_needless_eq gB2 ()
      rw [need_left] at n3'
      obtain ⟨sm, sd⟩ := need_sm (rs := rs) gL gxs.all (by omega)
      have ea := alike_same () sm sd
      have ke := okE_of sm (by omega)
      have kq := eqD_refl _ (smD_ok sm)
      have hks : sortT (List.map ((fun x => x.fst) ∘ kvX) qs) = (sortKV qs).map (·.1) := keys_sort
      have hlk : ∀ x ∈ qs, lkD (qs.map kvX) x.1 = some (.str x.2) := fun x hx => (lkD_map qs x.1).trans (by rw [exLook_nd nd hx]; rfl)
      have es : ∀ x ∈ qs, F__law_said [.tup [.str L, .tup (rs.map dR), .tup []], .str x.1] () = .ok (saidD (rulesSay rs x.1)) () := fun x hx => F__law_said_eq (xs := []) gL hr (by omega) (fun x h => by cases h) (by decide) (gq x hx).mo (by have := (gq x hx).n8; omega) ()
      have ko : ∀ w, okE (saidD (rulesSay rs w)) = true := fun w => saidD_ok (says_ok (xs := []) (w := w) gL hr (fun x h => by cases h))
      have ky : ∀ x ∈ qs, okE (.str x.2) = true := fun x hx => okE_str (okS_of fun c hc => by have := (gq x hx).ms c hc; omega)
      have kt : ∀ x ∈ qs, okE (.tup [.str [], .str x.2]) = true := fun x hx => saidD_ok (r := .inr x.2) (fun y h => by cases h; exact okS_of fun c hc => by have := (gq x hx).ms c hc; omega)
      have nle : (needL rs (sortKV qs)).length ≤ 8 := by
        unfold needL
        rw [List.length_map]
        exact Nat.le_trans (List.length_filter_le _ _) (by omega)
      unfold dB at n1' n2' n3'
      simp only [to_ok, to_er, to_no, to_bind, to_nx, to_rt, to_rl, to_bk, to_ct, to_err, to_nos, to_bindS, to_seq, to_if, to_raise, to_gR, to_gS, to_for, to_fComp, to_fCompL, to_lift, to_liftL, to_frz, k_b, k_s, k_i, k_c, k_l, k_f, k_and, k_or, k_band, k_bor, k_if, k_asb, k_bnot, then_nx, then_rt, then_rl, then_bk, then_ct, then_er, to_var0, to_varS, hide_nil, hide_cons, hide_d, hide_ow, hide_no, to_nD, to_c, to_f1, to_f2, to_args, to_argsL, to_acons, to_anil, to_and, to_or, to_not, to_band, to_bor, to_bnot, to_byes, to_asb, to_ifx, to_chain, to_tup, to_lst, to_lstL, to_items, to_rng1, to_rng2, to_enum, to_sl, to_oNone, to_oSome, to_join, to_set, to_sown, to_newL, to_sret, to_sretN, to_sretL, to_snil, to_sbk, to_sct, to_drop, to_stup, to_par, to_parL, to_app, to_ext, to_retO, to_aug, to_newK, to_putK, owL0, owLS, owK0, owKS, datD0, datDS, frz0, frzS, set0, setS, gAdd_i, gAdd_s, gAdd_t, gAdd_l, gAddI_i, gInt_i, gOrd_i, gOrd_s, gEq_to, gIs_to, gIn_s, gIx_l, gIx_t, gIx_s, gLen_s, gLen_t, gLen_l, gTup_l, gTup_t, gIsi_to, gIsi2_to, gSl_s, gSl_t, gSl_l, gAll_to, gJoin_to, at_0, at_1, at_2, at_3, k_li, k_set, k_own, k_new, k_drop, k_tupN, k_tupT, k_par, k_app, k_ext, k_its, k_itt, k_itl, k_r1, k_r2, k_ent, k_enl, k_os, k_mk, k_mkl, k_nb, k_op, k_ch, k_bl, k_bf, k_jn, gDct_to, k_dc, gGet_to, gInK_to, to_fkeys, k_ke, to_scr, k_scr, List.zip_cons_cons, List.zip_nil_right, List.zip_nil_left, List.foldl_cons, List.foldl_nil, and_true, true_and, ite_true, ite_false, if_true, if_false, reduceIte, Bool.false_eq_true, Option.some.injEq, D.str.injEq, D.int.injEq, D.tup.injEq, D.lst.injEq, D.bl.injEq, List.cons.injEq, exists_eq_left', exists_eq_left, forL_nil, sizeLine_eq, List.length_cons, List.length_nil, Nat.reduceAdd, Nat.reduceLeDiff, setT, setTn, setAll, wipeE, itemsOf, isD, id_eq, not_false_eq_true, exists_eq, exists_const, to_frzK, to_parK, gSortK_to, gIn_l, k_er, to_tryc, to_pB, k_pk, to_pN, k_pn, frzs_nil, frzs_cons, smU_t, smR_t, to_parLR, to_fnF, to_fnL, startN, List.map_cons, List.map_nil, List.cons_append, List.nil_append, List.replicate, Nat.reduceSub, gSortIt_to, nd, hks, List.length_map, List.map_map]
      refine ⟨by omega, by omega, by omega, comp_map (nP rs) (fun x : List Nat × List Nat => D.str x.1) (fun x hx => ⟨_, rfl, ?_, fun _ => ?_⟩) ?_⟩
      · rw [mem] at hx
        simp only [to_ok, to_er, to_no, to_bind, to_nx, to_rt, to_rl, to_bk, to_ct, to_err, to_nos, to_bindS, to_seq, to_if, to_raise, to_gR, to_gS, to_for, to_fComp, to_fCompL, to_lift, to_liftL, to_frz, k_b, k_s, k_i, k_c, k_l, k_f, k_and, k_or, k_band, k_bor, k_if, k_asb, k_bnot, then_nx, then_rt, then_rl, then_bk, then_ct, then_er, to_var0, to_varS, hide_nil, hide_cons, hide_d, hide_ow, hide_no, to_nD, to_c, to_f1, to_f2, to_args, to_argsL, to_acons, to_anil, to_and, to_or, to_not, to_band, to_bor, to_bnot, to_byes, to_asb, to_ifx, to_chain, to_tup, to_lst, to_lstL, to_items, to_rng1, to_rng2, to_enum, to_sl, to_oNone, to_oSome, to_join, to_set, to_sown, to_newL, to_sret, to_sretN, to_sretL, to_snil, to_sbk, to_sct, to_drop, to_stup, to_par, to_parL, to_app, to_ext, to_retO, to_aug, to_newK, to_putK, owL0, owLS, owK0, owKS, datD0, datDS, frz0, frzS, set0, setS, gAdd_i, gAdd_s, gAdd_t, gAdd_l, gAddI_i, gInt_i, gOrd_i, gOrd_s, gEq_to, gIs_to, gIn_s, gIx_l, gIx_t, gIx_s, gLen_s, gLen_t, gLen_l, gTup_l, gTup_t, gIsi_to, gIsi2_to, gSl_s, gSl_t, gSl_l, gAll_to, gJoin_to, at_0, at_1, at_2, at_3, k_li, k_set, k_own, k_new, k_drop, k_tupN, k_tupT, k_par, k_app, k_ext, k_its, k_itt, k_itl, k_r1, k_r2, k_ent, k_enl, k_os, k_mk, k_mkl, k_nb, k_op, k_ch, k_bl, k_bf, k_jn, gDct_to, k_dc, gGet_to, gInK_to, to_fkeys, k_ke, to_scr, k_scr, List.zip_cons_cons, List.zip_nil_right, List.zip_nil_left, List.foldl_cons, List.foldl_nil, and_true, true_and, ite_true, ite_false, if_true, if_false, reduceIte, Bool.false_eq_true, Option.some.injEq, D.str.injEq, D.int.injEq, D.tup.injEq, D.lst.injEq, D.bl.injEq, List.cons.injEq, exists_eq_left', exists_eq_left, forL_nil, sizeLine_eq, List.length_cons, List.length_nil, Nat.reduceAdd, Nat.reduceLeDiff, setT, setTn, setAll, wipeE, itemsOf, isD, id_eq, not_false_eq_true, exists_eq, exists_const, to_frzK, to_parK, gSortK_to, gIn_l, k_er, to_tryc, to_pB, k_pk, to_pN, k_pn, frzs_nil, frzs_cons, smU_t, smR_t, to_parLR, to_fnF, to_fnL, startN, List.map_cons, List.map_nil, List.cons_append, List.nil_append, List.replicate, Nat.reduceSub, es x hx, hlk x hx, ko, kt x hx, saidD_eq, nP, Function.comp]
      · simp only [to_ok, to_er, to_no, to_bind, to_nx, to_rt, to_rl, to_bk, to_ct, to_err, to_nos, to_bindS, to_seq, to_if, to_raise, to_gR, to_gS, to_for, to_fComp, to_fCompL, to_lift, to_liftL, to_frz, k_b, k_s, k_i, k_c, k_l, k_f, k_and, k_or, k_band, k_bor, k_if, k_asb, k_bnot, then_nx, then_rt, then_rl, then_bk, then_ct, then_er, to_var0, to_varS, hide_nil, hide_cons, hide_d, hide_ow, hide_no, to_nD, to_c, to_f1, to_f2, to_args, to_argsL, to_acons, to_anil, to_and, to_or, to_not, to_band, to_bor, to_bnot, to_byes, to_asb, to_ifx, to_chain, to_tup, to_lst, to_lstL, to_items, to_rng1, to_rng2, to_enum, to_sl, to_oNone, to_oSome, to_join, to_set, to_sown, to_newL, to_sret, to_sretN, to_sretL, to_snil, to_sbk, to_sct, to_drop, to_stup, to_par, to_parL, to_app, to_ext, to_retO, to_aug, to_newK, to_putK, owL0, owLS, owK0, owKS, datD0, datDS, frz0, frzS, set0, setS, gAdd_i, gAdd_s, gAdd_t, gAdd_l, gAddI_i, gInt_i, gOrd_i, gOrd_s, gEq_to, gIs_to, gIn_s, gIx_l, gIx_t, gIx_s, gLen_s, gLen_t, gLen_l, gTup_l, gTup_t, gIsi_to, gIsi2_to, gSl_s, gSl_t, gSl_l, gAll_to, gJoin_to, at_0, at_1, at_2, at_3, k_li, k_set, k_own, k_new, k_drop, k_tupN, k_tupT, k_par, k_app, k_ext, k_its, k_itt, k_itl, k_r1, k_r2, k_ent, k_enl, k_os, k_mk, k_mkl, k_nb, k_op, k_ch, k_bl, k_bf, k_jn, gDct_to, k_dc, gGet_to, gInK_to, to_fkeys, k_ke, to_scr, k_scr, List.zip_cons_cons, List.zip_nil_right, List.zip_nil_left, List.foldl_cons, List.foldl_nil, and_true, true_and, ite_true, ite_false, if_true, if_false, reduceIte, Bool.false_eq_true, Option.some.injEq, D.str.injEq, D.int.injEq, D.tup.injEq, D.lst.injEq, D.bl.injEq, List.cons.injEq, exists_eq_left', exists_eq_left, forL_nil, sizeLine_eq, List.length_cons, List.length_nil, Nat.reduceAdd, Nat.reduceLeDiff, setT, setTn, setAll, wipeE, itemsOf, isD, id_eq, not_false_eq_true, exists_eq, exists_const, to_frzK, to_parK, gSortK_to, gIn_l, k_er, to_tryc, to_pB, k_pk, to_pN, k_pn, frzs_nil, frzs_cons, smU_t, smR_t, to_parLR, to_fnF, to_fnL, startN, List.map_cons, List.map_nil, List.cons_append, List.nil_append, List.replicate, Nat.reduceSub, Function.comp]
      · have hnl : List.map (fun x : List Nat × List Nat => D.str x.1) (List.filter (nP rs) (sortKV qs)) = needL rs (sortKV qs) := rfl
        simp only [to_ok, to_er, to_no, to_bind, to_nx, to_rt, to_rl, to_bk, to_ct, to_err, to_nos, to_bindS, to_seq, to_if, to_raise, to_gR, to_gS, to_for, to_fComp, to_fCompL, to_lift, to_liftL, to_frz, k_b, k_s, k_i, k_c, k_l, k_f, k_and, k_or, k_band, k_bor, k_if, k_asb, k_bnot, then_nx, then_rt, then_rl, then_bk, then_ct, then_er, to_var0, to_varS, hide_nil, hide_cons, hide_d, hide_ow, hide_no, to_nD, to_c, to_f1, to_f2, to_args, to_argsL, to_acons, to_anil, to_and, to_or, to_not, to_band, to_bor, to_bnot, to_byes, to_asb, to_ifx, to_chain, to_tup, to_lst, to_lstL, to_items, to_rng1, to_rng2, to_enum, to_sl, to_oNone, to_oSome, to_join, to_set, to_sown, to_newL, to_sret, to_sretN, to_sretL, to_snil, to_sbk, to_sct, to_drop, to_stup, to_par, to_parL, to_app, to_ext, to_retO, to_aug, to_newK, to_putK, owL0, owLS, owK0, owKS, datD0, datDS, frz0, frzS, set0, setS, gAdd_i, gAdd_s, gAdd_t, gAdd_l, gAddI_i, gInt_i, gOrd_i, gOrd_s, gEq_to, gIs_to, gIn_s, gIx_l, gIx_t, gIx_s, gLen_s, gLen_t, gLen_l, gTup_l, gTup_t, gIsi_to, gIsi2_to, gSl_s, gSl_t, gSl_l, gAll_to, gJoin_to, at_0, at_1, at_2, at_3, k_li, k_set, k_own, k_new, k_drop, k_tupN, k_tupT, k_par, k_app, k_ext, k_its, k_itt, k_itl, k_r1, k_r2, k_ent, k_enl, k_os, k_mk, k_mkl, k_nb, k_op, k_ch, k_bl, k_bf, k_jn, gDct_to, k_dc, gGet_to, gInK_to, to_fkeys, k_ke, to_scr, k_scr, List.zip_cons_cons, List.zip_nil_right, List.zip_nil_left, List.foldl_cons, List.foldl_nil, and_true, true_and, ite_true, ite_false, if_true, if_false, reduceIte, Bool.false_eq_true, Option.some.injEq, D.str.injEq, D.int.injEq, D.tup.injEq, D.lst.injEq, D.bl.injEq, List.cons.injEq, exists_eq_left', exists_eq_left, forL_nil, sizeLine_eq, List.length_cons, List.length_nil, Nat.reduceAdd, Nat.reduceLeDiff, setT, setTn, setAll, wipeE, itemsOf, isD, id_eq, not_false_eq_true, exists_eq, exists_const, to_frzK, to_parK, gSortK_to, gIn_l, k_er, to_tryc, to_pB, k_pk, to_pN, k_pn, frzs_nil, frzs_cons, smU_t, smR_t, to_parLR, to_fnF, to_fnL, startN, List.map_cons, List.map_nil, List.cons_append, List.nil_append, List.replicate, Nat.reduceSub, hnl, n2', ea, Bool.not_true, List.length_map]
        refine ⟨by omega, by omega, comp_map (fun x => !nP rs x) dX (fun x hx => ⟨_, rfl, ?_, fun _ => ?_⟩) ?_⟩
        · simp only [to_ok, to_er, to_no, to_bind, to_nx, to_rt, to_rl, to_bk, to_ct, to_err, to_nos, to_bindS, to_seq, to_if, to_raise, to_gR, to_gS, to_for, to_fComp, to_fCompL, to_lift, to_liftL, to_frz, k_b, k_s, k_i, k_c, k_l, k_f, k_and, k_or, k_band, k_bor, k_if, k_asb, k_bnot, then_nx, then_rt, then_rl, then_bk, then_ct, then_er, to_var0, to_varS, hide_nil, hide_cons, hide_d, hide_ow, hide_no, to_nD, to_c, to_f1, to_f2, to_args, to_argsL, to_acons, to_anil, to_and, to_or, to_not, to_band, to_bor, to_bnot, to_byes, to_asb, to_ifx, to_chain, to_tup, to_lst, to_lstL, to_items, to_rng1, to_rng2, to_enum, to_sl, to_oNone, to_oSome, to_join, to_set, to_sown, to_newL, to_sret, to_sretN, to_sretL, to_snil, to_sbk, to_sct, to_drop, to_stup, to_par, to_parL, to_app, to_ext, to_retO, to_aug, to_newK, to_putK, owL0, owLS, owK0, owKS, datD0, datDS, frz0, frzS, set0, setS, gAdd_i, gAdd_s, gAdd_t, gAdd_l, gAddI_i, gInt_i, gOrd_i, gOrd_s, gEq_to, gIs_to, gIn_s, gIx_l, gIx_t, gIx_s, gLen_s, gLen_t, gLen_l, gTup_l, gTup_t, gIsi_to, gIsi2_to, gSl_s, gSl_t, gSl_l, gAll_to, gJoin_to, at_0, at_1, at_2, at_3, k_li, k_set, k_own, k_new, k_drop, k_tupN, k_tupT, k_par, k_app, k_ext, k_its, k_itt, k_itl, k_r1, k_r2, k_ent, k_enl, k_os, k_mk, k_mkl, k_nb, k_op, k_ch, k_bl, k_bf, k_jn, gDct_to, k_dc, gGet_to, gInK_to, to_fkeys, k_ke, to_scr, k_scr, List.zip_cons_cons, List.zip_nil_right, List.zip_nil_left, List.foldl_cons, List.foldl_nil, and_true, true_and, ite_true, ite_false, if_true, if_false, reduceIte, Bool.false_eq_true, Option.some.injEq, D.str.injEq, D.int.injEq, D.tup.injEq, D.lst.injEq, D.bl.injEq, List.cons.injEq, exists_eq_left', exists_eq_left, forL_nil, sizeLine_eq, List.length_cons, List.length_nil, Nat.reduceAdd, Nat.reduceLeDiff, setT, setTn, setAll, wipeE, itemsOf, isD, id_eq, not_false_eq_true, exists_eq, exists_const, to_frzK, to_parK, gSortK_to, gIn_l, k_er, to_tryc, to_pB, k_pk, to_pN, k_pn, frzs_nil, frzs_cons, smU_t, smR_t, to_parLR, to_fnF, to_fnL, startN, List.map_cons, List.map_nil, List.cons_append, List.nil_append, List.replicate, Nat.reduceSub, dX, need_fl, in_need nds hx]
        · simp only [to_ok, to_er, to_no, to_bind, to_nx, to_rt, to_rl, to_bk, to_ct, to_err, to_nos, to_bindS, to_seq, to_if, to_raise, to_gR, to_gS, to_for, to_fComp, to_fCompL, to_lift, to_liftL, to_frz, k_b, k_s, k_i, k_c, k_l, k_f, k_and, k_or, k_band, k_bor, k_if, k_asb, k_bnot, then_nx, then_rt, then_rl, then_bk, then_ct, then_er, to_var0, to_varS, hide_nil, hide_cons, hide_d, hide_ow, hide_no, to_nD, to_c, to_f1, to_f2, to_args, to_argsL, to_acons, to_anil, to_and, to_or, to_not, to_band, to_bor, to_bnot, to_byes, to_asb, to_ifx, to_chain, to_tup, to_lst, to_lstL, to_items, to_rng1, to_rng2, to_enum, to_sl, to_oNone, to_oSome, to_join, to_set, to_sown, to_newL, to_sret, to_sretN, to_sretL, to_snil, to_sbk, to_sct, to_drop, to_stup, to_par, to_parL, to_app, to_ext, to_retO, to_aug, to_newK, to_putK, owL0, owLS, owK0, owKS, datD0, datDS, frz0, frzS, set0, setS, gAdd_i, gAdd_s, gAdd_t, gAdd_l, gAddI_i, gInt_i, gOrd_i, gOrd_s, gEq_to, gIs_to, gIn_s, gIx_l, gIx_t, gIx_s, gLen_s, gLen_t, gLen_l, gTup_l, gTup_t, gIsi_to, gIsi2_to, gSl_s, gSl_t, gSl_l, gAll_to, gJoin_to, at_0, at_1, at_2, at_3, k_li, k_set, k_own, k_new, k_drop, k_tupN, k_tupT, k_par, k_app, k_ext, k_its, k_itt, k_itl, k_r1, k_r2, k_ent, k_enl, k_os, k_mk, k_mkl, k_nb, k_op, k_ch, k_bl, k_bf, k_jn, gDct_to, k_dc, gGet_to, gInK_to, to_fkeys, k_ke, to_scr, k_scr, List.zip_cons_cons, List.zip_nil_right, List.zip_nil_left, List.foldl_cons, List.foldl_nil, and_true, true_and, ite_true, ite_false, if_true, if_false, reduceIte, Bool.false_eq_true, Option.some.injEq, D.str.injEq, D.int.injEq, D.tup.injEq, D.lst.injEq, D.bl.injEq, List.cons.injEq, exists_eq_left', exists_eq_left, forL_nil, sizeLine_eq, List.length_cons, List.length_nil, Nat.reduceAdd, Nat.reduceLeDiff, setT, setTn, setAll, wipeE, itemsOf, isD, id_eq, not_false_eq_true, exists_eq, exists_const, to_frzK, to_parK, gSortK_to, gIn_l, k_er, to_tryc, to_pB, k_pk, to_pN, k_pn, frzs_nil, frzs_cons, smU_t, smR_t, to_parLR, to_fnF, to_fnL, startN, List.map_cons, List.map_nil, List.cons_append, List.nil_append, List.replicate, Nat.reduceSub]
        · have hll : List.filter (fun x => !nP rs x) (sortKV qs) = leftX rs (sortKV qs) := rfl
          have knn : eqD (.lst []) (.lst []) = true := rfl
          have e6 : ∀ x ∈ qs, F_said [.tup [.str L, .tup (rs.map dR), .tup ((leftX rs (sortKV qs)).map dX)], .str x.1] () = .ok (.str x.2) () := fun x hx => by
            have := F_said_eq gB2 (w := x.1) (gq x hx).mo (by have := (gq x hx).n8; omega) ()
            rw [says_left nds (mem.mpr hx)] at this
            exact this
          have kxx : ∀ x ∈ qs, eqD (.str x.2) (.str x.2) = true := fun x hx => by simp [eqD]
          simp only [to_ok, to_er, to_no, to_bind, to_nx, to_rt, to_rl, to_bk, to_ct, to_err, to_nos, to_bindS, to_seq, to_if, to_raise, to_gR, to_gS, to_for, to_fComp, to_fCompL, to_lift, to_liftL, to_frz, k_b, k_s, k_i, k_c, k_l, k_f, k_and, k_or, k_band, k_bor, k_if, k_asb, k_bnot, then_nx, then_rt, then_rl, then_bk, then_ct, then_er, to_var0, to_varS, hide_nil, hide_cons, hide_d, hide_ow, hide_no, to_nD, to_c, to_f1, to_f2, to_args, to_argsL, to_acons, to_anil, to_and, to_or, to_not, to_band, to_bor, to_bnot, to_byes, to_asb, to_ifx, to_chain, to_tup, to_lst, to_lstL, to_items, to_rng1, to_rng2, to_enum, to_sl, to_oNone, to_oSome, to_join, to_set, to_sown, to_newL, to_sret, to_sretN, to_sretL, to_snil, to_sbk, to_sct, to_drop, to_stup, to_par, to_parL, to_app, to_ext, to_retO, to_aug, to_newK, to_putK, owL0, owLS, owK0, owKS, datD0, datDS, frz0, frzS, set0, setS, gAdd_i, gAdd_s, gAdd_t, gAdd_l, gAddI_i, gInt_i, gOrd_i, gOrd_s, gEq_to, gIs_to, gIn_s, gIx_l, gIx_t, gIx_s, gLen_s, gLen_t, gLen_l, gTup_l, gTup_t, gIsi_to, gIsi2_to, gSl_s, gSl_t, gSl_l, gAll_to, gJoin_to, at_0, at_1, at_2, at_3, k_li, k_set, k_own, k_new, k_drop, k_tupN, k_tupT, k_par, k_app, k_ext, k_its, k_itt, k_itl, k_r1, k_r2, k_ent, k_enl, k_os, k_mk, k_mkl, k_nb, k_op, k_ch, k_bl, k_bf, k_jn, gDct_to, k_dc, gGet_to, gInK_to, to_fkeys, k_ke, to_scr, k_scr, List.zip_cons_cons, List.zip_nil_right, List.zip_nil_left, List.foldl_cons, List.foldl_nil, and_true, true_and, ite_true, ite_false, if_true, if_false, reduceIte, Bool.false_eq_true, Option.some.injEq, D.str.injEq, D.int.injEq, D.tup.injEq, D.lst.injEq, D.bl.injEq, List.cons.injEq, exists_eq_left', exists_eq_left, forL_nil, sizeLine_eq, List.length_cons, List.length_nil, Nat.reduceAdd, Nat.reduceLeDiff, setT, setTn, setAll, wipeE, itemsOf, isD, id_eq, not_false_eq_true, exists_eq, exists_const, to_frzK, to_parK, gSortK_to, gIn_l, k_er, to_tryc, to_pB, k_pk, to_pN, k_pn, frzs_nil, frzs_cons, smU_t, smR_t, to_parLR, to_fnF, to_fnL, startN, List.map_cons, List.map_nil, List.cons_append, List.nil_append, List.replicate, Nat.reduceSub, hll, n1', n3', ke, kn, kq, knn, Bool.not_true, List.length_map]
          refine ⟨by omega, comp_map (fun _ => false) (fun p => D.str p.1) (fun x hx => ⟨_, rfl, ?_, fun z => by cases z⟩) ?_⟩
          · obtain ⟨y, hy, rfl⟩ := List.mem_map.mp hx
            have h6 := e6 y hy
            have hk := hlk y hy
            simp only [to_ok, to_er, to_no, to_bind, to_nx, to_rt, to_rl, to_bk, to_ct, to_err, to_nos, to_bindS, to_seq, to_if, to_raise, to_gR, to_gS, to_for, to_fComp, to_fCompL, to_lift, to_liftL, to_frz, k_b, k_s, k_i, k_c, k_l, k_f, k_and, k_or, k_band, k_bor, k_if, k_asb, k_bnot, then_nx, then_rt, then_rl, then_bk, then_ct, then_er, to_var0, to_varS, hide_nil, hide_cons, hide_d, hide_ow, hide_no, to_nD, to_c, to_f1, to_f2, to_args, to_argsL, to_acons, to_anil, to_and, to_or, to_not, to_band, to_bor, to_bnot, to_byes, to_asb, to_ifx, to_chain, to_tup, to_lst, to_lstL, to_items, to_rng1, to_rng2, to_enum, to_sl, to_oNone, to_oSome, to_join, to_set, to_sown, to_newL, to_sret, to_sretN, to_sretL, to_snil, to_sbk, to_sct, to_drop, to_stup, to_par, to_parL, to_app, to_ext, to_retO, to_aug, to_newK, to_putK, owL0, owLS, owK0, owKS, datD0, datDS, frz0, frzS, set0, setS, gAdd_i, gAdd_s, gAdd_t, gAdd_l, gAddI_i, gInt_i, gOrd_i, gOrd_s, gEq_to, gIs_to, gIn_s, gIx_l, gIx_t, gIx_s, gLen_s, gLen_t, gLen_l, gTup_l, gTup_t, gIsi_to, gIsi2_to, gSl_s, gSl_t, gSl_l, gAll_to, gJoin_to, at_0, at_1, at_2, at_3, k_li, k_set, k_own, k_new, k_drop, k_tupN, k_tupT, k_par, k_app, k_ext, k_its, k_itt, k_itl, k_r1, k_r2, k_ent, k_enl, k_os, k_mk, k_mkl, k_nb, k_op, k_ch, k_bl, k_bf, k_jn, gDct_to, k_dc, gGet_to, gInK_to, to_fkeys, k_ke, to_scr, k_scr, List.zip_cons_cons, List.zip_nil_right, List.zip_nil_left, List.foldl_cons, List.foldl_nil, and_true, true_and, ite_true, ite_false, if_true, if_false, reduceIte, Bool.false_eq_true, Option.some.injEq, D.str.injEq, D.int.injEq, D.tup.injEq, D.lst.injEq, D.bl.injEq, List.cons.injEq, exists_eq_left', exists_eq_left, forL_nil, sizeLine_eq, List.length_cons, List.length_nil, Nat.reduceAdd, Nat.reduceLeDiff, setT, setTn, setAll, wipeE, itemsOf, isD, id_eq, not_false_eq_true, exists_eq, exists_const, to_frzK, to_parK, gSortK_to, gIn_l, k_er, to_tryc, to_pB, k_pk, to_pN, k_pn, frzs_nil, frzs_cons, smU_t, smR_t, to_parLR, to_fnF, to_fnL, startN, List.map_cons, List.map_nil, List.cons_append, List.nil_append, List.replicate, Nat.reduceSub, kvX, h6, ky y hy, kxx y hy, Bool.not_true] at hk ⊢
            simp only [to_ok, to_er, to_no, to_bind, to_nx, to_rt, to_rl, to_bk, to_ct, to_err, to_nos, to_bindS, to_seq, to_if, to_raise, to_gR, to_gS, to_for, to_fComp, to_fCompL, to_lift, to_liftL, to_frz, k_b, k_s, k_i, k_c, k_l, k_f, k_and, k_or, k_band, k_bor, k_if, k_asb, k_bnot, then_nx, then_rt, then_rl, then_bk, then_ct, then_er, to_var0, to_varS, hide_nil, hide_cons, hide_d, hide_ow, hide_no, to_nD, to_c, to_f1, to_f2, to_args, to_argsL, to_acons, to_anil, to_and, to_or, to_not, to_band, to_bor, to_bnot, to_byes, to_asb, to_ifx, to_chain, to_tup, to_lst, to_lstL, to_items, to_rng1, to_rng2, to_enum, to_sl, to_oNone, to_oSome, to_join, to_set, to_sown, to_newL, to_sret, to_sretN, to_sretL, to_snil, to_sbk, to_sct, to_drop, to_stup, to_par, to_parL, to_app, to_ext, to_retO, to_aug, to_newK, to_putK, owL0, owLS, owK0, owKS, datD0, datDS, frz0, frzS, set0, setS, gAdd_i, gAdd_s, gAdd_t, gAdd_l, gAddI_i, gInt_i, gOrd_i, gOrd_s, gEq_to, gIs_to, gIn_s, gIx_l, gIx_t, gIx_s, gLen_s, gLen_t, gLen_l, gTup_l, gTup_t, gIsi_to, gIsi2_to, gSl_s, gSl_t, gSl_l, gAll_to, gJoin_to, at_0, at_1, at_2, at_3, k_li, k_set, k_own, k_new, k_drop, k_tupN, k_tupT, k_par, k_app, k_ext, k_its, k_itt, k_itl, k_r1, k_r2, k_ent, k_enl, k_os, k_mk, k_mkl, k_nb, k_op, k_ch, k_bl, k_bf, k_jn, gDct_to, k_dc, gGet_to, gInK_to, to_fkeys, k_ke, to_scr, k_scr, List.zip_cons_cons, List.zip_nil_right, List.zip_nil_left, List.foldl_cons, List.foldl_nil, and_true, true_and, ite_true, ite_false, if_true, if_false, reduceIte, Bool.false_eq_true, Option.some.injEq, D.str.injEq, D.int.injEq, D.tup.injEq, D.lst.injEq, D.bl.injEq, List.cons.injEq, exists_eq_left', exists_eq_left, forL_nil, sizeLine_eq, List.length_cons, List.length_nil, Nat.reduceAdd, Nat.reduceLeDiff, setT, setTn, setAll, wipeE, itemsOf, isD, id_eq, not_false_eq_true, exists_eq, exists_const, to_frzK, to_parK, gSortK_to, gIn_l, k_er, to_tryc, to_pB, k_pk, to_pN, k_pn, frzs_nil, frzs_cons, smU_t, smR_t, to_parLR, to_fnF, to_fnL, startN, List.map_cons, List.map_nil, List.cons_append, List.nil_append, List.replicate, Nat.reduceSub, hk, kvX, h6, ky y hy, kxx y hy, Bool.not_true]
          · have hnil : ∀ l : List (List Nat × D), (l.filter fun _ => false) = [] := fun l => List.filter_eq_nil_iff.mpr fun _ _ => Bool.false_ne_true
            simp only [to_ok, to_er, to_no, to_bind, to_nx, to_rt, to_rl, to_bk, to_ct, to_err, to_nos, to_bindS, to_seq, to_if, to_raise, to_gR, to_gS, to_for, to_fComp, to_fCompL, to_lift, to_liftL, to_frz, k_b, k_s, k_i, k_c, k_l, k_f, k_and, k_or, k_band, k_bor, k_if, k_asb, k_bnot, then_nx, then_rt, then_rl, then_bk, then_ct, then_er, to_var0, to_varS, hide_nil, hide_cons, hide_d, hide_ow, hide_no, to_nD, to_c, to_f1, to_f2, to_args, to_argsL, to_acons, to_anil, to_and, to_or, to_not, to_band, to_bor, to_bnot, to_byes, to_asb, to_ifx, to_chain, to_tup, to_lst, to_lstL, to_items, to_rng1, to_rng2, to_enum, to_sl, to_oNone, to_oSome, to_join, to_set, to_sown, to_newL, to_sret, to_sretN, to_sretL, to_snil, to_sbk, to_sct, to_drop, to_stup, to_par, to_parL, to_app, to_ext, to_retO, to_aug, to_newK, to_putK, owL0, owLS, owK0, owKS, datD0, datDS, frz0, frzS, set0, setS, gAdd_i, gAdd_s, gAdd_t, gAdd_l, gAddI_i, gInt_i, gOrd_i, gOrd_s, gEq_to, gIs_to, gIn_s, gIx_l, gIx_t, gIx_s, gLen_s, gLen_t, gLen_l, gTup_l, gTup_t, gIsi_to, gIsi2_to, gSl_s, gSl_t, gSl_l, gAll_to, gJoin_to, at_0, at_1, at_2, at_3, k_li, k_set, k_own, k_new, k_drop, k_tupN, k_tupT, k_par, k_app, k_ext, k_its, k_itt, k_itl, k_r1, k_r2, k_ent, k_enl, k_os, k_mk, k_mkl, k_nb, k_op, k_ch, k_bl, k_bf, k_jn, gDct_to, k_dc, gGet_to, gInK_to, to_fkeys, k_ke, to_scr, k_scr, List.zip_cons_cons, List.zip_nil_right, List.zip_nil_left, List.foldl_cons, List.foldl_nil, and_true, true_and, ite_true, ite_false, if_true, if_false, reduceIte, Bool.false_eq_true, Option.some.injEq, D.str.injEq, D.int.injEq, D.tup.injEq, D.lst.injEq, D.bl.injEq, List.cons.injEq, exists_eq_left', exists_eq_left, forL_nil, sizeLine_eq, List.length_cons, List.length_nil, Nat.reduceAdd, Nat.reduceLeDiff, setT, setTn, setAll, wipeE, itemsOf, isD, id_eq, not_false_eq_true, exists_eq, exists_const, to_frzK, to_parK, gSortK_to, gIn_l, k_er, to_tryc, to_pB, k_pk, to_pN, k_pn, frzs_nil, frzs_cons, smU_t, smR_t, to_parLR, to_fnF, to_fnL, startN, List.map_cons, List.map_nil, List.cons_append, List.nil_append, List.replicate, Nat.reduceSub, hnil, kn, knn, Bool.not_true]
            exact ⟨w4, _, _, _, _, _, _, _, _, _, _, _, _, rfl⟩
  · rintro ε s ⟨w0, a, b, c, d, e, f, g, h, i, j, k, l, rfl⟩
    simp only [to_ok, to_er, to_no, to_bind, to_nx, to_rt, to_rl, to_bk, to_ct, to_err, to_nos, to_bindS, to_seq, to_if, to_raise, to_gR, to_gS, to_for, to_fComp, to_fCompL, to_lift, to_liftL, to_frz, k_b, k_s, k_i, k_c, k_l, k_f, k_and, k_or, k_band, k_bor, k_if, k_asb, k_bnot, then_nx, then_rt, then_rl, then_bk, then_ct, then_er, to_var0, to_varS, hide_nil, hide_cons, hide_d, hide_ow, hide_no, to_nD, to_c, to_f1, to_f2, to_args, to_argsL, to_acons, to_anil, to_and, to_or, to_not, to_band, to_bor, to_bnot, to_byes, to_asb, to_ifx, to_chain, to_tup, to_lst, to_lstL, to_items, to_rng1, to_rng2, to_enum, to_sl, to_oNone, to_oSome, to_join, to_set, to_sown, to_newL, to_sret, to_sretN, to_sretL, to_snil, to_sbk, to_sct, to_drop, to_stup, to_par, to_parL, to_app, to_ext, to_retO, to_aug, to_newK, to_putK, owL0, owLS, owK0, owKS, datD0, datDS, frz0, frzS, set0, setS, gAdd_i, gAdd_s, gAdd_t, gAdd_l, gAddI_i, gInt_i, gOrd_i, gOrd_s, gEq_to, gIs_to, gIn_s, gIx_l, gIx_t, gIx_s, gLen_s, gLen_t, gLen_l, gTup_l, gTup_t, gIsi_to, gIsi2_to, gSl_s, gSl_t, gSl_l, gAll_to, gJoin_to, at_0, at_1, at_2, at_3, k_li, k_set, k_own, k_new, k_drop, k_tupN, k_tupT, k_par, k_app, k_ext, k_its, k_itt, k_itl, k_r1, k_r2, k_ent, k_enl, k_os, k_mk, k_mkl, k_nb, k_op, k_ch, k_bl, k_bf, k_jn, gDct_to, k_dc, gGet_to, gInK_to, to_fkeys, k_ke, to_scr, k_scr, List.zip_cons_cons, List.zip_nil_right, List.zip_nil_left, List.foldl_cons, List.foldl_nil, and_true, true_and, ite_true, ite_false, if_true, if_false, reduceIte, Bool.false_eq_true, Option.some.injEq, D.str.injEq, D.int.injEq, D.tup.injEq, D.lst.injEq, D.bl.injEq, List.cons.injEq, exists_eq_left', exists_eq_left, forL_nil, sizeLine_eq, List.length_cons, List.length_nil, Nat.reduceAdd, Nat.reduceLeDiff, setT, setTn, setAll, wipeE, itemsOf, isD, id_eq, not_false_eq_true, exists_eq, exists_const, to_frzK, to_parK, gSortK_to, gIn_l, k_er, to_tryc, to_pB, k_pk, to_pN, k_pn, frzs_nil, frzs_cons, smU_t, smR_t, to_parLR, to_fnF, to_fnL, startN, List.map_cons, List.map_nil, List.cons_append, List.nil_append, List.replicate, Nat.reduceSub]

end Yk15
namespace Yk15
open PySem L2 PySem.Spec PyProof.Rows Dm
set_option pp.maxSteps 20 in
theorem all_mk {wd : World} {K : PySem.W.Frag} {h : Heap} {mg : Str → Option Value} {fa : Addr} (X : K.In h) (G : h.Ns mainGlobals mg) (hfa : mg "law" = some (.ref fa))
    {f_is_of : Addr}
    {oc_is_of kV_is_of dc_is_of pm_is_of cd_is_of ct_is_of : Value}
    {od_is_of an_is_of : Option Addr}
    {sl_is_of : Array (Option Value)}
    (a_is_of : PySem.W.nsIn K mainGlobals "is_of" = some (some (.ref f_is_of)))
    (l_is_of : K.lookup f_is_of = some ⟨oc_is_of, od_is_of, .func (PySem.W.fnOf "is_of" "is_of" (defArgs s_is_of) (defBody s_is_of) (defScope s_is_of) .none kV_is_of dc_is_of pm_is_of an_is_of cd_is_of ct_is_of), sl_is_of⟩)
    (c_is_of : PySem.W.codeIn K cd_is_of "is_of" = true)
    (k_is_of : PySem.W.keepIn K (.ref f_is_of) = true)
    {f_is_rising : Addr}
    {oc_is_rising kV_is_rising dc_is_rising pm_is_rising cd_is_rising ct_is_rising : Value}
    {od_is_rising an_is_rising : Option Addr}
    {sl_is_rising : Array (Option Value)}
    (a_is_rising : PySem.W.nsIn K mainGlobals "is_rising" = some (some (.ref f_is_rising)))
    (l_is_rising : K.lookup f_is_rising = some ⟨oc_is_rising, od_is_rising, .func (PySem.W.fnOf "is_rising" "is_rising" (defArgs s_is_rising) (defBody s_is_rising) (defScope s_is_rising) .none kV_is_rising dc_is_rising pm_is_rising an_is_rising cd_is_rising ct_is_rising), sl_is_rising⟩)
    (c_is_rising : PySem.W.codeIn K cd_is_rising "is_rising" = true)
    (k_is_rising : PySem.W.keepIn K (.ref f_is_rising) = true)
    {f_is_side : Addr}
    {oc_is_side kV_is_side dc_is_side pm_is_side cd_is_side ct_is_side : Value}
    {od_is_side an_is_side : Option Addr}
    {sl_is_side : Array (Option Value)}
    (a_is_side : PySem.W.nsIn K mainGlobals "is_side" = some (some (.ref f_is_side)))
    (l_is_side : K.lookup f_is_side = some ⟨oc_is_side, od_is_side, .func (PySem.W.fnOf "is_side" "is_side" (defArgs s_is_side) (defBody s_is_side) (defScope s_is_side) .none kV_is_side dc_is_side pm_is_side an_is_side cd_is_side ct_is_side), sl_is_side⟩)
    (c_is_side : PySem.W.codeIn K cd_is_side "is_side" = true)
    (k_is_side : PySem.W.keepIn K (.ref f_is_side) = true)
    {f_is_rule : Addr}
    {oc_is_rule kV_is_rule dc_is_rule pm_is_rule cd_is_rule ct_is_rule : Value}
    {od_is_rule an_is_rule : Option Addr}
    {sl_is_rule : Array (Option Value)}
    (a_is_rule : PySem.W.nsIn K mainGlobals "is_rule" = some (some (.ref f_is_rule)))
    (l_is_rule : K.lookup f_is_rule = some ⟨oc_is_rule, od_is_rule, .func (PySem.W.fnOf "is_rule" "is_rule" (defArgs s_is_rule) (defBody s_is_rule) (defScope s_is_rule) .none kV_is_rule dc_is_rule pm_is_rule an_is_rule cd_is_rule ct_is_rule), sl_is_rule⟩)
    (c_is_rule : PySem.W.codeIn K cd_is_rule "is_rule" = true)
    (k_is_rule : PySem.W.keepIn K (.ref f_is_rule) = true)
    {f_is_letters : Addr}
    {oc_is_letters kV_is_letters dc_is_letters pm_is_letters cd_is_letters ct_is_letters : Value}
    {od_is_letters an_is_letters : Option Addr}
    {sl_is_letters : Array (Option Value)}
    (a_is_letters : PySem.W.nsIn K mainGlobals "is_letters" = some (some (.ref f_is_letters)))
    (l_is_letters : K.lookup f_is_letters = some ⟨oc_is_letters, od_is_letters, .func (PySem.W.fnOf "is_letters" "is_letters" (defArgs s_is_letters) (defBody s_is_letters) (defScope s_is_letters) .none kV_is_letters dc_is_letters pm_is_letters an_is_letters cd_is_letters ct_is_letters), sl_is_letters⟩)
    (c_is_letters : PySem.W.codeIn K cd_is_letters "is_letters" = true)
    (k_is_letters : PySem.W.keepIn K (.ref f_is_letters) = true)
    {f_is_exception : Addr}
    {oc_is_exception kV_is_exception dc_is_exception pm_is_exception cd_is_exception ct_is_exception : Value}
    {od_is_exception an_is_exception : Option Addr}
    {sl_is_exception : Array (Option Value)}
    (a_is_exception : PySem.W.nsIn K mainGlobals "is_exception" = some (some (.ref f_is_exception)))
    (l_is_exception : K.lookup f_is_exception = some ⟨oc_is_exception, od_is_exception, .func (PySem.W.fnOf "is_exception" "is_exception" (defArgs s_is_exception) (defBody s_is_exception) (defScope s_is_exception) .none kV_is_exception dc_is_exception pm_is_exception an_is_exception cd_is_exception ct_is_exception), sl_is_exception⟩)
    (c_is_exception : PySem.W.codeIn K cd_is_exception "is_exception" = true)
    (k_is_exception : PySem.W.keepIn K (.ref f_is_exception) = true)
    {f_need_rules : Addr}
    {oc_need_rules kV_need_rules dc_need_rules pm_need_rules cd_need_rules ct_need_rules : Value}
    {od_need_rules an_need_rules : Option Addr}
    {sl_need_rules : Array (Option Value)}
    (a_need_rules : PySem.W.nsIn K mainGlobals "need_rules" = some (some (.ref f_need_rules)))
    (l_need_rules : K.lookup f_need_rules = some ⟨oc_need_rules, od_need_rules, .func (PySem.W.fnOf "need_rules" "need_rules" (defArgs s_need_rules) (defBody s_need_rules) (defScope s_need_rules) .none kV_need_rules dc_need_rules pm_need_rules an_need_rules cd_need_rules ct_need_rules), sl_need_rules⟩)
    (c_need_rules : PySem.W.codeIn K cd_need_rules "need_rules" = true)
    (k_need_rules : PySem.W.keepIn K (.ref f_need_rules) = true)
    {f_need_book : Addr}
    {oc_need_book kV_need_book dc_need_book pm_need_book cd_need_book ct_need_book : Value}
    {od_need_book an_need_book : Option Addr}
    {sl_need_book : Array (Option Value)}
    (a_need_book : PySem.W.nsIn K mainGlobals "need_book" = some (some (.ref f_need_book)))
    (l_need_book : K.lookup f_need_book = some ⟨oc_need_book, od_need_book, .func (PySem.W.fnOf "need_book" "need_book" (defArgs s_need_book) (defBody s_need_book) (defScope s_need_book) .none kV_need_book dc_need_book pm_need_book an_need_book cd_need_book ct_need_book), sl_need_book⟩)
    (c_need_book : PySem.W.codeIn K cd_need_book "need_book" = true)
    (k_need_book : PySem.W.keepIn K (.ref f_need_book) = true)
    {f_need_word : Addr}
    {oc_need_word kV_need_word dc_need_word pm_need_word cd_need_word ct_need_word : Value}
    {od_need_word an_need_word : Option Addr}
    {sl_need_word : Array (Option Value)}
    (a_need_word : PySem.W.nsIn K mainGlobals "need_word" = some (some (.ref f_need_word)))
    (l_need_word : K.lookup f_need_word = some ⟨oc_need_word, od_need_word, .func (PySem.W.fnOf "need_word" "need_word" (defArgs s_need_word) (defBody s_need_word) (defScope s_need_word) .none kV_need_word dc_need_word pm_need_word an_need_word cd_need_word ct_need_word), sl_need_word⟩)
    (c_need_word : PySem.W.codeIn K cd_need_word "need_word" = true)
    (k_need_word : PySem.W.keepIn K (.ref f_need_word) = true)
    {f_sign_at : Addr}
    {oc_sign_at kV_sign_at dc_sign_at pm_sign_at cd_sign_at ct_sign_at : Value}
    {od_sign_at an_sign_at : Option Addr}
    {sl_sign_at : Array (Option Value)}
    (a_sign_at : PySem.W.nsIn K mainGlobals "sign_at" = some (some (.ref f_sign_at)))
    (l_sign_at : K.lookup f_sign_at = some ⟨oc_sign_at, od_sign_at, .func (PySem.W.fnOf "sign_at" "sign_at" (defArgs s_sign_at) (defBody s_sign_at) (defScope s_sign_at) .none kV_sign_at dc_sign_at pm_sign_at an_sign_at cd_sign_at ct_sign_at), sl_sign_at⟩)
    (c_sign_at : PySem.W.codeIn K cd_sign_at "sign_at" = true)
    (k_sign_at : PySem.W.keepIn K (.ref f_sign_at) = true)
    {f_fits : Addr}
    {oc_fits kV_fits dc_fits pm_fits cd_fits ct_fits : Value}
    {od_fits an_fits : Option Addr}
    {sl_fits : Array (Option Value)}
    (a_fits : PySem.W.nsIn K mainGlobals "fits" = some (some (.ref f_fits)))
    (l_fits : K.lookup f_fits = some ⟨oc_fits, od_fits, .func (PySem.W.fnOf "fits" "fits" (defArgs s_fits) (defBody s_fits) (defScope s_fits) .none kV_fits dc_fits pm_fits an_fits cd_fits ct_fits), sl_fits⟩)
    (c_fits : PySem.W.codeIn K cd_fits "fits" = true)
    (k_fits : PySem.W.keepIn K (.ref f_fits) = true)
    {f_walk_of : Addr}
    {oc_walk_of kV_walk_of dc_walk_of pm_walk_of cd_walk_of ct_walk_of : Value}
    {od_walk_of an_walk_of : Option Addr}
    {sl_walk_of : Array (Option Value)}
    (a_walk_of : PySem.W.nsIn K mainGlobals "walk_of" = some (some (.ref f_walk_of)))
    (l_walk_of : K.lookup f_walk_of = some ⟨oc_walk_of, od_walk_of, .func (PySem.W.fnOf "walk_of" "walk_of" (defArgs s_walk_of) (defBody s_walk_of) (defScope s_walk_of) .none kV_walk_of dc_walk_of pm_walk_of an_walk_of cd_walk_of ct_walk_of), sl_walk_of⟩)
    (c_walk_of : PySem.W.codeIn K cd_walk_of "walk_of" = true)
    (k_walk_of : PySem.W.keepIn K (.ref f_walk_of) = true)
    {f_by_rules : Addr}
    {oc_by_rules kV_by_rules dc_by_rules pm_by_rules cd_by_rules ct_by_rules : Value}
    {od_by_rules an_by_rules : Option Addr}
    {sl_by_rules : Array (Option Value)}
    (a_by_rules : PySem.W.nsIn K mainGlobals "by_rules" = some (some (.ref f_by_rules)))
    (l_by_rules : K.lookup f_by_rules = some ⟨oc_by_rules, od_by_rules, .func (PySem.W.fnOf "by_rules" "by_rules" (defArgs s_by_rules) (defBody s_by_rules) (defScope s_by_rules) .none kV_by_rules dc_by_rules pm_by_rules an_by_rules cd_by_rules ct_by_rules), sl_by_rules⟩)
    (c_by_rules : PySem.W.codeIn K cd_by_rules "by_rules" = true)
    (k_by_rules : PySem.W.keepIn K (.ref f_by_rules) = true)
    {f_said_by : Addr}
    {oc_said_by kV_said_by dc_said_by pm_said_by cd_said_by ct_said_by : Value}
    {od_said_by an_said_by : Option Addr}
    {sl_said_by : Array (Option Value)}
    (a_said_by : PySem.W.nsIn K mainGlobals "said_by" = some (some (.ref f_said_by)))
    (l_said_by : K.lookup f_said_by = some ⟨oc_said_by, od_said_by, .func (PySem.W.fnOf "said_by" "said_by" (defArgs s_said_by) (defBody s_said_by) (defScope s_said_by) .none kV_said_by dc_said_by pm_said_by an_said_by cd_said_by ct_said_by), sl_said_by⟩)
    (c_said_by : PySem.W.codeIn K cd_said_by "said_by" = true)
    (k_said_by : PySem.W.keepIn K (.ref f_said_by) = true)
    {f_said : Addr}
    {oc_said kV_said dc_said pm_said cd_said ct_said : Value}
    {od_said an_said : Option Addr}
    {sl_said : Array (Option Value)}
    (a_said : PySem.W.nsIn K mainGlobals "said" = some (some (.ref f_said)))
    (l_said : K.lookup f_said = some ⟨oc_said, od_said, .func (PySem.W.fnOf "said" "said" (defArgs s_said) (defBody s_said) (defScope s_said) .none kV_said dc_said pm_said an_said cd_said ct_said), sl_said⟩)
    (c_said : PySem.W.codeIn K cd_said "said" = true)
    (k_said : PySem.W.keepIn K (.ref f_said) = true)
    {f_needless : Addr}
    {oc_needless kV_needless dc_needless pm_needless cd_needless ct_needless : Value}
    {od_needless an_needless : Option Addr}
    {sl_needless : Array (Option Value)}
    (a_needless : PySem.W.nsIn K mainGlobals "needless" = some (some (.ref f_needless)))
    (l_needless : K.lookup f_needless = some ⟨oc_needless, od_needless, .func (PySem.W.fnOf "needless" "needless" (defArgs s_needless) (defBody s_needless) (defScope s_needless) .none kV_needless dc_needless pm_needless an_needless cd_needless ct_needless), sl_needless⟩)
    (c_needless : PySem.W.codeIn K cd_needless "needless" = true)
    (k_needless : PySem.W.keepIn K (.ref f_needless) = true)
    {f__law_row : Addr}
    {oc__law_row kV__law_row dc__law_row pm__law_row cd__law_row ct__law_row : Value}
    {od__law_row an__law_row : Option Addr}
    {sl__law_row : Array (Option Value)}
    (a__law_row : PySem.W.nsIn K mainGlobals "_law_row" = some (some (.ref f__law_row)))
    (l__law_row : K.lookup f__law_row = some ⟨oc__law_row, od__law_row, .func (PySem.W.fnOf "_law_row" "_law_row" (defArgs s__law_row) (defBody s__law_row) (defScope s__law_row) .none kV__law_row dc__law_row pm__law_row an__law_row cd__law_row ct__law_row), sl__law_row⟩)
    (c__law_row : PySem.W.codeIn K cd__law_row "_law_row" = true)
    (k__law_row : PySem.W.keepIn K (.ref f__law_row) = true)
    {f__law_taken : Addr}
    {oc__law_taken kV__law_taken dc__law_taken pm__law_taken cd__law_taken ct__law_taken : Value}
    {od__law_taken an__law_taken : Option Addr}
    {sl__law_taken : Array (Option Value)}
    (a__law_taken : PySem.W.nsIn K mainGlobals "_law_taken" = some (some (.ref f__law_taken)))
    (l__law_taken : K.lookup f__law_taken = some ⟨oc__law_taken, od__law_taken, .func (PySem.W.fnOf "_law_taken" "_law_taken" (defArgs s__law_taken) (defBody s__law_taken) (defScope s__law_taken) .none kV__law_taken dc__law_taken pm__law_taken an__law_taken cd__law_taken ct__law_taken), sl__law_taken⟩)
    (c__law_taken : PySem.W.codeIn K cd__law_taken "_law_taken" = true)
    (k__law_taken : PySem.W.keepIn K (.ref f__law_taken) = true)
    {f__law_letters : Addr}
    {oc__law_letters kV__law_letters dc__law_letters pm__law_letters cd__law_letters ct__law_letters : Value}
    {od__law_letters an__law_letters : Option Addr}
    {sl__law_letters : Array (Option Value)}
    (a__law_letters : PySem.W.nsIn K mainGlobals "_law_letters" = some (some (.ref f__law_letters)))
    (l__law_letters : K.lookup f__law_letters = some ⟨oc__law_letters, od__law_letters, .func (PySem.W.fnOf "_law_letters" "_law_letters" (defArgs s__law_letters) (defBody s__law_letters) (defScope s__law_letters) .none kV__law_letters dc__law_letters pm__law_letters an__law_letters cd__law_letters ct__law_letters), sl__law_letters⟩)
    (c__law_letters : PySem.W.codeIn K cd__law_letters "_law_letters" = true)
    (k__law_letters : PySem.W.keepIn K (.ref f__law_letters) = true)
    {f__law_side : Addr}
    {oc__law_side kV__law_side dc__law_side pm__law_side cd__law_side ct__law_side : Value}
    {od__law_side an__law_side : Option Addr}
    {sl__law_side : Array (Option Value)}
    (a__law_side : PySem.W.nsIn K mainGlobals "_law_side" = some (some (.ref f__law_side)))
    (l__law_side : K.lookup f__law_side = some ⟨oc__law_side, od__law_side, .func (PySem.W.fnOf "_law_side" "_law_side" (defArgs s__law_side) (defBody s__law_side) (defScope s__law_side) .none kV__law_side dc__law_side pm__law_side an__law_side cd__law_side ct__law_side), sl__law_side⟩)
    (c__law_side : PySem.W.codeIn K cd__law_side "_law_side" = true)
    (k__law_side : PySem.W.keepIn K (.ref f__law_side) = true)
    {f__law_text : Addr}
    {oc__law_text kV__law_text dc__law_text pm__law_text cd__law_text ct__law_text : Value}
    {od__law_text an__law_text : Option Addr}
    {sl__law_text : Array (Option Value)}
    (a__law_text : PySem.W.nsIn K mainGlobals "_law_text" = some (some (.ref f__law_text)))
    (l__law_text : K.lookup f__law_text = some ⟨oc__law_text, od__law_text, .func (PySem.W.fnOf "_law_text" "_law_text" (defArgs s__law_text) (defBody s__law_text) (defScope s__law_text) .none kV__law_text dc__law_text pm__law_text an__law_text cd__law_text ct__law_text), sl__law_text⟩)
    (c__law_text : PySem.W.codeIn K cd__law_text "_law_text" = true)
    (k__law_text : PySem.W.keepIn K (.ref f__law_text) = true)
    {f__law_rule : Addr}
    {oc__law_rule kV__law_rule dc__law_rule pm__law_rule cd__law_rule ct__law_rule : Value}
    {od__law_rule an__law_rule : Option Addr}
    {sl__law_rule : Array (Option Value)}
    (a__law_rule : PySem.W.nsIn K mainGlobals "_law_rule" = some (some (.ref f__law_rule)))
    (l__law_rule : K.lookup f__law_rule = some ⟨oc__law_rule, od__law_rule, .func (PySem.W.fnOf "_law_rule" "_law_rule" (defArgs s__law_rule) (defBody s__law_rule) (defScope s__law_rule) .none kV__law_rule dc__law_rule pm__law_rule an__law_rule cd__law_rule ct__law_rule), sl__law_rule⟩)
    (c__law_rule : PySem.W.codeIn K cd__law_rule "_law_rule" = true)
    (k__law_rule : PySem.W.keepIn K (.ref f__law_rule) = true)
    {f__law_rules : Addr}
    {oc__law_rules kV__law_rules dc__law_rules pm__law_rules cd__law_rules ct__law_rules : Value}
    {od__law_rules an__law_rules : Option Addr}
    {sl__law_rules : Array (Option Value)}
    (a__law_rules : PySem.W.nsIn K mainGlobals "_law_rules" = some (some (.ref f__law_rules)))
    (l__law_rules : K.lookup f__law_rules = some ⟨oc__law_rules, od__law_rules, .func (PySem.W.fnOf "_law_rules" "_law_rules" (defArgs s__law_rules) (defBody s__law_rules) (defScope s__law_rules) .none kV__law_rules dc__law_rules pm__law_rules an__law_rules cd__law_rules ct__law_rules), sl__law_rules⟩)
    (c__law_rules : PySem.W.codeIn K cd__law_rules "_law_rules" = true)
    (k__law_rules : PySem.W.keepIn K (.ref f__law_rules) = true)
    {f__law_fits : Addr}
    {oc__law_fits kV__law_fits dc__law_fits pm__law_fits cd__law_fits ct__law_fits : Value}
    {od__law_fits an__law_fits : Option Addr}
    {sl__law_fits : Array (Option Value)}
    (a__law_fits : PySem.W.nsIn K mainGlobals "_law_fits" = some (some (.ref f__law_fits)))
    (l__law_fits : K.lookup f__law_fits = some ⟨oc__law_fits, od__law_fits, .func (PySem.W.fnOf "_law_fits" "_law_fits" (defArgs s__law_fits) (defBody s__law_fits) (defScope s__law_fits) .none kV__law_fits dc__law_fits pm__law_fits an__law_fits cd__law_fits ct__law_fits), sl__law_fits⟩)
    (c__law_fits : PySem.W.codeIn K cd__law_fits "_law_fits" = true)
    (k__law_fits : PySem.W.keepIn K (.ref f__law_fits) = true)
    {f__law_walk : Addr}
    {oc__law_walk kV__law_walk dc__law_walk pm__law_walk cd__law_walk ct__law_walk : Value}
    {od__law_walk an__law_walk : Option Addr}
    {sl__law_walk : Array (Option Value)}
    (a__law_walk : PySem.W.nsIn K mainGlobals "_law_walk" = some (some (.ref f__law_walk)))
    (l__law_walk : K.lookup f__law_walk = some ⟨oc__law_walk, od__law_walk, .func (PySem.W.fnOf "_law_walk" "_law_walk" (defArgs s__law_walk) (defBody s__law_walk) (defScope s__law_walk) .none kV__law_walk dc__law_walk pm__law_walk an__law_walk cd__law_walk ct__law_walk), sl__law_walk⟩)
    (c__law_walk : PySem.W.codeIn K cd__law_walk "_law_walk" = true)
    (k__law_walk : PySem.W.keepIn K (.ref f__law_walk) = true)
    {f__law_said : Addr}
    {oc__law_said kV__law_said dc__law_said pm__law_said cd__law_said ct__law_said : Value}
    {od__law_said an__law_said : Option Addr}
    {sl__law_said : Array (Option Value)}
    (a__law_said : PySem.W.nsIn K mainGlobals "_law_said" = some (some (.ref f__law_said)))
    (l__law_said : K.lookup f__law_said = some ⟨oc__law_said, od__law_said, .func (PySem.W.fnOf "_law_said" "_law_said" (defArgs s__law_said) (defBody s__law_said) (defScope s__law_said) .none kV__law_said dc__law_said pm__law_said an__law_said cd__law_said ct__law_said), sl__law_said⟩)
    (c__law_said : PySem.W.codeIn K cd__law_said "_law_said" = true)
    (k__law_said : PySem.W.keepIn K (.ref f__law_said) = true)
    {f__law_alike : Addr}
    {oc__law_alike kV__law_alike dc__law_alike pm__law_alike cd__law_alike ct__law_alike : Value}
    {od__law_alike an__law_alike : Option Addr}
    {sl__law_alike : Array (Option Value)}
    (a__law_alike : PySem.W.nsIn K mainGlobals "_law_alike" = some (some (.ref f__law_alike)))
    (l__law_alike : K.lookup f__law_alike = some ⟨oc__law_alike, od__law_alike, .func (PySem.W.fnOf "_law_alike" "_law_alike" (defArgs s__law_alike) (defBody s__law_alike) (defScope s__law_alike) .none kV__law_alike dc__law_alike pm__law_alike an__law_alike cd__law_alike ct__law_alike), sl__law_alike⟩)
    (c__law_alike : PySem.W.codeIn K cd__law_alike "_law_alike" = true)
    (k__law_alike : PySem.W.keepIn K (.ref f__law_alike) = true)
    {f_law : Addr}
    {oc_law kV_law dc_law pm_law cd_law ct_law : Value}
    {od_law an_law : Option Addr}
    {sl_law : Array (Option Value)}
    (a_law : PySem.W.nsIn K mainGlobals "law" = some (some (.ref f_law)))
    (l_law : K.lookup f_law = some ⟨oc_law, od_law, .func (PySem.W.fnOf "law" "law" (defArgs s_law) (defBody s_law) (defScope s_law) .none kV_law dc_law pm_law an_law cd_law ct_law), sl_law⟩)
    (c_law : PySem.W.codeIn K cd_law "law" = true)
    (k_law : PySem.W.keepIn K (.ref f_law) = true)
    {C_SayError : Addr}
    (e_SayError : PySem.W.nsIn K mainGlobals "SayError" = some (some (.ref C_SayError)))
    (x_SayError : PySem.W.excIn K C_SayError [.type "ValueError", .type "Exception", .type "BaseException", .type "object"] "ValueError.__new__" = true)
    (k_SayError : PySem.W.keepIn K (.ref C_SayError) = true)
    (b_SayError : PySem.W.subIn K (.ref C_SayError) (.type "BaseException") = some true)
    (t_SayError : PySem.W.typeIn K (.ref C_SayError) = some (.type "type"))
    {C_BadBook : Addr}
    (e_BadBook : PySem.W.nsIn K mainGlobals "BadBook" = some (some (.ref C_BadBook)))
    {i_BadBook N_BadBook : Addr}
    {nm_BadBook q_BadBook : Str}
    {bs_BadBook bm_BadBook sub_BadBook : List Value}
    {sn_BadBook : List Str}
    {ab_BadBook : Bool}
    {col_BadBook : Option Bool}
    {dd_BadBook : Option Addr}
    {m0_BadBook m1_BadBook m2_BadBook m3_BadBook m5_BadBook : Option Value}
    (x_BadBook : K.lookup C_BadBook = some (excClassObj nm_BadBook q_BadBook C_BadBook N_BadBook bs_BadBook bm_BadBook true sn_BadBook sub_BadBook ab_BadBook col_BadBook dd_BadBook m0_BadBook m1_BadBook m2_BadBook m3_BadBook m5_BadBook "ValueError.__new__"))
    (bm_BadBook_ok : PySem.HandSPX.refsVE bm_BadBook = true)
    (sa_BadBook : PySem.W.findIn K (.ref C_BadBook) "__setattr__" = some (some (.builtin "object.__setattr__")))
    (in_BadBook : PySem.W.findIn K (.ref C_BadBook) "__init__" = some (some (.ref i_BadBook)))
    (ti_BadBook : PySem.W.typeIn K (.ref i_BadBook) = some (.type "function"))
    {oc_BadBook kV_BadBook dc_BadBook pm_BadBook cd_BadBook ct_BadBook : Value}
    {od_BadBook an_BadBook : Option Addr}
    {sl_BadBook : Array (Option Value)}
    (l_BadBook : K.lookup i_BadBook = some ⟨oc_BadBook, od_BadBook, .func (PySem.W.fnOf "__init__" "BadBook.__init__" (defArgs si_BadBook) (defBody si_BadBook) (defScope si_BadBook) .none kV_BadBook dc_BadBook pm_BadBook an_BadBook cd_BadBook ct_BadBook), sl_BadBook⟩)
    (c_BadBook : PySem.W.codeIn K cd_BadBook "BadBook.__init__" = true)
    (ki_BadBook : PySem.W.keepIn K (.ref i_BadBook) = true)
    (no_BadBook_part : PySem.W.findIn K (.ref C_BadBook) "part" = some none)
    (no_BadBook_number : PySem.W.findIn K (.ref C_BadBook) "number" = some none)
    (k_BadBook : PySem.W.keepIn K (.ref C_BadBook) = true)
    (b_BadBook : PySem.W.subIn K (.ref C_BadBook) (.type "BaseException") = some true)
    (t_BadBook : PySem.W.typeIn K (.ref C_BadBook) = some (.type "type"))
    {C_BadWord : Addr}
    (e_BadWord : PySem.W.nsIn K mainGlobals "BadWord" = some (some (.ref C_BadWord)))
    (x_BadWord : PySem.W.excIn K C_BadWord [.type "ValueError", .type "Exception", .type "BaseException", .type "object"] "ValueError.__new__" = true)
    (k_BadWord : PySem.W.keepIn K (.ref C_BadWord) = true)
    (b_BadWord : PySem.W.subIn K (.ref C_BadWord) (.type "BaseException") = some true)
    (t_BadWord : PySem.W.typeIn K (.ref C_BadWord) = some (.type "type"))
    {C_Unsaid : Addr}
    (e_Unsaid : PySem.W.nsIn K mainGlobals "Unsaid" = some (some (.ref C_Unsaid)))
    {i_Unsaid N_Unsaid : Addr}
    {nm_Unsaid q_Unsaid : Str}
    {bs_Unsaid bm_Unsaid sub_Unsaid : List Value}
    {sn_Unsaid : List Str}
    {ab_Unsaid : Bool}
    {col_Unsaid : Option Bool}
    {dd_Unsaid : Option Addr}
    {m0_Unsaid m1_Unsaid m2_Unsaid m3_Unsaid m5_Unsaid : Option Value}
    (x_Unsaid : K.lookup C_Unsaid = some (excClassObj nm_Unsaid q_Unsaid C_Unsaid N_Unsaid bs_Unsaid bm_Unsaid true sn_Unsaid sub_Unsaid ab_Unsaid col_Unsaid dd_Unsaid m0_Unsaid m1_Unsaid m2_Unsaid m3_Unsaid m5_Unsaid "ValueError.__new__"))
    (bm_Unsaid_ok : PySem.HandSPX.refsVE bm_Unsaid = true)
    (sa_Unsaid : PySem.W.findIn K (.ref C_Unsaid) "__setattr__" = some (some (.builtin "object.__setattr__")))
    (in_Unsaid : PySem.W.findIn K (.ref C_Unsaid) "__init__" = some (some (.ref i_Unsaid)))
    (ti_Unsaid : PySem.W.typeIn K (.ref i_Unsaid) = some (.type "function"))
    {oc_Unsaid kV_Unsaid dc_Unsaid pm_Unsaid cd_Unsaid ct_Unsaid : Value}
    {od_Unsaid an_Unsaid : Option Addr}
    {sl_Unsaid : Array (Option Value)}
    (l_Unsaid : K.lookup i_Unsaid = some ⟨oc_Unsaid, od_Unsaid, .func (PySem.W.fnOf "__init__" "Unsaid.__init__" (defArgs si_Unsaid) (defBody si_Unsaid) (defScope si_Unsaid) .none kV_Unsaid dc_Unsaid pm_Unsaid an_Unsaid cd_Unsaid ct_Unsaid), sl_Unsaid⟩)
    (c_Unsaid : PySem.W.codeIn K cd_Unsaid "Unsaid.__init__" = true)
    (ki_Unsaid : PySem.W.keepIn K (.ref i_Unsaid) = true)
    (no_Unsaid_place : PySem.W.findIn K (.ref C_Unsaid) "place" = some none)
    (k_Unsaid : PySem.W.keepIn K (.ref C_Unsaid) = true)
    (b_Unsaid : PySem.W.subIn K (.ref C_Unsaid) (.type "BaseException") = some true)
    (t_Unsaid : PySem.W.typeIn K (.ref C_Unsaid) = some (.type "type"))
    (su1 : PySem.W.specialIn K (.ref C_SayError) "__getattribute__" = some (some (.builtin "type.__getattribute__")))
    (su2 : PySem.W.readsIn K C_SayError (.type "type") = true)
    (su3 : PySem.W.findCls K (.ref C_SayError) (.type "type") "__init__" = some (.val (.builtin "ValueError.__init__")))
    (xm_SayError_Unsaid : PySem.W.exmOne K (.ref C_SayError) (.ref C_Unsaid) = some false)
    (xm_BadBook_Unsaid : PySem.W.exmOne K (.ref C_BadBook) (.ref C_Unsaid) = some false)
    (xm_BadWord_Unsaid : PySem.W.exmOne K (.ref C_BadWord) (.ref C_Unsaid) = some false)
    (xm_Unsaid_Unsaid : PySem.W.exmOne K (.ref C_Unsaid) (.ref C_Unsaid) = some true)
    (n_all : PySem.W.nsIn K mainGlobals "all" = some none)
    (n_bool : PySem.W.nsIn K mainGlobals "bool" = some none)
    (n_dict : PySem.W.nsIn K mainGlobals "dict" = some none)
    (n_enumerate : PySem.W.nsIn K mainGlobals "enumerate" = some none)
    (n_isinstance : PySem.W.nsIn K mainGlobals "isinstance" = some none)
    (n_len : PySem.W.nsIn K mainGlobals "len" = some none)
    (n_list : PySem.W.nsIn K mainGlobals "list" = some none)
    (n_range : PySem.W.nsIn K mainGlobals "range" = some none)
    (n_sorted : PySem.W.nsIn K mainGlobals "sorted" = some none)
    (n_str : PySem.W.nsIn K mainGlobals "str" = some none)
    (n_tuple : PySem.W.nsIn K mainGlobals "tuple" = some none)
    {tk_SIGNS : Tok}
    (cn_SIGNS : PySem.W.nsIn K mainGlobals "SIGNS" = some (some (.str "abcdefghijklmnopqrstuvwxyz" tk_SIGNS)))
    {tk_SOUNDS : Tok}
    (cn_SOUNDS : PySem.W.nsIn K mainGlobals "SOUNDS" = some (some (.str "ABCDEFGHIJKLMNOPQRSTUVWXYZ" tk_SOUNDS)))
    {tk_BORDER : Tok}
    (cn_BORDER : PySem.W.nsIn K mainGlobals "BORDER" = some (some (.str "#" tk_BORDER)))
    {tk_FEWEST_LETTERS : Tok}
    (cn_FEWEST_LETTERS : PySem.W.nsIn K mainGlobals "FEWEST_LETTERS" = some (some (.int 2 tk_FEWEST_LETTERS)))
    {tk_MOST_LETTERS : Tok}
    (cn_MOST_LETTERS : PySem.W.nsIn K mainGlobals "MOST_LETTERS" = some (some (.int 4 tk_MOST_LETTERS)))
    {tk_MOST_OWN : Tok}
    (cn_MOST_OWN : PySem.W.nsIn K mainGlobals "MOST_OWN" = some (some (.int 2 tk_MOST_OWN)))
    {tk_MOST_RULES : Tok}
    (cn_MOST_RULES : PySem.W.nsIn K mainGlobals "MOST_RULES" = some (some (.int 12 tk_MOST_RULES)))
    {tk_MOST_SOUNDS : Tok}
    (cn_MOST_SOUNDS : PySem.W.nsIn K mainGlobals "MOST_SOUNDS" = some (some (.int 3 tk_MOST_SOUNDS)))
    {tk_MOST_EXCEPTIONS : Tok}
    (cn_MOST_EXCEPTIONS : PySem.W.nsIn K mainGlobals "MOST_EXCEPTIONS" = some (some (.int 8 tk_MOST_EXCEPTIONS)))
    {tk_MOST_EXCEPTED : Tok}
    (cn_MOST_EXCEPTED : PySem.W.nsIn K mainGlobals "MOST_EXCEPTED" = some (some (.int 8 tk_MOST_EXCEPTED)))
    {tk_MOST_WORD : Tok}
    (cn_MOST_WORD : PySem.W.nsIn K mainGlobals "MOST_WORD" = some (some (.int 12 tk_MOST_WORD)))
    {tk_MOST_SAID : Tok}
    (cn_MOST_SAID : PySem.W.nsIn K mainGlobals "MOST_SAID" = some (some (.int 36 tk_MOST_SAID)))
    : LamX.LawAtS PySem.Challenge.rw_saylore_k15_needless_exceptions wd K (L2.CX (PySem.Challenge.rw_saylore_k15_needless_exceptions).prog wd) 7 63 "_law_script" mg fa h := by
  have e := hfa.symm.trans (PySem.W.mg_of X G a_law)
  cases e
  have F_is_of := fun_mk (st := s_is_of) l_is_of c_is_of k_is_of
  have B_is_of := F_is_of.binds (ps := ["part", "signs", "low", "high"]) fun _ _ _ _ _ _ us hl => match us, hl with | [_, _, _, _], _ => rfl
  have F_is_rising := fun_mk (st := s_is_rising) l_is_rising c_is_rising k_is_rising
  have B_is_rising := F_is_rising.binds (ps := ["text"]) fun _ _ _ _ _ _ us hl => match us, hl with | [_], _ => rfl
  have F_is_side := fun_mk (st := s_is_side) l_is_side c_is_side k_is_side
  have B_is_side := F_is_side.binds (ps := ["part", "letters"]) fun _ _ _ _ _ _ us hl => match us, hl with | [_, _], _ => rfl
  have F_is_rule := fun_mk (st := s_is_rule) l_is_rule c_is_rule k_is_rule
  have B_is_rule := F_is_rule.binds (ps := ["part", "letters"]) fun _ _ _ _ _ _ us hl => match us, hl with | [_, _], _ => rfl
  have F_is_letters := fun_mk (st := s_is_letters) l_is_letters c_is_letters k_is_letters
  have B_is_letters := F_is_letters.binds (ps := ["part"]) fun _ _ _ _ _ _ us hl => match us, hl with | [_], _ => rfl
  have F_is_exception := fun_mk (st := s_is_exception) l_is_exception c_is_exception k_is_exception
  have B_is_exception := F_is_exception.binds (ps := ["part", "letters"]) fun _ _ _ _ _ _ us hl => match us, hl with | [_, _], _ => rfl
  have F_need_rules := fun_mk (st := s_need_rules) l_need_rules c_need_rules k_need_rules
  have B_need_rules := F_need_rules.binds (ps := ["letters", "rules"]) fun _ _ _ _ _ _ us hl => match us, hl with | [_, _], _ => rfl
  have F_need_book := fun_mk (st := s_need_book) l_need_book c_need_book k_need_book
  have B_need_book := F_need_book.binds (ps := ["book"]) fun _ _ _ _ _ _ us hl => match us, hl with | [_], _ => rfl
  have F_need_word := fun_mk (st := s_need_word) l_need_word c_need_word k_need_word
  have B_need_word := F_need_word.binds (ps := ["letters", "word"]) fun _ _ _ _ _ _ us hl => match us, hl with | [_, _], _ => rfl
  have F_sign_at := fun_mk (st := s_sign_at) l_sign_at c_sign_at k_sign_at
  have B_sign_at := F_sign_at.binds (ps := ["word", "place"]) fun _ _ _ _ _ _ us hl => match us, hl with | [_, _], _ => rfl
  have F_fits := fun_mk (st := s_fits) l_fits c_fits k_fits
  have B_fits := F_fits.binds (ps := ["rule", "word", "place"]) fun _ _ _ _ _ _ us hl => match us, hl with | [_, _, _], _ => rfl
  have F_walk_of := fun_mk (st := s_walk_of) l_walk_of c_walk_of k_walk_of
  have B_walk_of := F_walk_of.binds (ps := ["rules", "word"]) fun _ _ _ _ _ _ us hl => match us, hl with | [_, _], _ => rfl
  have F_by_rules := fun_mk (st := s_by_rules) l_by_rules c_by_rules k_by_rules
  have B_by_rules := F_by_rules.binds (ps := ["rules", "word"]) fun _ _ _ _ _ _ us hl => match us, hl with | [_, _], _ => rfl
  have F_said_by := fun_mk (st := s_said_by) l_said_by c_said_by k_said_by
  have B_said_by := F_said_by.binds (ps := ["book", "word"]) fun _ _ _ _ _ _ us hl => match us, hl with | [_, _], _ => rfl
  have F_said := fun_mk (st := s_said) l_said c_said k_said
  have B_said := F_said.binds (ps := ["book", "word"]) fun _ _ _ _ _ _ us hl => match us, hl with | [_, _], _ => rfl
  have F_needless := fun_mk (st := s_needless) l_needless c_needless k_needless
  have B_needless := F_needless.binds (ps := ["book"]) fun _ _ _ _ _ _ us hl => match us, hl with | [_], _ => rfl
  have F__law_row := fun_mk (st := s__law_row) l__law_row c__law_row k__law_row
  have B__law_row := F__law_row.binds (ps := ["_law_script"]) fun _ _ _ _ _ _ us hl => match us, hl with | [_], _ => rfl
  have F__law_taken := fun_mk (st := s__law_taken) l__law_taken c__law_taken k__law_taken
  have B__law_taken := F__law_taken.binds (ps := ["_law_row_here", "_law_many"]) fun _ _ _ _ _ _ us hl => match us, hl with | [_, _], _ => rfl
  have F__law_letters := fun_mk (st := s__law_letters) l__law_letters c__law_letters k__law_letters
  have B__law_letters := F__law_letters.binds (ps := ["_law_row_here"]) fun _ _ _ _ _ _ us hl => match us, hl with | [_], _ => rfl
  have F__law_side := fun_mk (st := s__law_side) l__law_side c__law_side k__law_side
  have B__law_side := F__law_side.binds (ps := ["_law_row_here", "_law_letters_here"]) fun _ _ _ _ _ _ us hl => match us, hl with | [_, _], _ => rfl
  have F__law_text := fun_mk (st := s__law_text) l__law_text c__law_text k__law_text
  have B__law_text := F__law_text.binds (ps := ["_law_row_here", "_law_signs", "_law_fewest", "_law_many"]) fun _ _ _ _ _ _ us hl => match us, hl with | [_, _, _, _], _ => rfl
  have F__law_rule := fun_mk (st := s__law_rule) l__law_rule c__law_rule k__law_rule
  have B__law_rule := F__law_rule.binds (ps := ["_law_row_here", "_law_letters_here"]) fun _ _ _ _ _ _ us hl => match us, hl with | [_, _], _ => rfl
  have F__law_rules := fun_mk (st := s__law_rules) l__law_rules c__law_rules k__law_rules
  have B__law_rules := F__law_rules.binds (ps := ["_law_row_here", "_law_letters_here", "_law_most"]) fun _ _ _ _ _ _ us hl => match us, hl with | [_, _, _], _ => rfl
  have F__law_fits := fun_mk (st := s__law_fits) l__law_fits c__law_fits k__law_fits
  have B__law_fits := F__law_fits.binds (ps := ["_law_rule_here", "_law_word", "_law_place"]) fun _ _ _ _ _ _ us hl => match us, hl with | [_, _, _], _ => rfl
  have F__law_walk := fun_mk (st := s__law_walk) l__law_walk c__law_walk k__law_walk
  have B__law_walk := F__law_walk.binds (ps := ["_law_rules_here", "_law_word"]) fun _ _ _ _ _ _ us hl => match us, hl with | [_, _], _ => rfl
  have F__law_said := fun_mk (st := s__law_said) l__law_said c__law_said k__law_said
  have B__law_said := F__law_said.binds (ps := ["_law_book", "_law_word"]) fun _ _ _ _ _ _ us hl => match us, hl with | [_, _], _ => rfl
  have F__law_alike := fun_mk (st := s__law_alike) l__law_alike c__law_alike k__law_alike
  have B__law_alike := F__law_alike.binds (ps := ["_law_found", "_law_due"]) fun _ _ _ _ _ _ us hl => match us, hl with | [_, _], _ => rfl
  have F_law := fun_mk (st := s_law) l_law c_law k_law
  have B_law := F_law.binds (ps := ["_law_script"]) fun _ _ _ _ _ _ us hl => match us, hl with | [_], _ => rfl
  have F_BadBook := fun_mk (st := si_BadBook) l_BadBook c_BadBook ki_BadBook
  have B_BadBook := F_BadBook.binds (ps := ["self", "part", "number"]) fun _ _ _ _ _ _ us hl => match us, hl with | [_, _, _], _ => rfl
  have F_Unsaid := fun_mk (st := si_Unsaid) l_Unsaid c_Unsaid ki_Unsaid
  have B_Unsaid := F_Unsaid.binds (ps := ["self", "place"]) fun _ _ _ _ _ _ us hl => match us, hl with | [_, _], _ => rfl
  let T : Txt K mg := {
    d_is_of := ⟨_, _, F_is_of, B_is_of, PySem.W.mg_of X G a_is_of⟩
    d_is_rising := ⟨_, _, F_is_rising, B_is_rising, PySem.W.mg_of X G a_is_rising⟩
    d_is_side := ⟨_, _, F_is_side, B_is_side, PySem.W.mg_of X G a_is_side⟩
    d_is_rule := ⟨_, _, F_is_rule, B_is_rule, PySem.W.mg_of X G a_is_rule⟩
    d_is_letters := ⟨_, _, F_is_letters, B_is_letters, PySem.W.mg_of X G a_is_letters⟩
    d_is_exception := ⟨_, _, F_is_exception, B_is_exception, PySem.W.mg_of X G a_is_exception⟩
    d_need_rules := ⟨_, _, F_need_rules, B_need_rules, PySem.W.mg_of X G a_need_rules⟩
    d_need_book := ⟨_, _, F_need_book, B_need_book, PySem.W.mg_of X G a_need_book⟩
    d_need_word := ⟨_, _, F_need_word, B_need_word, PySem.W.mg_of X G a_need_word⟩
    d_sign_at := ⟨_, _, F_sign_at, B_sign_at, PySem.W.mg_of X G a_sign_at⟩
    d_fits := ⟨_, _, F_fits, B_fits, PySem.W.mg_of X G a_fits⟩
    d_walk_of := ⟨_, _, F_walk_of, B_walk_of, PySem.W.mg_of X G a_walk_of⟩
    d_by_rules := ⟨_, _, F_by_rules, B_by_rules, PySem.W.mg_of X G a_by_rules⟩
    d_said_by := ⟨_, _, F_said_by, B_said_by, PySem.W.mg_of X G a_said_by⟩
    d_said := ⟨_, _, F_said, B_said, PySem.W.mg_of X G a_said⟩
    d_needless := ⟨_, _, F_needless, B_needless, PySem.W.mg_of X G a_needless⟩
    d__law_row := ⟨_, _, F__law_row, B__law_row, PySem.W.mg_of X G a__law_row⟩
    d__law_taken := ⟨_, _, F__law_taken, B__law_taken, PySem.W.mg_of X G a__law_taken⟩
    d__law_letters := ⟨_, _, F__law_letters, B__law_letters, PySem.W.mg_of X G a__law_letters⟩
    d__law_side := ⟨_, _, F__law_side, B__law_side, PySem.W.mg_of X G a__law_side⟩
    d__law_text := ⟨_, _, F__law_text, B__law_text, PySem.W.mg_of X G a__law_text⟩
    d__law_rule := ⟨_, _, F__law_rule, B__law_rule, PySem.W.mg_of X G a__law_rule⟩
    d__law_rules := ⟨_, _, F__law_rules, B__law_rules, PySem.W.mg_of X G a__law_rules⟩
    d__law_fits := ⟨_, _, F__law_fits, B__law_fits, PySem.W.mg_of X G a__law_fits⟩
    d__law_walk := ⟨_, _, F__law_walk, B__law_walk, PySem.W.mg_of X G a__law_walk⟩
    d__law_said := ⟨_, _, F__law_said, B__law_said, PySem.W.mg_of X G a__law_said⟩
    d__law_alike := ⟨_, _, F__law_alike, B__law_alike, PySem.W.mg_of X G a__law_alike⟩
    d_law := ⟨_, _, F_law, B_law, PySem.W.mg_of X G a_law⟩
    e_SayError := ⟨C_SayError, x_SayError, PySem.W.mg_of X G e_SayError, k_SayError, b_SayError, t_SayError⟩
    e_BadBook := ⟨C_BadBook, i_BadBook, _, ⟨⟨_, _, _, _, _, _, _, _, _, _, _, _, _, _, _, x_BadBook, bm_BadBook_ok⟩, sa_BadBook, b_BadBook, t_BadBook, k_BadBook⟩, PySem.W.mg_of X G e_BadBook, in_BadBook, ti_BadBook, F_BadBook, B_BadBook⟩
    no_BadBook_part := no_BadBook_part
    no_BadBook_number := no_BadBook_number
    e_BadWord := ⟨C_BadWord, x_BadWord, PySem.W.mg_of X G e_BadWord, k_BadWord, b_BadWord, t_BadWord⟩
    e_Unsaid := ⟨C_Unsaid, i_Unsaid, _, ⟨⟨_, _, _, _, _, _, _, _, _, _, _, _, _, _, _, x_Unsaid, bm_Unsaid_ok⟩, sa_Unsaid, b_Unsaid, t_Unsaid, k_Unsaid⟩, PySem.W.mg_of X G e_Unsaid, in_Unsaid, ti_Unsaid, F_Unsaid, B_Unsaid⟩
    no_Unsaid_place := no_Unsaid_place
    super := ⟨su1, su2, su3⟩
    xm_SayError_Unsaid := xm_SayError_Unsaid
    xm_BadBook_Unsaid := xm_BadBook_Unsaid
    xm_BadWord_Unsaid := xm_BadWord_Unsaid
    xm_Unsaid_Unsaid := xm_Unsaid_Unsaid
    n_all := PySem.W.mg_none_of X G n_all
    n_bool := PySem.W.mg_none_of X G n_bool
    n_dict := PySem.W.mg_none_of X G n_dict
    n_enumerate := PySem.W.mg_none_of X G n_enumerate
    n_isinstance := PySem.W.mg_none_of X G n_isinstance
    n_len := PySem.W.mg_none_of X G n_len
    n_list := PySem.W.mg_none_of X G n_list
    n_range := PySem.W.mg_none_of X G n_range
    n_sorted := PySem.W.mg_none_of X G n_sorted
    n_str := PySem.W.mg_none_of X G n_str
    n_tuple := PySem.W.mg_none_of X G n_tuple
    t_SIGNS := tk_SIGNS
    c_SIGNS := PySem.W.mg_of X G cn_SIGNS
    t_SOUNDS := tk_SOUNDS
    c_SOUNDS := PySem.W.mg_of X G cn_SOUNDS
    t_BORDER := tk_BORDER
    c_BORDER := PySem.W.mg_of X G cn_BORDER
    t_FEWEST_LETTERS := tk_FEWEST_LETTERS
    c_FEWEST_LETTERS := PySem.W.mg_of X G cn_FEWEST_LETTERS
    t_MOST_LETTERS := tk_MOST_LETTERS
    c_MOST_LETTERS := PySem.W.mg_of X G cn_MOST_LETTERS
    t_MOST_OWN := tk_MOST_OWN
    c_MOST_OWN := PySem.W.mg_of X G cn_MOST_OWN
    t_MOST_RULES := tk_MOST_RULES
    c_MOST_RULES := PySem.W.mg_of X G cn_MOST_RULES
    t_MOST_SOUNDS := tk_MOST_SOUNDS
    c_MOST_SOUNDS := PySem.W.mg_of X G cn_MOST_SOUNDS
    t_MOST_EXCEPTIONS := tk_MOST_EXCEPTIONS
    c_MOST_EXCEPTIONS := PySem.W.mg_of X G cn_MOST_EXCEPTIONS
    t_MOST_EXCEPTED := tk_MOST_EXCEPTED
    c_MOST_EXCEPTED := PySem.W.mg_of X G cn_MOST_EXCEPTED
    t_MOST_WORD := tk_MOST_WORD
    c_MOST_WORD := PySem.W.mg_of X G cn_MOST_WORD
    t_MOST_SAID := tk_MOST_SAID
    c_MOST_SAID := PySem.W.mg_of X G cn_MOST_SAID
  }
  refine ⟨PySem.W.fnOf "law" "law" (defArgs s_law) (defBody s_law) (defScope s_law) .none kV_law dc_law pm_law an_law cd_law ct_law, [], spLaw K [], ?_, ?_, ?_, fun s u => .of_eq rfl, fun H a ns hl hb hH hS => ⟨a, ns, rfl, hS, hl, hb, hH, fun H2 => rfl⟩, fun base hK hN hTB => ?_⟩
  · intro p hp; cases hp
  · intro p hp; cases hp
  · intro p hp; cases hp
  exact law_fn (k := 6) (T := []) (N := ns_law) (g := b_law) (FL := FL__law_row) (mix := mixL) l_law c_law sc_law rfl rfl v_law_0 l_law_1 (by decide +kernel) rfl (okL__law_row T) T.d__law_row.g T.d__law_row.F.kp T.d__law_row.b (by decide) row_eq (fun p hp => nomatch hp)
    (fun A outer s H E rho hr => rest_law T  A outer s H E rho hr) law_math
end Yk15
open PySem PySem.W PyProof.Rows
set_option maxRecDepth 100000 in
set_option maxHeartbeats 0 in
theorem PySem.Challenge.cw_saylore_k15_needless_exceptions_holds : PySem.Challenge.rw_saylore_k15_needless_exceptions.Holds := by
  w_on; o_law; k_head; (case hw => w_witness2)
  k_fill
  refine LamX.walk_ofTs (l := PySem.Challenge.rw_saylore_k15_needless_exceptions) (n := 63) (k := 7) (CX := fun w => L2.CX (PySem.Challenge.rw_saylore_k15_needless_exceptions).prog w) (x := "_law_script") rfl (by decide) (by kernel_rfl) ⟨rfl, by decide, by decide⟩ (fun w h Y => PySem.W.kIn_of Y) ?F (fun _ _ _ _ _ z => by obtain ⟨_, _, _, _, _, _, _, _, _, _, _, _, z⟩ := z; exact z)
  case F =>
    intro w mg fa h Y KX G hmg
    refine' Yk15.all_mk KX G hmg ?a_is_of ?l_is_of ?c_is_of ?k_is_of ?a_is_rising ?l_is_rising ?c_is_rising ?k_is_rising ?a_is_side ?l_is_side ?c_is_side ?k_is_side ?a_is_rule ?l_is_rule ?c_is_rule ?k_is_rule ?a_is_letters ?l_is_letters ?c_is_letters ?k_is_letters ?a_is_exception ?l_is_exception ?c_is_exception ?k_is_exception ?a_need_rules ?l_need_rules ?c_need_rules ?k_need_rules ?a_need_book ?l_need_book ?c_need_book ?k_need_book ?a_need_word ?l_need_word ?c_need_word ?k_need_word ?a_sign_at ?l_sign_at ?c_sign_at ?k_sign_at ?a_fits ?l_fits ?c_fits ?k_fits ?a_walk_of ?l_walk_of ?c_walk_of ?k_walk_of ?a_by_rules ?l_by_rules ?c_by_rules ?k_by_rules ?a_said_by ?l_said_by ?c_said_by ?k_said_by ?a_said ?l_said ?c_said ?k_said ?a_needless ?l_needless ?c_needless ?k_needless ?a__law_row ?l__law_row ?c__law_row ?k__law_row ?a__law_taken ?l__law_taken ?c__law_taken ?k__law_taken ?a__law_letters ?l__law_letters ?c__law_letters ?k__law_letters ?a__law_side ?l__law_side ?c__law_side ?k__law_side ?a__law_text ?l__law_text ?c__law_text ?k__law_text ?a__law_rule ?l__law_rule ?c__law_rule ?k__law_rule ?a__law_rules ?l__law_rules ?c__law_rules ?k__law_rules ?a__law_fits ?l__law_fits ?c__law_fits ?k__law_fits ?a__law_walk ?l__law_walk ?c__law_walk ?k__law_walk ?a__law_said ?l__law_said ?c__law_said ?k__law_said ?a__law_alike ?l__law_alike ?c__law_alike ?k__law_alike ?a_law ?l_law ?c_law ?k_law ?e_SayError ?x_SayError ?k_SayError ?b_SayError ?t_SayError ?e_BadBook ?x_BadBook ?bm_BadBook_ok ?sa_BadBook ?in_BadBook ?ti_BadBook ?l_BadBook ?c_BadBook ?ki_BadBook ?no_BadBook_part ?no_BadBook_number ?k_BadBook ?b_BadBook ?t_BadBook ?e_BadWord ?x_BadWord ?k_BadWord ?b_BadWord ?t_BadWord ?e_Unsaid ?x_Unsaid ?bm_Unsaid_ok ?sa_Unsaid ?in_Unsaid ?ti_Unsaid ?l_Unsaid ?c_Unsaid ?ki_Unsaid ?no_Unsaid_place ?k_Unsaid ?b_Unsaid ?t_Unsaid ?su1 ?su2 ?su3 ?xm_SayError_Unsaid ?xm_BadBook_Unsaid ?xm_BadWord_Unsaid ?xm_Unsaid_Unsaid ?n_all ?n_bool ?n_dict ?n_enumerate ?n_isinstance ?n_len ?n_list ?n_range ?n_sorted ?n_str ?n_tuple ?cn_SIGNS ?cn_SOUNDS ?cn_BORDER ?cn_FEWEST_LETTERS ?cn_MOST_LETTERS ?cn_MOST_OWN ?cn_MOST_RULES ?cn_MOST_SOUNDS ?cn_MOST_EXCEPTIONS ?cn_MOST_EXCEPTED ?cn_MOST_WORD ?cn_MOST_SAID
    (case a_is_of => k_is)
    (case l_is_of => k_is)
    (case c_is_of => k_is)
    (case k_is_of => k_is)
    (case a_is_rising => k_is)
    (case l_is_rising => k_is)
    (case c_is_rising => k_is)
    (case k_is_rising => k_is)
    (case a_is_side => k_is)
    (case l_is_side => k_is)
    (case c_is_side => k_is)
    (case k_is_side => k_is)
    (case a_is_rule => k_is)
    (case l_is_rule => k_is)
    (case c_is_rule => k_is)
    (case k_is_rule => k_is)
    (case a_is_letters => k_is)
    (case l_is_letters => k_is)
    (case c_is_letters => k_is)
    (case k_is_letters => k_is)
    (case a_is_exception => k_is)
    (case l_is_exception => k_is)
    (case c_is_exception => k_is)
    (case k_is_exception => k_is)
    (case a_need_rules => k_is)
    (case l_need_rules => k_is)
    (case c_need_rules => k_is)
    (case k_need_rules => k_is)
    (case a_need_book => k_is)
    (case l_need_book => k_is)
    (case c_need_book => k_is)
    (case k_need_book => k_is)
    (case a_need_word => k_is)
    (case l_need_word => k_is)
    (case c_need_word => k_is)
    (case k_need_word => k_is)
    (case a_sign_at => k_is)
    (case l_sign_at => k_is)
    (case c_sign_at => k_is)
    (case k_sign_at => k_is)
    (case a_fits => k_is)
    (case l_fits => k_is)
    (case c_fits => k_is)
    (case k_fits => k_is)
    (case a_walk_of => k_is)
    (case l_walk_of => k_is)
    (case c_walk_of => k_is)
    (case k_walk_of => k_is)
    (case a_by_rules => k_is)
    (case l_by_rules => k_is)
    (case c_by_rules => k_is)
    (case k_by_rules => k_is)
    (case a_said_by => k_is)
    (case l_said_by => k_is)
    (case c_said_by => k_is)
    (case k_said_by => k_is)
    (case a_said => k_is)
    (case l_said => k_is)
    (case c_said => k_is)
    (case k_said => k_is)
    (case a_needless => k_is)
    (case l_needless => k_is)
    (case c_needless => k_is)
    (case k_needless => k_is)
    (case a__law_row => k_is)
    (case l__law_row => k_is)
    (case c__law_row => k_is)
    (case k__law_row => k_is)
    (case a__law_taken => k_is)
    (case l__law_taken => k_is)
    (case c__law_taken => k_is)
    (case k__law_taken => k_is)
    (case a__law_letters => k_is)
    (case l__law_letters => k_is)
    (case c__law_letters => k_is)
    (case k__law_letters => k_is)
    (case a__law_side => k_is)
    (case l__law_side => k_is)
    (case c__law_side => k_is)
    (case k__law_side => k_is)
    (case a__law_text => k_is)
    (case l__law_text => k_is)
    (case c__law_text => k_is)
    (case k__law_text => k_is)
    (case a__law_rule => k_is)
    (case l__law_rule => k_is)
    (case c__law_rule => k_is)
    (case k__law_rule => k_is)
    (case a__law_rules => k_is)
    (case l__law_rules => k_is)
    (case c__law_rules => k_is)
    (case k__law_rules => k_is)
    (case a__law_fits => k_is)
    (case l__law_fits => k_is)
    (case c__law_fits => k_is)
    (case k__law_fits => k_is)
    (case a__law_walk => k_is)
    (case l__law_walk => k_is)
    (case c__law_walk => k_is)
    (case k__law_walk => k_is)
    (case a__law_said => k_is)
    (case l__law_said => k_is)
    (case c__law_said => k_is)
    (case k__law_said => k_is)
    (case a__law_alike => k_is)
    (case l__law_alike => k_is)
    (case c__law_alike => k_is)
    (case k__law_alike => k_is)
    (case a_law => k_is)
    (case l_law => k_is)
    (case c_law => k_is)
    (case k_law => k_is)
    (case e_SayError => k_is)
    (case x_SayError => first | k_is | kernel_rfl | decide +kernel)
    (case k_SayError => k_is)
    (case b_SayError => k_is)
    (case t_SayError => k_is)
    (case e_BadBook => k_is)
    (case x_BadBook => first | k_is | kernel_rfl | decide +kernel)
    (case bm_BadBook_ok => first | k_is | kernel_rfl | decide +kernel)
    (case sa_BadBook => k_is)
    (case in_BadBook => k_is)
    (case ti_BadBook => k_is)
    (case l_BadBook => k_is)
    (case c_BadBook => k_is)
    (case ki_BadBook => k_is)
    (case no_BadBook_part => k_is)
    (case no_BadBook_number => k_is)
    (case k_BadBook => k_is)
    (case b_BadBook => k_is)
    (case t_BadBook => k_is)
    (case e_BadWord => k_is)
    (case x_BadWord => first | k_is | kernel_rfl | decide +kernel)
    (case k_BadWord => k_is)
    (case b_BadWord => k_is)
    (case t_BadWord => k_is)
    (case e_Unsaid => k_is)
    (case x_Unsaid => first | k_is | kernel_rfl | decide +kernel)
    (case bm_Unsaid_ok => first | k_is | kernel_rfl | decide +kernel)
    (case sa_Unsaid => k_is)
    (case in_Unsaid => k_is)
    (case ti_Unsaid => k_is)
    (case l_Unsaid => k_is)
    (case c_Unsaid => k_is)
    (case ki_Unsaid => k_is)
    (case no_Unsaid_place => k_is)
    (case k_Unsaid => k_is)
    (case b_Unsaid => k_is)
    (case t_Unsaid => k_is)
    (case su1 => k_is)
    (case su2 => k_is)
    (case su3 => k_is)
    (case xm_SayError_Unsaid => first | k_is | kernel_rfl | decide +kernel)
    (case xm_BadBook_Unsaid => first | k_is | kernel_rfl | decide +kernel)
    (case xm_BadWord_Unsaid => first | k_is | kernel_rfl | decide +kernel)
    (case xm_Unsaid_Unsaid => first | k_is | kernel_rfl | decide +kernel)
    (case n_all => k_is)
    (case n_bool => k_is)
    (case n_dict => k_is)
    (case n_enumerate => k_is)
    (case n_isinstance => k_is)
    (case n_len => k_is)
    (case n_list => k_is)
    (case n_range => k_is)
    (case n_sorted => k_is)
    (case n_str => k_is)
    (case n_tuple => k_is)
    (case cn_SIGNS => k_is)
    (case cn_SOUNDS => k_is)
    (case cn_BORDER => k_is)
    (case cn_FEWEST_LETTERS => k_is)
    (case cn_MOST_LETTERS => k_is)
    (case cn_MOST_OWN => k_is)
    (case cn_MOST_RULES => k_is)
    (case cn_MOST_SOUNDS => k_is)
    (case cn_MOST_EXCEPTIONS => k_is)
    (case cn_MOST_EXCEPTED => k_is)
    (case cn_MOST_WORD => k_is)
    (case cn_MOST_SAID => k_is)
