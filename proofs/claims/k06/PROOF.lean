import PyProof.Rows.All
import Wide.All
import OpenK.AllK
import Wide.FinOn
import HandS.ForMost
import HandS.Exc
import HandS.TryOnly
import HandS.ExcOwn
import HandS.WordsExc
import HandS.CallSlots
import HandS.IsInst
import HandS.Wide
import HandS.EndBits
import HandS.Zip
import HandS.Conv
import HandS.TupAny
import HandS.Walk
import HandS.Codes
import PyProof.ListStr
import PySem.Challenge.RW_partswing_k06_names_known
set_option Elab.async false
set_option linter.all false
set_option maxRecDepth 100000
/-! The pure layer: what a piece of the text does, told over plain data (D) in place of the heap. -/
namespace Pu
open PySem L2

/-! ### plain data and how the heap bears it -/
inductive D where
  | non | bl (b : Bool) | int (i : Int) | str (s : Str)
  | lst (l : List D) | tup (l : List D) | bag
  | ins (c : Str) (fs : List (Str × D))

structure Wd where
  K : PySem.W.Frag
  mg : Str → Option Value
  b : Option Addr

mutual
inductive Rep (w : Wd) (G : Hp) : V → D → Prop
  | non : Rep w G .non .non
  | bl {k} : Rep w G (.bl k) (.bl k)
  | int {i} : Rep w G (.int i) (.int i)
  | str {s} : Rep w G (.str s) (.str s)
  | lst {a vs ds} : G a = some (.lst vs) → Reps w G vs ds → Rep w G (.ref a) (.lst ds)
  | tup {a vs ds} : SqT w.K G a vs → Reps w G vs ds → Rep w G (.ref a) (.tup ds)
  | bag {a} : w.b = some a → Rep w G (.ref a) .bag
  | ins {c C a dx fv fs} : w.mg c = some (.ref C) → G a = some (.ins C dx fv) → RepF w G fv fs → Rep w G (.ref a) (.ins c fs)
inductive Reps (w : Wd) (G : Hp) : List V → List D → Prop
  | nil : Reps w G [] []
  | cons {v d vs ds} : Rep w G v d → Reps w G vs ds → Reps w G (v :: vs) (d :: ds)
inductive RepF (w : Wd) (G : Hp) : List (Str × V) → List (Str × D) → Prop
  | nil : RepF w G [] []
  | cons {x v d vs ds} : Rep w G v d → RepF w G vs ds → RepF w G ((x, v) :: vs) ((x, d) :: ds)
end

def Ex (H H' : Hp) : Prop := ∀ a o, H a = some o → H' a = some o
theorem Ex.refl (H : Hp) : Ex H H := fun _ _ h => h
theorem Ex.trans {H H1 H2 : Hp} (a : Ex H H1) (b : Ex H1 H2) : Ex H H2 := fun x o h => b x o (a x o h)
theorem Ex.rd {H H' : Hp} {a : Addr} {u : HO} (e : Ex H H') (h : Rd H a u) : Rd H' a u := by
  rcases h with h | ⟨o, h⟩
  · exact Or.inl (e a _ h)
  · exact Or.inr ⟨o, e a _ h⟩
theorem Ex.l {K : PySem.W.Frag} {H H' : Hp} {a : Addr} {xs : List V} (e : Ex H H') (h : SqL K H a xs) : SqL K H' a xs := by
  rcases h with h | h
  · exact Or.inl (e.rd h)
  · exact Or.inr h
theorem Ex.t {K : PySem.W.Frag} {H H' : Hp} {a : Addr} {xs : List V} (e : Ex H H') (h : SqT K H a xs) : SqT K H' a xs := by
  rcases h with h | h
  · exact Or.inl (e.rd h)
  · exact Or.inr h
theorem Ex.back {H H' : Hp} {p : Addr} (e : Ex H H') (h : H' p = none) : H p = none := by
  cases h1 : H p with
  | none => rfl
  | some o =>
    rw [e p o h1] at h
    cases h

mutual
theorem Rep.mono {w : Wd} {G G' : Hp} (e : Ex G G') : ∀ {v : V} {d : D}, Rep w G v d → Rep w G' v d
  | _, _, .non => .non
  | _, _, .bl => .bl
  | _, _, .int => .int
  | _, _, .str => .str
  | _, _, .lst h r => .lst (e _ _ h) (Reps.mono e r)
  | _, _, .tup h r => .tup (e.t h) (Reps.mono e r)
  | _, _, .bag h => .bag h
  | _, _, .ins h1 h2 r => .ins h1 (e _ _ h2) (RepF.mono e r)
theorem Reps.mono {w : Wd} {G G' : Hp} (e : Ex G G') : ∀ {v : List V} {d : List D}, Reps w G v d → Reps w G' v d
  | _, _, .nil => .nil
  | _, _, .cons h r => .cons (Rep.mono e h) (Reps.mono e r)
theorem RepF.mono {w : Wd} {G G' : Hp} (e : Ex G G') : ∀ {v : List (Str × V)} {d : List (Str × D)}, RepF w G v d → RepF w G' v d
  | _, _, .nil => .nil
  | _, _, .cons h r => .cons (Rep.mono e h) (RepF.mono e r)
end
theorem Reps.length {w : Wd} {G : Hp} : ∀ {vs : List V} {ds : List D}, Reps w G vs ds → vs.length = ds.length
  | _, _, .nil => rfl
  | _, _, .cons _ r => congrArg Nat.succ r.length
theorem Reps.get {w : Wd} {G : Hp} : ∀ {vs : List V} {ds : List D} {i : Nat} {v : V}, Reps w G vs ds → vs[i]? = some v → ∃ d, ds[i]? = some d ∧ Rep w G v d
  | _, _, i, v, .nil, h => by simp at h
  | _, _, 0, v, .cons r _, h => by
    simp at h
    subst h
    exact ⟨_, rfl, r⟩
  | _, _, i + 1, v, .cons _ r, h => by
    simp at h
    simpa using r.get h
theorem Reps.getD {w : Wd} {G : Hp} : ∀ {vs : List V} {ds : List D} {i : Nat} {d : D}, Reps w G vs ds → ds[i]? = some d → ∃ v, vs[i]? = some v ∧ Rep w G v d
  | _, _, i, v, .nil, h => by simp at h
  | _, _, 0, v, .cons r _, h => by
    simp at h
    subst h
    exact ⟨_, rfl, r⟩
  | _, _, i + 1, v, .cons _ r, h => by
    simp at h
    simpa using r.getD h
theorem Reps.append {w : Wd} {G : Hp} : ∀ {vs us : List V} {ds es : List D}, Reps w G vs ds → Reps w G us es → Reps w G (vs ++ us) (ds ++ es)
  | _, _, _, _, .nil, h => h
  | _, _, _, _, .cons r t, h => .cons r (t.append h)
theorem Reps.ints {w : Wd} {G : Hp} : ∀ (ns : List Int), Reps w G (ns.map V.int) (ns.map D.int)
  | [] => .nil
  | _ :: r => .cons .int (Reps.ints r)

/-! ### the drawing bag: a list of five, its cells' list stands -/
structure Bag (K : PySem.W.Frag) (G H : Hp) (b : Addr) : Prop where
  ex : ∃ (c : Addr) (ns : List Int) (i r m n : Int), H b = some (.lst [.ref c, .int i, .int r, .int m, .int n]) ∧ SqL K G c (ns.map V.int) ∧ 0 ≤ i ∧ 0 ≤ r ∧ 0 ≤ m ∧ m < 2147483648

/-- what stands behind a piece of a run: G the settled part of the heap, H the heap -/
structure Post (w : Wd) (G H G' H' : Hp) : Prop where
  ex : Ex G G'
  exG : Ex G' H'
  keep : ∀ a o, w.b ≠ some a → H a = some o → H' a = some o
  new : ∀ a, G' a ≠ none → G a ≠ none ∨ H a = none
  bag : ∀ β, w.b = some β → G' β = none ∧ H' β ≠ none ∧ Bag w.K G' H' β
structure Pre (w : Wd) (G H : Hp) : Prop where
  exG : Ex G H
  bag : ∀ β, w.b = some β → G β = none ∧ H β ≠ none ∧ Bag w.K G H β
theorem Bag.mono {K : PySem.W.Frag} {G G' H H' : Hp} {b : Addr} (h : Bag K G H b) (e : Ex G G') (k : H' b = H b) : Bag K G' H' b := by
  obtain ⟨c, ns, i, r, m, n, h1, h2, h3⟩ := h.ex
  exact ⟨c, ns, i, r, m, n, by rw [k]; exact h1, e.l h2, h3⟩
theorem Post.refl {w : Wd} {G H : Hp} (p : Pre w G H) : Post w G H G H := ⟨Ex.refl _, p.exG, fun _ _ _ h => h, fun _ h => .inl h, p.bag⟩
theorem Post.pre {w : Wd} {G H G' H' : Hp} (p : Post w G H G' H') : Pre w G' H' := ⟨p.exG, p.bag⟩
theorem Post.trans {w : Wd} {G H G1 H1 G2 H2 : Hp} (p : Post w G H G1 H1) (q : Post w G1 H1 G2 H2) : Post w G H G2 H2 := by
  refine ⟨p.ex.trans q.ex, q.exG, fun a o n h => q.keep a o n (p.keep a o n h), fun a h => ?_, q.bag⟩
  rcases q.new a h with h1 | h1
  · exact p.new a h1
  · refine .inr ?_
    cases e : H a with
    | none => rfl
    | some o =>
      by_cases hb : w.b = some a
      · exact absurd h1 (p.bag a hb).2.1
      · rw [p.keep a o hb e] at h1
        cases h1
theorem Post.new1 {w : Wd} {G H : Hp} {a : Addr} {o : HO} (p : Pre w G H) (hn : H a = none) : Post w G H (upd G a o) (upd H a o) := by
  have gn : G a = none := p.exG.back hn
  have e1 : Ex G (upd G a o) := fun x u h => by
    rw [upd_ne (ne_of_none h gn)]
    exact h
  refine ⟨e1, fun x u h => ?_, fun x u _ h => ?_, fun x h => ?_, fun β hβ => ?_⟩
  · by_cases e : x = a
    · subst e
      rw [upd_same] at h ⊢
      exact h
    · rw [upd_ne e] at h ⊢
      exact p.exG _ _ h
  · rw [upd_ne (ne_of_none h hn)]
    exact h
  · by_cases e : x = a
    · exact .inr (by rw [e]; exact hn)
    · rw [upd_ne e] at h
      exact .inl h
  · obtain ⟨h1, h2, h3⟩ := p.bag β hβ
    have ne : β ≠ a := fun e => by
      subst e
      exact h2 hn
    refine ⟨by rw [upd_ne ne]; exact h1, by rw [upd_ne ne]; exact h2, h3.mono e1 (by rw [upd_ne ne])⟩

/-! ### the frame: its slots as data -/
inductive Sl where
  | no | v (d : D) | ol (l : List D)
abbrev En := List Sl
structure Fc where
  wd : Wd
  G0 : Hp
  H0 : Hp
  pins : List (Addr × HO) := []
/-- slot i holds s at σ; own: a list of the frame's own, at a -/
def SlOk (F : Fc) (G H : Hp) (s : Sl) (x : Option (Option V)) : Prop := match s with
  | .no => True
  | .v d => ∃ v, x = some (some v) ∧ Rep F.wd G v d
  | .ol l => ∃ a vs, x = some (some (.ref a)) ∧ F.H0 a = none ∧ G a = none ∧ H a = some (.lst vs) ∧ Reps F.wd G vs l
structure SI (F : Fc) (env : En) (σ : L2.St) (G H : Hp) : Prop where
  pre0 : Pre F.wd F.G0 F.H0
  post : Post F.wd F.G0 F.H0 G H
  len : env.length = σ.length
  sl : ∀ (i : Nat) (s : Sl), env[i]? = some s → SlOk F G H s (σ[i]?)
  ap : ∀ (i j : Nat) (l l' : List D) (a : Addr), i ≠ j → env[i]? = some (.ol l) → env[j]? = some (.ol l') → σ[i]? = some (some (.ref a)) → σ[j]? ≠ some (some (.ref a))
  pin : ∀ p ∈ F.pins, H p.1 = some p.2 ∧ G p.1 = none ∧ F.H0 p.1 = none ∧ ∀ (i : Nat) (l : List D), env[i]? = some (.ol l) → σ[i]? ≠ some (some (.ref p.1))
theorem SI.exG {F : Fc} {env : En} {σ : L2.St} {G H : Hp} (h : SI F env σ G H) : Ex G H := h.post.exG
theorem SI.pre {F : Fc} {env : En} {σ : L2.St} {G H : Hp} (h : SI F env σ G H) : Pre F.wd G H := h.post.pre
theorem SI.step {F : Fc} {env : En} {σ : L2.St} {G H G' H' : Hp} (h : SI F env σ G H) (p : Post F.wd G H G' H') : SI F env σ G' H' := by
  have kp : ∀ a o, F.H0 a = none → G a = none → H a = some o → H' a = some o ∧ G' a = none := fun a o h2 h3 h4 => by
    have nb : F.wd.b ≠ some a := fun z => (h.pre0.bag a z).2.1 h2
    refine ⟨p.keep a _ nb h4, ?_⟩
    cases e : G' a with
    | none => rfl
    | some o =>
      rcases p.new a (by rw [e]; simp) with z | z
      · exact absurd h3 z
      · rw [h4] at z
        cases z
  refine ⟨h.pre0, h.post.trans p, h.len, fun i s e => ?_, h.ap, fun q hq => ?_⟩
  · have q := h.sl i s e
    cases s with
    | no => trivial
    | v d =>
      obtain ⟨v, h1, h2⟩ := q
      exact ⟨v, h1, h2.mono p.ex⟩
    | ol l =>
      obtain ⟨a, vs, h1, h2, h3, h4, h5⟩ := q
      obtain ⟨k1, k2⟩ := kp a _ h2 h3 h4
      exact ⟨a, vs, h1, h2, k2, k1, h5.mono p.ex⟩
  · obtain ⟨h1, h2, h3, h4⟩ := h.pin q hq
    obtain ⟨k1, k2⟩ := kp _ _ h3 h2 h1
    exact ⟨k1, k2, h3, h4⟩
theorem set_ol {env : En} {i j : Nat} {s : Sl} {l : List D} (hs : ∀ l, s ≠ .ol l) (e : (env.set i s)[j]? = some (.ol l)) : i ≠ j ∧ env[j]? = some (.ol l) := by
  have hij : i ≠ j := fun z => by
    subst z
    rw [List.getElem?_set, if_pos rfl] at e
    split at e
    · exact hs l (Option.some.inj e)
    · cases e
  rw [List.getElem?_set_ne hij] at e
  exact ⟨hij, e⟩
theorem SI.set {F : Fc} {env : En} {σ : L2.St} {G H : Hp} {i : Nat} {v : V} {d : D} (h : SI F env σ G H) (r : Rep F.wd G v d) : SI F (env.set i (.v d)) (σ.set i (some v)) G H := by
  have hs : ∀ l, Sl.v d ≠ .ol l := fun l z => nomatch z
  refine ⟨h.pre0, h.post, by rw [List.length_set, List.length_set]; exact h.len, fun j s e => ?_, fun j k l l' a hjk e1 e2 e3 => ?_, fun q hq => ?_⟩
  · by_cases hij : i = j
    · subst hij
      rw [List.getElem?_set] at e ⊢
      rw [if_pos rfl] at e ⊢
      by_cases hl : i < env.length
      · rw [if_pos hl] at e
        cases e
        rw [if_pos (by rw [← h.len]; exact hl)]
        exact ⟨v, rfl, r⟩
      · rw [if_neg hl] at e
        cases e
    · rw [List.getElem?_set_ne hij] at e ⊢
      exact h.sl j s e
  · obtain ⟨hij, e1⟩ := set_ol hs e1
    obtain ⟨hik, e2⟩ := set_ol hs e2
    rw [List.getElem?_set_ne hij] at e3
    rw [List.getElem?_set_ne hik]
    exact h.ap j k l l' a hjk e1 e2 e3
  · obtain ⟨h1, h2, h3, h4⟩ := h.pin q hq
    refine ⟨h1, h2, h3, fun j l e => ?_⟩
    obtain ⟨hij, e⟩ := set_ol hs e
    rw [List.getElem?_set_ne hij]
    exact h4 j l e
/-- a slot is forgotten -/
theorem SI.forget {F : Fc} {env : En} {σ : L2.St} {G H : Hp} {i : Nat} {x : Option V} (h : SI F env σ G H) : SI F (env.set i .no) (σ.set i x) G H := by
  have hs : ∀ l, Sl.no ≠ .ol l := fun l z => nomatch z
  refine ⟨h.pre0, h.post, by rw [List.length_set, List.length_set]; exact h.len, fun j s e => ?_, fun j k l l' a hjk e1 e2 e3 => ?_, fun q hq => ?_⟩
  · by_cases hij : i = j
    · subst hij
      rw [List.getElem?_set] at e
      rw [if_pos rfl] at e
      split at e
      · cases e
        trivial
      · cases e
    · rw [List.getElem?_set_ne hij] at e ⊢
      exact h.sl j s e
  · obtain ⟨hij, e1⟩ := set_ol hs e1
    obtain ⟨hik, e2⟩ := set_ol hs e2
    rw [List.getElem?_set_ne hij] at e3
    rw [List.getElem?_set_ne hik]
    exact h.ap j k l l' a hjk e1 e2 e3
  · obtain ⟨h1, h2, h3, h4⟩ := h.pin q hq
    refine ⟨h1, h2, h3, fun j l e => ?_⟩
    obtain ⟨hij, e⟩ := set_ol hs e
    rw [List.getElem?_set_ne hij]
    exact h4 j l e

/-! ### exceptions as data -/
structure DX where
  c : Str
  fs : List (Str × D)
structure RX (w : Wd) (G : Hp) (x : DX) (cls : Value) (d : Option Addr) : Prop where
  ex : ∃ C a fv, cls = .ref C ∧ w.mg x.c = some (.ref C) ∧ d = some a ∧ G a = some (.xd fv) ∧ RepF w G fv x.fs

/-! ### judgements -/
abbrev QX := DX → En → Prop
abbrev WE := En → (D → En → Prop) → QX → Prop
abbrev WT := En → (Bool → En → Prop) → QX → Prop
abbrev WA := En → (List D → En → Prop) → QX → Prop
structure EnD where
  nx : En → Prop
  rt : D → Prop
  ex : QX
  bk : En → Prop := fun _ => False
  ct : En → Prop := fun _ => False
abbrev WS := En → EnD → Prop

def XOk (X : Cx) (F : Fc) : Prop := F.wd.K = X.K ∧ F.wd.mg = X.mg
def XK' (F : Fc) (W : WX) (σ : L2.St) (R : QX) : Prop := ∀ x env' cls dct G' H', R x env' → SI F env' σ G' H' → RX F.wd G' x cls dct → W cls dct σ H'
structure PX (X : Cx) (W : WX) (e : Expr) (w : WE) : Prop where
  ex : ∃ t, PE X e t ∧ ∀ (F : Fc) (env : En) (σ : L2.St) (G H : Hp) (P : D → En → Prop) (R : QX) (Q : VK), XOk X F → SI F env σ G H → w env P R →
    (∀ d env' v G' H', P d env' → SI F env' σ G' H' → Ex G G' → Rep F.wd G' v d → Q v H') → XK' F W σ R → t σ H Q
structure PXT (X : Cx) (W : WX) (e : Expr) (w : WT) : Prop where
  ex : ∃ t, PT X e t ∧ ∀ (F : Fc) (env : En) (σ : L2.St) (G H : Hp) (P : Bool → En → Prop) (R : QX) (Q : Bool → Hp → Prop), XOk X F → SI F env σ G H → w env P R →
    (∀ d env' G' H', P d env' → SI F env' σ G' H' → Ex G G' → Q d H') → XK' F W σ R → t σ H Q
/-- for and, or -/
structure PXW (X : Cx) (W : WX) (e : Expr) (w : WT) : Prop where
  ex : ∃ t, PW X e t ∧ ∀ (F : Fc) (env : En) (σ : L2.St) (G H : Hp) (P : Bool → En → Prop) (R : QX) (Q : Bool → Hp → Prop), XOk X F → SI F env σ G H → w env P R →
    (∀ d env' G' H', P d env' → SI F env' σ G' H' → Ex G G' → Q d H') → XK' F W σ R → t σ H Q
structure PXA (X : Cx) (W : WX) (es : List Expr) (w : WA) : Prop where
  ex : ∃ t, PA X es t ∧ ∀ (F : Fc) (env : En) (σ : L2.St) (G H : Hp) (P : List D → En → Prop) (R : QX) (Q : List V → Hp → Prop), XOk X F → SI F env σ G H → w env P R →
    (∀ ds env' vs G' H', P ds env' → SI F env' σ G' H' → Ex G G' → Reps F.wd G' vs ds → Q vs H') → XK' F W σ R → t σ H Q
/-- the ends of a statement, over the heap and over data -/
structure EnOk (F : Fc) (W : WX) (G : Hp) (P : EnD) (Q : Ends) : Prop where
  nx : ∀ env' σ' G' H', P.nx env' → SI F env' σ' G' H' → Ex G G' → Q.nx σ' H'
  rt : ∀ d v env' σ' G' H', P.rt d → SI F env' σ' G' H' → Rep F.wd G' v d → Q.rt v H'
  bk : ∀ env' σ' G' H', P.bk env' → SI F env' σ' G' H' → Ex G G' → Q.bk σ' H'
  ct : ∀ env' σ' G' H', P.ct env' → SI F env' σ' G' H' → Ex G G' → Q.ct σ' H'
  ex : ∀ σ', XK' F W σ' P.ex
structure PXS (X : Cx) (W : WX) (st : Stmt) (w : WS) : Prop where
  ex : ∃ t, PS X st t ∧ ∀ (F : Fc) (env : En) (σ : L2.St) (G H : Hp) (P : EnD) (Q : Ends), XOk X F → SI F env σ G H → w env P → EnOk F W G P Q → t Q σ H
structure PXB (X : Cx) (W : WX) (st : List Stmt) (w : WS) : Prop where
  ex : ∃ t, PSs X st t ∧ ∀ (F : Fc) (env : En) (σ : L2.St) (G H : Hp) (P : EnD) (Q : Ends), XOk X F → SI F env σ G H → w env P → EnOk F W G P Q → t Q σ H
theorem EnOk.mono {F : Fc} {W : WX} {G G' : Hp} {P : EnD} {Q : Ends} (h : EnOk F W G P Q) (e : Ex G G') : EnOk F W G' P Q :=
  ⟨fun a b c d p s x => h.nx a b c d p s (e.trans x), h.rt, fun a b c d p s x => h.bk a b c d p s (e.trans x), fun a b c d p s x => h.ct a b c d p s (e.trans x), h.ex⟩
end Pu
set_option maxRecDepth 100000
/-! Rules of the pure layer: expressions -/
namespace Pu
open PySem L2

/-! ### freezing an own list -/
theorem SI.freeze {F : Fc} {env : En} {σ : L2.St} {G H : Hp} {i : Nat} {l : List D} (h : SI F env σ G H) (e : env[i]? = some (.ol l)) :
    ∃ a G', σ[i]? = some (some (.ref a)) ∧ Ex G G' ∧ SI F (env.set i (.v (.lst l))) σ G' H ∧ Rep F.wd G' (.ref a) (.lst l) := by
  obtain ⟨a, vs, h1, h2, h3, h4, h5⟩ := h.sl i _ e
  have e1 : Ex G (upd G a (.lst vs)) := fun x u hx => by
    rw [upd_ne (ne_of_none hx h3)]
    exact hx
  have rr : Rep F.wd (upd G a (.lst vs)) (.ref a) (.lst l) := .lst upd_same (h5.mono e1)
  refine ⟨a, upd G a (.lst vs), h1, e1, ⟨h.pre0, ⟨h.post.ex.trans e1, fun x u hx => ?_, h.post.keep, fun x hx => ?_, fun β hβ => ?_⟩, by rw [List.length_set]; exact h.len, fun j s es => ?_, fun j k l1 l2 b hjk e2 e3 e4 => ?_, fun q hq => ?_⟩, rr⟩
  · by_cases z : x = a
    · subst z
      rw [upd_same] at hx
      cases hx
      exact h4
    · rw [upd_ne z] at hx
      exact h.exG _ _ hx
  · by_cases z : x = a
    · exact .inr (by rw [z]; exact h2)
    · rw [upd_ne z] at hx
      exact h.post.new x hx
  · obtain ⟨b1, b2, b3⟩ := h.post.bag β hβ
    have ne : β ≠ a := fun z => by
      subst z
      exact (h.pre0.bag _ hβ).2.1 h2
    exact ⟨by rw [upd_ne ne]; exact b1, b2, b3.mono e1 rfl⟩
  · by_cases hij : i = j
    · subst hij
      have hl : i < env.length := (List.getElem?_eq_some_iff.mp e).1
      rw [List.getElem?_set, if_pos rfl, if_pos hl] at es
      cases es
      exact ⟨_, h1, rr⟩
    · rw [List.getElem?_set_ne hij] at es
      have q := h.sl j s es
      cases s with
      | no => trivial
      | v d =>
        obtain ⟨v, q1, q2⟩ := q
        exact ⟨v, q1, q2.mono e1⟩
      | ol l' =>
        obtain ⟨b, ws, q1, q2, q3, q4, q5⟩ := q
        have ne : b ≠ a := fun z => by
          subst z
          exact h.ap i j _ _ _ hij e es h1 q1
        exact ⟨b, ws, q1, q2, by rw [upd_ne ne]; exact q3, q4, q5.mono e1⟩
  · have hij : i ≠ j := fun z => by
      subst z
      rw [List.getElem?_set, if_pos rfl] at e2
      split at e2 <;> cases e2
    have hik : i ≠ k := fun z => by
      subst z
      rw [List.getElem?_set, if_pos rfl] at e3
      split at e3 <;> cases e3
    rw [List.getElem?_set_ne hij] at e2
    rw [List.getElem?_set_ne hik] at e3
    exact h.ap j k _ _ b hjk e2 e3 e4
  · obtain ⟨q1, q2, q3, q4⟩ := h.pin q hq
    refine ⟨q1, ?_, q3, fun j l' ej => ?_⟩
    · have ne : q.1 ≠ a := fun z => by
        have y := q4 i l e
        rw [z] at y
        exact y h1
      rw [upd_ne ne]
      exact q2
    · obtain ⟨_, ej⟩ := set_ol (s := .v (.lst l)) (fun l z => Sl.noConfusion z) ej
      exact q4 j l' ej

/-! ### names, constants -/
def wVar (i : Nat) : WE := fun env P _ => match env[i]? with
  | some (.v d) => P d env
  | some (.ol l) => P (.lst l) (env.set i (.v (.lst l)))
  | _ => False
def wC (d : D) : WE := fun env P _ => P d env
section
variable {X : Cx} {W : WX}
theorem px_var (i : Nat) {x : Str} {pos : Pos} (h : PE X (.Name x pos) (tVar i)) : PX X W (.Name x pos) (wVar i) := by
  refine ⟨⟨_, h, fun F env σ G H P R Q hx hs hw hq hr => ?_⟩⟩
  unfold wVar at hw
  cases e : env[i]? with
  | none => rw [e] at hw; exact hw.elim
  | some s =>
    rw [e] at hw
    cases s with
    | no => exact hw.elim
    | v d =>
      obtain ⟨v, h1, h2⟩ := hs.sl i _ e
      exact ⟨v, h1, hq d env v G H hw hs (Ex.refl _) h2⟩
    | ol l =>
      obtain ⟨a, G', h1, e1, h2, h3⟩ := hs.freeze e
      exact ⟨_, h1, hq _ _ _ G' H hw h2 e1 h3⟩
theorem px_c {e : Expr} {v : V} {d : D} (h : PE X e (tC v)) (hr : ∀ w G, Rep w G v d) : PX X W e (wC d) :=
  ⟨⟨_, h, fun F env σ G H P R Q hx hs hw hq hr' => hq d env v G H hw hs (Ex.refl _) (hr _ _)⟩⟩
theorem px_int {i j pos} : PX X W (.Constant (.int i) j pos) (wC (.int i)) := px_c pe_int fun _ _ => .int
theorem px_bl {b j pos} : PX X W (.Constant (.bool b) j pos) (wC (.bl b)) := px_c pe_bl fun _ _ => .bl
theorem px_non {j pos} : PX X W (.Constant .none j pos) (wC .non) := px_c pe_non fun _ _ => .non
theorem px_str {x j pos} : PX X W (.Constant (.str x) j pos) (wC (.str x)) := px_c pe_str fun _ _ => .str
/-- a module's scalar constant -/
theorem px_glob {x : Str} {v : V} {d : D} {u : Value} {pos : Pos} (hg : Gl X x) (hm : X.mg x = some u) (r : RelV v u) (hr : ∀ w G, Rep w G v d) (hd : (x == ("__debug__" : Str)) = false := by decide) : PX X W (.Name x pos) (wC d) :=
  px_c (pe_glob hg hm r hd) hr
end

/-! ### operators over data -/
abbrev RD2 := D → D → (D → Prop) → Prop
def wOp (r : RD2) (wa wb : WE) : WE := fun env P R => wa env (fun x e1 => wb e1 (fun y e2 => r x y fun z => P z e2) R) R
/-- an operator's reading over data: what it wants of values stands -/
def ROk (X : Cx) (r0 : R2) (r : RD2) : Prop := ∀ (w : Wd) (G H : Hp) (x y : D) (vx vy : V) (P : D → Prop) (Q : VK), w.K = X.K → w.mg = X.mg → Pre w G H → Rep w G vx x → Rep w G vy y → r x y P →
  (∀ z v G' H', P z → Post w G H G' H' → Rep w G' v z → Q v H') → r0 vx vy H Q
def PR2 (X : Cx) (f : Value → Value → Sem Value) (r : RD2) : Prop := ∃ r0, OpR X f r0 ∧ ROk X r0 r
theorem OpR.or {X : Cx} {f : Value → Value → Sem Value} {r r' : R2} (h : OpR X f r) (h' : OpR X f r') : OpR X f (fun x y H Q => r x y H Q ∨ r' x y H Q) := by
  intro pins s σ H x y v u Q I rx ry q
  rcases q with q | q
  · exact h pins s σ H x y v u Q I rx ry q
  · exact h' pins s σ H x y v u Q I rx ry q
section
variable {X : Cx} {W : WX} {a b : Expr} {wa wb : WE} {pos : Pos}
theorem run2 {r0 : R2} {r : RD2} (hr : ROk X r0 r) {ta tb : TE}
    (ha : ∀ (F : Fc) (env : En) (σ : L2.St) (G H : Hp) (P : D → En → Prop) (R : QX) (Q : VK), XOk X F → SI F env σ G H → wa env P R → (∀ d env' v G' H', P d env' → SI F env' σ G' H' → Ex G G' → Rep F.wd G' v d → Q v H') → XK' F W σ R → ta σ H Q)
    (hb : ∀ (F : Fc) (env : En) (σ : L2.St) (G H : Hp) (P : D → En → Prop) (R : QX) (Q : VK), XOk X F → SI F env σ G H → wb env P R → (∀ d env' v G' H', P d env' → SI F env' σ G' H' → Ex G G' → Rep F.wd G' v d → Q v H') → XK' F W σ R → tb σ H Q)
    (F : Fc) (env : En) (σ : L2.St) (G H : Hp) (P : D → En → Prop) (R : QX) (Q : VK) (hx : XOk X F) (hs : SI F env σ G H) (hw : wOp r wa wb env P R) (hq : ∀ d env' v G' H', P d env' → SI F env' σ G' H' → Ex G G' → Rep F.wd G' v d → Q v H') (hk : XK' F W σ R) : tOp r0 ta tb σ H Q := by
  refine ha F env σ G H _ R _ hx hs hw (fun x e1 vx G1 H1 p1 s1 x1 r1 => ?_) hk
  refine hb F e1 σ G1 H1 _ R _ hx s1 p1 (fun y e2 vy G2 H2 p2 s2 x2 r2 => ?_) hk
  exact hr F.wd G2 H2 x y vx vy _ Q hx.1 hx.2 s2.pre (r1.mono x2) r2 p2 fun z v G' H' p po rz => hq z e2 v G' H' p (s2.step po) ((x1.trans x2).trans po.ex) rz
theorem px_op {op : Operator} {r : RD2} (ho : PR2 X (binaryOp op) r) (ha : PX X W a wa) (hb : PX X W b wb) : PX X W (.BinOp a op b pos) (wOp r wa wb) := by
  obtain ⟨r0, h1, h2⟩ := ho
  obtain ⟨ta, a1, a2⟩ := ha.ex
  obtain ⟨tb, b1, b2⟩ := hb.ex
  exact ⟨⟨_, pe_op h1 a1 b1, run2 h2 a2 b2⟩⟩
theorem px_cmp {op : CmpOp} {r : RD2} (ho : PR2 X (compareOp op) r) (ha : PX X W a wa) (hb : PX X W b wb) (hm : behindInMarks op b = false := by first | exact nobehind _ (by decide) (by decide) | rfl) : PX X W (.Compare a [op] [b] pos) (wOp r wa wb) := by
  obtain ⟨r0, h1, h2⟩ := ho
  obtain ⟨ta, a1, a2⟩ := ha.ex
  obtain ⟨tb, b1, b2⟩ := hb.ex
  exact ⟨⟨_, pe_cmpR h1 a1 b1 hm, run2 h2 a2 b2⟩⟩
def wTest (w : WE) : WT := fun env P R => w env (fun d e1 => match d with | .bl k => P k e1 | _ => False) R
theorem pt_cmp' {op : CmpOp} {r : RD2} (ho : PR2 X (compareOp op) r) (ha : PX X W a wa) (hb : PX X W b wb) (hm : behindInMarks op b = false := by first | exact nobehind _ (by decide) (by decide) | rfl) : PXT X W (.Compare a [op] [b] pos) (wTest (wOp r wa wb)) := by
  obtain ⟨r0, h1, h2⟩ := ho
  obtain ⟨ta, a1, a2⟩ := ha.ex
  obtain ⟨tb, b1, b2⟩ := hb.ex
  refine ⟨⟨_, pt_cmpR h1 a1 b1 hm, fun F env σ G H P R Q hx hs hw hq hk => run2 h2 a2 b2 F env σ G H _ R _ hx hs hw (fun d e1 v G1 H1 p s1 x1 r1 => ?_) hk⟩⟩
  cases d with
  | bl k =>
    cases r1
    exact ⟨k, rfl, hq k e1 G1 H1 p s1 x1⟩
  | _ => exact p.elim
/-- a op b op2 c -/
def wChain (r r' : RD2) (wa wb wc : WE) : WE := fun env P R => wa env (fun x e1 => wb e1 (fun y e2 => r x y fun z => match z with
  | .bl true => wc e2 (fun u e3 => r' y u fun z' => P z' e3) R
  | .bl false => P (.bl false) e2
  | _ => False) R) R
theorem runC {r0 r0' : R2} {r r' : RD2} {c : Expr} {wc : WE} (hr : ROk X r0 r) (hr' : ROk X r0' r') {ta tb tc : TE}
    (ha : ∀ (F : Fc) (env : En) (σ : L2.St) (G H : Hp) (P : D → En → Prop) (R : QX) (Q : VK), XOk X F → SI F env σ G H → wa env P R → (∀ d env' v G' H', P d env' → SI F env' σ G' H' → Ex G G' → Rep F.wd G' v d → Q v H') → XK' F W σ R → ta σ H Q)
    (hb : ∀ (F : Fc) (env : En) (σ : L2.St) (G H : Hp) (P : D → En → Prop) (R : QX) (Q : VK), XOk X F → SI F env σ G H → wb env P R → (∀ d env' v G' H', P d env' → SI F env' σ G' H' → Ex G G' → Rep F.wd G' v d → Q v H') → XK' F W σ R → tb σ H Q)
    (hc : ∀ (F : Fc) (env : En) (σ : L2.St) (G H : Hp) (P : D → En → Prop) (R : QX) (Q : VK), XOk X F → SI F env σ G H → wc env P R → (∀ d env' v G' H', P d env' → SI F env' σ G' H' → Ex G G' → Rep F.wd G' v d → Q v H') → XK' F W σ R → tc σ H Q)
    (F : Fc) (env : En) (σ : L2.St) (G H : Hp) (P : D → En → Prop) (R : QX) (Q : VK) (hx : XOk X F) (hs : SI F env σ G H) (hw : wChain r r' wa wb wc env P R) (hq : ∀ d env' v G' H', P d env' → SI F env' σ G' H' → Ex G G' → Rep F.wd G' v d → Q v H') (hk : XK' F W σ R) : tChain r0 r0' ta tb tc σ H Q := by
  refine ha F env σ G H _ R _ hx hs hw (fun x e1 vx G1 H1 p1 s1 x1 r1 => ?_) hk
  refine hb F e1 σ G1 H1 _ R _ hx s1 p1 (fun y e2 vy G2 H2 p2 s2 x2 r2 => ?_) hk
  refine hr F.wd G2 H2 x y vx vy _ _ hx.1 hx.2 s2.pre (r1.mono x2) r2 p2 fun z v G3 H3 p po rz => ?_
  have s3 := s2.step po
  cases z with
  | bl k =>
    cases rz
    cases k with
    | false =>
      refine ⟨false, rfl, ?_⟩
      rw [if_neg Bool.false_ne_true]
      exact hq _ e2 _ G3 H3 p s3 ((x1.trans x2).trans po.ex) .bl
    | true =>
      refine ⟨true, rfl, ?_⟩
      rw [if_pos rfl]
      refine hc F e2 σ G3 H3 _ R _ hx s3 p (fun u e3 vu G4 H4 p4 s4 x4 r4 => ?_) hk
      exact hr' F.wd G4 H4 y u vy vu _ Q hx.1 hx.2 s4.pre ((r2.mono po.ex).mono x4) r4 p4 fun z v G' H' p po' rz => hq z e3 v G' H' p (s4.step po') ((((x1.trans x2).trans po.ex).trans x4).trans po'.ex) rz
  | _ => exact p.elim
theorem px_chain {op op' : CmpOp} {r r' : RD2} {c : Expr} {wc : WE} (ho : PR2 X (compareOp op) r) (ho' : PR2 X (compareOp op') r') (ha : PX X W a wa) (hb : PX X W b wb) (hc : PX X W c wc)
    (hm : lastMarks [op, op'] [b, c] = false := by with_unfolding_all rfl) : PX X W (.Compare a [op, op'] [b, c] pos) (wChain r r' wa wb wc) := by
  obtain ⟨r0, h1, h2⟩ := ho
  obtain ⟨r1, h3, h4⟩ := ho'
  obtain ⟨ta, a1, a2⟩ := ha.ex
  obtain ⟨tb, b1, b2⟩ := hb.ex
  obtain ⟨tc, c1, c2⟩ := hc.ex
  exact ⟨⟨_, pe_chain h1 h3 a1 b1 c1 hm, runC (c := c) h2 h4 a2 b2 c2⟩⟩
theorem pt_chain' {op op' : CmpOp} {r r' : RD2} {c : Expr} {wc : WE} (ho : PR2 X (compareOp op) r) (ho' : PR2 X (compareOp op') r') (ha : PX X W a wa) (hb : PX X W b wb) (hc : PX X W c wc)
    (hm : lastMarks [op, op'] [b, c] = false := by with_unfolding_all rfl) : PXT X W (.Compare a [op, op'] [b, c] pos) (wTest (wChain r r' wa wb wc)) := by
  obtain ⟨r0, h1, h2⟩ := ho
  obtain ⟨r1, h3, h4⟩ := ho'
  obtain ⟨ta, a1, a2⟩ := ha.ex
  obtain ⟨tb, b1, b2⟩ := hb.ex
  obtain ⟨tc, c1, c2⟩ := hc.ex
  refine ⟨⟨_, pt_chain h1 h3 a1 b1 c1 hm, fun F env σ G H P R Q hx hs hw hq hk => runC (c := c) h2 h4 a2 b2 c2 F env σ G H _ R _ hx hs hw (fun d e1 v G1 H1 p s1 x1 r1 => ?_) hk⟩⟩
  cases d with
  | bl k =>
    cases r1
    exact ⟨k, rfl, hq k e1 G1 H1 p s1 x1⟩
  | _ => exact p.elim
/-- an expression as a test: a bool -/
theorem pt_bool (h : PX X W a wa) (he : ∀ whole, isTrue a X.env whole = (do let v ← whole; standAt a.pos; holding [v] (truthy v)) := by intro _; rfl) : PXT X W a (wTest wa) := by
  obtain ⟨ta, a1, a2⟩ := h.ex
  refine ⟨⟨_, pt_val a1 he, fun F env σ G H P R Q hx hs hw hq hk => a2 F env σ G H _ R _ hx hs hw (fun d e1 v G1 H1 p s1 x1 r1 => ?_) hk⟩⟩
  cases d with
  | bl k =>
    cases r1
    exact ⟨k, rfl, hq k e1 G1 H1 p s1 x1⟩
  | _ => exact p.elim
/-! ### and, or, not, if -/
def wNot (w : WT) : WT := fun env P R => w env (fun k e => P (!k) e) R
def wAnd (w u : WT) : WT := fun env P R => w env (fun k e => match k with | true => u e P R | false => P false e) R
def wOr (w u : WT) : WT := fun env P R => w env (fun k e => match k with | true => P true e | false => u e P R) R
theorem pt_not' {w : WT} (h : PXT X W a w) : PXT X W (.UnaryOp .Not a pos) (wNot w) := by
  obtain ⟨t, a1, a2⟩ := h.ex
  exact ⟨⟨_, pt_not a1, fun F env σ G H P R Q hx hs hw hq hk => a2 F env σ G H _ R _ hx hs hw (fun d e1 G1 H1 p s1 x1 => hq _ e1 G1 H1 p s1 x1) hk⟩⟩
theorem pw_pt {w : WT} (h : PXW X W a w) : PXT X W a w := by
  obtain ⟨t, a1, a2⟩ := h.ex
  exact ⟨⟨_, a1.pt, a2⟩⟩
theorem pw_and1' {w : WT} (h : PXT X W a w) : PXW X W (.BoolOp .And [a] pos) w := by
  obtain ⟨t, a1, a2⟩ := h.ex
  exact ⟨⟨_, pw_and1 a1, a2⟩⟩
theorem pw_or1' {w : WT} (h : PXT X W a w) : PXW X W (.BoolOp .Or [a] pos) w := by
  obtain ⟨t, a1, a2⟩ := h.ex
  exact ⟨⟨_, pw_or1 a1, a2⟩⟩
theorem pw_and' {w u : WT} {rest : List Expr} (h : PXT X W a w) (g : PXW X W (.BoolOp .And (b :: rest) pos) u) : PXW X W (.BoolOp .And (a :: b :: rest) pos) (wAnd w u) := by
  obtain ⟨t, a1, a2⟩ := h.ex
  obtain ⟨t', b1, b2⟩ := g.ex
  refine ⟨⟨_, pw_and a1 b1, fun F env σ G H P R Q hx hs hw hq hk => a2 F env σ G H _ R _ hx hs hw (fun d e1 G1 H1 p s1 x1 => ?_) hk⟩⟩
  cases d with
  | true =>
    rw [if_pos rfl]
    exact b2 F e1 σ G1 H1 _ R _ hx s1 p (fun d' e2 G2 H2 p2 s2 x2 => hq d' e2 G2 H2 p2 s2 (x1.trans x2)) hk
  | false =>
    rw [if_neg Bool.false_ne_true]
    exact hq _ e1 G1 H1 p s1 x1
theorem pw_or' {w u : WT} {rest : List Expr} (h : PXT X W a w) (g : PXW X W (.BoolOp .Or (b :: rest) pos) u) : PXW X W (.BoolOp .Or (a :: b :: rest) pos) (wOr w u) := by
  obtain ⟨t, a1, a2⟩ := h.ex
  obtain ⟨t', b1, b2⟩ := g.ex
  refine ⟨⟨_, pw_or a1 b1, fun F env σ G H P R Q hx hs hw hq hk => a2 F env σ G H _ R _ hx hs hw (fun d e1 G1 H1 p s1 x1 => ?_) hk⟩⟩
  cases d with
  | false =>
    rw [if_neg Bool.false_ne_true]
    exact b2 F e1 σ G1 H1 _ R _ hx s1 p (fun d' e2 G2 H2 p2 s2 x2 => hq d' e2 G2 H2 p2 s2 (x1.trans x2)) hk
  | true =>
    rw [if_pos rfl]
    exact hq _ e1 G1 H1 p s1 x1
/-- as values (bools) -/
def wNotV (w : WE) : WE := fun env P R => w env (fun d e => match d with | .bl k => P (.bl (!k)) e | _ => False) R
def wAndV (w u : WE) : WE := fun env P R => w env (fun d e => match d with | .bl true => u e P R | .bl false => P (.bl false) e | _ => False) R
def wOrV (w u : WE) : WE := fun env P R => w env (fun d e => match d with | .bl true => P (.bl true) e | .bl false => u e P R | _ => False) R
theorem px_not (h : PX X W a wa) : PX X W (.UnaryOp .Not a pos) (wNotV wa) := by
  obtain ⟨t, a1, a2⟩ := h.ex
  refine ⟨⟨_, pe_not a1, fun F env σ G H P R Q hx hs hw hq hk => a2 F env σ G H _ R _ hx hs hw (fun d e1 v G1 H1 p s1 x1 r1 => ?_) hk⟩⟩
  cases d with
  | bl k =>
    cases r1
    exact ⟨k, rfl, hq _ e1 _ G1 H1 p s1 x1 .bl⟩
  | _ => exact p.elim
theorem px_one {op : BoolOp} (h : PX X W a wa) : PX X W (.BoolOp op [a] pos) wa := by
  obtain ⟨t, a1, a2⟩ := h.ex
  exact ⟨⟨_, pe_one a1, a2⟩⟩
theorem px_and {rest : List Expr} (h : PX X W a wa) (g : PX X W (.BoolOp .And (b :: rest) pos) wb) : PX X W (.BoolOp .And (a :: b :: rest) pos) (wAndV wa wb) := by
  obtain ⟨t, a1, a2⟩ := h.ex
  obtain ⟨t', b1, b2⟩ := g.ex
  refine ⟨⟨_, pe_and a1 b1, fun F env σ G H P R Q hx hs hw hq hk => a2 F env σ G H _ R _ hx hs hw (fun d e1 v G1 H1 p s1 x1 r1 => ?_) hk⟩⟩
  cases d with
  | bl k =>
    cases r1
    refine ⟨k, rfl, ?_⟩
    cases k with
    | true =>
      rw [if_pos rfl]
      exact b2 F e1 σ G1 H1 _ R _ hx s1 p (fun d' e2 v2 G2 H2 p2 s2 x2 => hq d' e2 v2 G2 H2 p2 s2 (x1.trans x2)) hk
    | false =>
      rw [if_neg Bool.false_ne_true]
      exact hq _ e1 _ G1 H1 p s1 x1 .bl
  | _ => exact p.elim
theorem px_or {rest : List Expr} (h : PX X W a wa) (g : PX X W (.BoolOp .Or (b :: rest) pos) wb) : PX X W (.BoolOp .Or (a :: b :: rest) pos) (wOrV wa wb) := by
  obtain ⟨t, a1, a2⟩ := h.ex
  obtain ⟨t', b1, b2⟩ := g.ex
  refine ⟨⟨_, pe_or a1 b1, fun F env σ G H P R Q hx hs hw hq hk => a2 F env σ G H _ R _ hx hs hw (fun d e1 v G1 H1 p s1 x1 r1 => ?_) hk⟩⟩
  cases d with
  | bl k =>
    cases r1
    refine ⟨k, rfl, ?_⟩
    cases k with
    | false =>
      rw [if_neg Bool.false_ne_true]
      exact b2 F e1 σ G1 H1 _ R _ hx s1 p (fun d' e2 v2 G2 H2 p2 s2 x2 => hq d' e2 v2 G2 H2 p2 s2 (x1.trans x2)) hk
    | true =>
      rw [if_pos rfl]
      exact hq _ e1 _ G1 H1 p s1 x1 .bl
  | _ => exact p.elim
def wIf (t : WT) (u v : WE) : WE := fun env P R => t env (fun k e => match k with | true => u e P R | false => v e P R) R
theorem px_if {c : Expr} {wt : WT} (hc : PXT X W c wt) (ha : PX X W a wa) (hb : PX X W b wb) : PX X W (.IfExp c a b pos) (wIf wt wa wb) := by
  obtain ⟨t, c1, c2⟩ := hc.ex
  obtain ⟨ta, a1, a2⟩ := ha.ex
  obtain ⟨tb, b1, b2⟩ := hb.ex
  refine ⟨⟨_, pe_ifExp c1 a1 b1, fun F env σ G H P R Q hx hs hw hq hk => c2 F env σ G H _ R _ hx hs hw (fun d e1 G1 H1 p s1 x1 => ?_) hk⟩⟩
  cases d with
  | true =>
    rw [if_pos rfl]
    exact a2 F e1 σ G1 H1 _ R _ hx s1 p (fun d' e2 v2 G2 H2 p2 s2 x2 => hq d' e2 v2 G2 H2 p2 s2 (x1.trans x2)) hk
  | false =>
    rw [if_neg Bool.false_ne_true]
    exact b2 F e1 σ G1 H1 _ R _ hx s1 p (fun d' e2 v2 G2 H2 p2 s2 x2 => hq d' e2 v2 G2 H2 p2 s2 (x1.trans x2)) hk
/-! ### argument lists, displays, calls of built-ins -/
def wNil : WA := fun env P _ => P [] env
def wCons (w : WE) (u : WA) : WA := fun env P R => w env (fun d e => u e (fun ds e2 => P (d :: ds) e2) R) R
theorem pa_nil' : PXA X W [] wNil := ⟨⟨_, pa_nil, fun F env σ G H P R Q hx hs hw hq hk => hq [] env [] G H hw hs (Ex.refl _) .nil⟩⟩
theorem pa_cons' {es : List Expr} {u : WA} (h : PX X W a wa) (g : PXA X W es u) (hs : starEach (a :: es) X.env = (false, eval a X.env) :: starEach es X.env := by rfl) : PXA X W (a :: es) (wCons wa u) := by
  obtain ⟨t, a1, a2⟩ := h.ex
  obtain ⟨t', b1, b2⟩ := g.ex
  refine ⟨⟨_, pa_cons a1 b1 hs, fun F env σ G H P R Q hx hs hw hq hk => a2 F env σ G H _ R _ hx hs hw (fun d e1 v G1 H1 p s1 x1 r1 => ?_) hk⟩⟩
  exact b2 F e1 σ G1 H1 _ R _ hx s1 p (fun ds e2 vs G2 H2 p2 s2 x2 r2 => hq (d :: ds) e2 (v :: vs) G2 H2 p2 s2 (x1.trans x2) (.cons (r1.mono x2) r2)) hk
def wLst (u : WA) : WE := fun env P R => u env (fun ds e => ds.length ≤ sizeLine ∧ P (.lst ds) e) R
def wTup (u : WA) : WE := fun env P R => u env (fun ds e => ds.length ≤ sizeLine ∧ P (.tup ds) e) R
theorem px_lst {es : List Expr} {u : WA} (h : PXA X W es u) : PX X W (.List es pos) (wLst u) := by
  obtain ⟨t, a1, a2⟩ := h.ex
  refine ⟨⟨_, pe_lst a1, fun F env σ G H P R Q hx hs hw hq hk => a2 F env σ G H _ R _ hx hs hw (fun ds e1 vs G1 H1 p s1 x1 r1 => ⟨by rw [r1.length]; exact p.1, fun l hl => ?_⟩) hk⟩⟩
  have po := Post.new1 (o := .lst vs) s1.pre hl
  exact hq _ e1 _ _ _ p.2 (s1.step po) (x1.trans po.ex) (.lst upd_same (r1.mono po.ex))
theorem px_tup {es : List Expr} {u : WA} {x1} (h : PXA X W es u) : PX X W (.Tuple es x1 pos) (wTup u) := by
  obtain ⟨t, a1, a2⟩ := h.ex
  refine ⟨⟨_, pe_tup a1, fun F env σ G H P R Q hx hs hw hq hk => a2 F env σ G H _ R _ hx hs hw (fun ds e1 vs G1 H1 p s1 x1 r1 => ⟨by rw [r1.length]; exact p.1, fun l hl => ?_⟩) hk⟩⟩
  have po := Post.new1 (o := .tup vs) s1.pre hl
  exact hq _ e1 _ _ _ p.2 (s1.step po) (x1.trans po.ex) (.tup (.inl (.inl upd_same)) (r1.mono po.ex))
/-- a built-in call over data -/
abbrev RDA := List D → (D → Prop) → Prop
def RAOk (X : Cx) (r0 : List V → Hp → VK → Prop) (r : RDA) : Prop := ∀ (w : Wd) (G H : Hp) (ds : List D) (vs : List V) (P : D → Prop) (Q : VK), w.K = X.K → w.mg = X.mg → Pre w G H → Reps w G vs ds → r ds P →
  (∀ z v G' H', P z → Post w G H G' H' → Rep w G' v z → Q v H') → r0 vs H Q
def PRA (X : Cx) (f : Value) (r : RDA) : Prop := ∃ r0, CallR X f r0 ∧ RAOk X r0 r
def wCB (r : RDA) (u : WA) : WE := fun env P R => u env (fun ds e => r ds fun z => P z e) R
theorem runA {r0 : List V → Hp → VK → Prop} {r : RDA} (hr : RAOk X r0 r) {t : TA} {u : WA}
    (a2 : ∀ (F : Fc) (env : En) (σ : L2.St) (G H : Hp) (P : List D → En → Prop) (R : QX) (Q : List V → Hp → Prop), XOk X F → SI F env σ G H → u env P R → (∀ ds env' vs G' H', P ds env' → SI F env' σ G' H' → Ex G G' → Reps F.wd G' vs ds → Q vs H') → XK' F W σ R → t σ H Q)
    (F : Fc) (env : En) (σ : L2.St) (G H : Hp) (P : D → En → Prop) (R : QX) (Q : VK) (hx : XOk X F) (hs : SI F env σ G H) (hw : wCB r u env P R) (hq : ∀ d env' v G' H', P d env' → SI F env' σ G' H' → Ex G G' → Rep F.wd G' v d → Q v H') (hk : XK' F W σ R) : tCB r0 t σ H Q :=
  a2 F env σ G H _ R _ hx hs hw (fun ds e1 vs G1 H1 p s1 x1 r1 => hr F.wd G1 H1 ds vs _ Q hx.1 hx.2 s1.pre r1 p fun z v G' H' p' po rz => hq z e1 v G' H' p' (s1.step po) (x1.trans po.ex) rz) hk
theorem px_callB {id : String} {r : RDA} {x : Str} {p : Pos} {e : Expr} {es : List Expr} {u : WA} (hc : PRA X (.builtin id) r) (hg : Gl X x) (hm : X.mg x = none) (hv : bootBuiltins x = some (.builtin id)) (ha : PXA X W (e :: es) u) (hn : x ≠ "__name__" := by decide) (hdb : (x == ("__debug__" : Str)) = false := by decide)
    (he : starEach (e :: es) X.env = (false, eval e X.env) :: starEach es X.env := by rfl) (hpl : (backTo pos (starEach es X.env)).any (·.1) = false := by rfl) : PX X W (.Call (.Name x p) (e :: es) [] pos) (wCB r u) := by
  obtain ⟨r0, h1, h2⟩ := hc
  obtain ⟨t, a1, a2⟩ := ha.ex
  exact ⟨⟨_, pe_callB h1 hg hm hv a1 hn hdb he hpl, runA h2 a2⟩⟩
theorem px_callTy {T : String} {r : RDA} {x : Str} {p : Pos} {e : Expr} {es : List Expr} {u : WA} (hc : PRA X (.type T) r) (hg : Gl X x) (hm : X.mg x = none) (hv : bootBuiltins x = some (.type T)) (ha : PXA X W (e :: es) u) (hn : x ≠ "__name__" := by decide) (hdb : (x == ("__debug__" : Str)) = false := by decide)
    (he : starEach (e :: es) X.env = (false, eval e X.env) :: starEach es X.env := by rfl) (hpl : (backTo pos (starEach es X.env)).any (·.1) = false := by rfl) : PX X W (.Call (.Name x p) (e :: es) [] pos) (wCB r u) := by
  obtain ⟨r0, h1, h2⟩ := hc
  obtain ⟨t, a1, a2⟩ := ha.ex
  exact ⟨⟨_, pe_callTy h1 hg hm hv a1 hn hdb he hpl, runA h2 a2⟩⟩
end
end Pu
set_option maxRecDepth 100000
/-! Rules of the pure layer: operators, built-ins, subscripts over data -/
namespace Pu
open PySem L2

theorem Rep.asInt {w : Wd} {G : Hp} {v : V} {i : Int} (h : Rep w G v (.int i)) : v = .int i := by cases h; rfl
theorem Rep.asStr {w : Wd} {G : Hp} {v : V} {i : Str} (h : Rep w G v (.str i)) : v = .str i := by cases h; rfl
theorem Rep.asBl {w : Wd} {G : Hp} {v : V} {i : Bool} (h : Rep w G v (.bl i)) : v = .bl i := by cases h; rfl
theorem Rep.asNon {w : Wd} {G : Hp} {v : V} (h : Rep w G v .non) : v = .non := by cases h; rfl
theorem Rep.asLst {w : Wd} {G : Hp} {v : V} {l : List D} (h : Rep w G v (.lst l)) : ∃ a vs, v = .ref a ∧ G a = some (.lst vs) ∧ Reps w G vs l := by
  cases h with
  | lst h1 h2 => exact ⟨_, _, rfl, h1, h2⟩
theorem Rep.asTup {w : Wd} {G : Hp} {v : V} {l : List D} (h : Rep w G v (.tup l)) : ∃ a vs, v = .ref a ∧ SqT w.K G a vs ∧ Reps w G vs l := by
  cases h with
  | tup h1 h2 => exact ⟨_, _, rfl, h1, h2⟩

/-! ### arithmetic -/
def rdI (C : Int → Int → Prop) (g : Int → Int → D) : RD2 := fun x y P => match x, y with
  | .int i, .int j => C i j ∧ P (g i j)
  | _, _ => False
theorem rok_I {X : Cx} {C : Int → Int → Prop} {g : Int → Int → Int} : ROk X (rI C fun i j => .int (g i j)) (rdI C fun i j => .int (g i j)) := by
  intro w G H x y vx vy P Q hK hm hp rx ry h hq
  cases x <;> first | exact h.elim | skip
  cases y <;> first | exact h.elim | skip
  cases rx
  cases ry
  exact ⟨_, _, rfl, rfl, h.1, hq _ _ G H h.2 (Post.refl hp) .int⟩
theorem rok_B {X : Cx} {g : Int → Int → Bool} : ROk X (rI0 fun i j => .bl (g i j)) (rdI (fun _ _ => True) fun i j => .bl (g i j)) := by
  intro w G H x y vx vy P Q hK hm hp rx ry h hq
  cases x <;> first | exact h.elim | skip
  cases y <;> first | exact h.elim | skip
  cases rx
  cases ry
  exact ⟨_, _, rfl, rfl, hq _ _ G H h.2 (Post.refl hp) .bl⟩
def rdAdd : RD2 := fun x y P => match x, y with
  | .int i, .int j => P (.int (i + j))
  | .str s, .str t => s.length + t.length ≤ sizeLine ∧ P (.str (s ++ t))
  | .lst a, .lst b => a.length + b.length ≤ sizeLine ∧ P (.lst (a ++ b))
  | .tup a, .tup b => a.length + b.length ≤ sizeLine ∧ P (.tup (a ++ b))
  | _, _ => False
theorem pr_add {X : Cx} : PR2 X (binaryOp .Add) rdAdd := by
  refine ⟨_, OpR.or op_add (OpR.or op_add_str (OpR.or op_cat op_catA)), ?_⟩
  intro w G H x y vx vy P Q hK hm hp rx ry h hq
  cases x <;> first | exact h.elim | skip
  · cases y <;> first | exact h.elim | skip
    cases rx
    cases ry
    exact .inl ⟨_, _, rfl, rfl, hq _ _ G H h (Post.refl hp) .int⟩
  · cases y <;> first | exact h.elim | skip
    cases rx
    cases ry
    exact .inr (.inl ⟨_, _, rfl, rfl, h.1, hq _ _ G H h.2 (Post.refl hp) .str⟩)
  · cases y <;> first | exact h.elim | skip
    cases rx with
    | lst h1 r1 =>
    cases ry with
    | lst h2 r2 =>
    refine .inr (.inr (.inl ⟨_, _, _, _, rfl, rfl, hp.exG _ _ h1, hp.exG _ _ h2, by rw [r1.length, r2.length]; exact h.1, fun p hn => ?_⟩))
    exact hq _ _ _ _ h.2 (Post.new1 hp hn) (.lst upd_same ((r1.append r2).mono (Post.new1 hp hn).ex))
  · cases y <;> first | exact h.elim | skip
    cases rx with
    | tup h1 r1 =>
    cases ry with
    | tup h2 r2 =>
    refine .inr (.inr (.inr ⟨_, _, _, _, rfl, rfl, by rw [← hK]; exact hp.exG.t h1, by rw [← hK]; exact hp.exG.t h2, by rw [r1.length, r2.length]; exact h.1, fun e => ?_, fun _ e => ?_, fun _ _ p hn => ?_⟩))
    · subst e
      cases r1
      exact hq _ _ G H h.2 (Post.refl hp) (.tup h2 r2)
    · subst e
      cases r2
      exact hq _ _ G H h.2 (Post.refl hp) (.tup h1 (by rw [List.append_nil]; exact r1))
    · exact hq _ _ _ _ h.2 (Post.new1 hp hn) (.tup (.inl (.inl upd_same)) ((r1.append r2).mono (Post.new1 hp hn).ex))
theorem pr_sub {X : Cx} : PR2 X (binaryOp .Sub) (rdI (fun _ _ => True) fun i j => .int (i - j)) := by
  refine ⟨_, op_sub, ?_⟩
  intro w G H x y vx vy P Q hK hm hp rx ry h hq
  cases x <;> first | exact h.elim | skip
  cases y <;> first | exact h.elim | skip
  cases rx
  cases ry
  exact ⟨_, _, rfl, rfl, hq _ _ G H h.2 (Post.refl hp) .int⟩
def rdMul : RD2 := fun x y P => match x, y with
  | .int i, .int j => IntMulOk i j ∧ P (.int (i * j))
  | .lst a, .int k => -(2 ^ 63) ≤ k ∧ k < 2 ^ 63 ∧ a.length * k.toNat ≤ sizeLine ∧ P (.lst (List.replicate k.toNat a).flatten)
  | _, _ => False
theorem op_mulF {X : Cx} : OpR X (binaryOp .Mult) (rI IntMulOk fun i j => .int (i * j)) := opI fun _ _ _ _ _ _ _ hc q => PyProof.Rows.mul_int q hc
theorem Reps.rep {w : Wd} {G : Hp} {vs : List V} {ds : List D} (h : Reps w G vs ds) : ∀ k : Nat, Reps w G (List.replicate k vs).flatten (List.replicate k ds).flatten
  | 0 => .nil
  | k + 1 => by
    rw [List.replicate_succ, List.replicate_succ, List.flatten_cons, List.flatten_cons]
    exact h.append (h.rep k)
theorem pr_mul {X : Cx} : PR2 X (binaryOp .Mult) rdMul := by
  refine ⟨_, OpR.or op_mulF op_rep, ?_⟩
  intro w G H x y vx vy P Q hK hm hp rx ry h hq
  cases x <;> first | exact h.elim | skip
  · cases y <;> first | exact h.elim | skip
    cases rx
    cases ry
    exact .inl ⟨_, _, rfl, rfl, h.1, hq _ _ G H h.2 (Post.refl hp) .int⟩
  · cases y <;> first | exact h.elim | skip
    cases rx with
    | lst h1 r1 =>
    cases ry
    refine .inr ⟨_, _, _, rfl, rfl, hp.exG _ _ h1, h.1, h.2.1, by rw [r1.length]; exact h.2.2.1, fun p hn => ?_⟩
    exact hq _ _ _ _ h.2.2.2 (Post.new1 hp hn) (.lst upd_same ((r1.rep _).mono (Post.new1 hp hn).ex))
theorem pr_fdiv {X : Cx} : PR2 X (binaryOp .FloorDiv) (rdI CDivW fun i j => .int (i / j)) := ⟨_, op_fdivW, rok_I⟩
theorem pr_mod {X : Cx} : PR2 X (binaryOp .Mod) (rdI (fun _ j => 0 < j) fun i j => .int (i % j)) := ⟨_, op_mod, rok_I⟩
theorem pr_pow {X : Cx} : PR2 X (binaryOp .Pow) (rdI CPow fun i j => .int (i ^ j.toNat)) := ⟨_, op_pow, rok_I⟩
theorem pr_lt {X : Cx} : PR2 X (compareOp .Lt) (rdI (fun _ _ => True) fun i j => .bl (decide (i < j))) := ⟨_, op_lt, rok_B⟩
theorem pr_le {X : Cx} : PR2 X (compareOp .LtE) (rdI (fun _ _ => True) fun i j => .bl (decide (i ≤ j))) := ⟨_, op_le, rok_B⟩
theorem pr_gt {X : Cx} : PR2 X (compareOp .Gt) (rdI (fun _ _ => True) fun i j => .bl (decide (j < i))) := ⟨_, op_gt, rok_B⟩
theorem pr_ge {X : Cx} : PR2 X (compareOp .GtE) (rdI (fun _ _ => True) fun i j => .bl (decide (j ≤ i))) := ⟨_, op_ge, rok_B⟩

/-! ### == -/
mutual
def toP : D → Option PyData
  | .non => some .none
  | .bl b => some (.bool b)
  | .int i => some (.int i)
  | .str s => some (.str s)
  | .lst l => (toPs l).map .list
  | .tup l => (toPs l).map .tuple
  | _ => none
def toPs : List D → Option (List PyData)
  | [] => some []
  | d :: ds => match toP d, toPs ds with
    | some p, some ps => some (p :: ps)
    | _, _ => none
end
mutual
theorem Rep.dp {w : Wd} {G : Hp} : ∀ {v : V} {d : D} {p : PyData}, Rep w G v d → toP d = some p → Dp w.K G v p
  | _, _, _, .non, e => by cases e; exact .non
  | _, _, _, .bl, e => by cases e; exact .bl _
  | _, _, _, .int, e => by cases e; exact .int _
  | _, _, _, .str, e => by cases e; exact .str _
  | _, .lst l, p, .lst h r, e => by
    unfold toP at e
    cases e2 : toPs l with
    | none => rw [e2] at e; cases e
    | some ps =>
      rw [e2] at e
      cases e
      exact .lst (SqL.of h) (Reps.dp r e2)
  | _, .tup l, p, .tup h r, e => by
    unfold toP at e
    cases e2 : toPs l with
    | none => rw [e2] at e; cases e
    | some ps =>
      rw [e2] at e
      cases e
      exact .tup h (Reps.dp r e2)
  | _, _, _, .bag _, e => by unfold toP at e; cases e
  | _, _, _, .ins _ _ _, e => by unfold toP at e; cases e
theorem Reps.dp {w : Wd} {G : Hp} : ∀ {v : List V} {d : List D} {p : List PyData}, Reps w G v d → toPs d = some p → DpAll w.K G v p
  | _, _, _, .nil, e => by
    unfold toPs at e
    cases e
    exact .nil
  | _, d :: ds, p, .cons h r, e => by
    unfold toPs at e
    cases e1 : toP d with
    | none => rw [e1] at e; cases e
    | some q =>
      cases e2 : toPs ds with
      | none => rw [e1, e2] at e; cases e
      | some qs =>
        rw [e1, e2] at e
        cases e
        exact .cons (Rep.dp h e1) (Reps.dp r e2)
end
mutual
theorem dp_mono {K : PySem.W.Frag} {G H : Hp} (e : Ex G H) : ∀ {v : V} {p : PyData}, Dp K G v p → Dp K H v p
  | _, _, .non => .non
  | _, _, .bl b => .bl b
  | _, _, .int i => .int i
  | _, _, .str s => .str s
  | _, _, .lst h r => .lst (e.l h) (dps_mono e r)
  | _, _, .tup h r => .tup (e.t h) (dps_mono e r)
theorem dps_mono {K : PySem.W.Frag} {G H : Hp} (e : Ex G H) : ∀ {v : List V} {p : List PyData}, DpAll K G v p → DpAll K H v p
  | _, _, .nil => .nil
  | _, _, .cons h r => .cons (dp_mono e h) (dps_mono e r)
end
/-- == of scalars -/
def eqS : D → D → Option Bool
  | .non, .non => some true
  | .non, .int _ => some false | .int _, .non => some false | .non, .bl _ => some false | .bl _, .non => some false | .non, .str _ => some false | .str _, .non => some false
  | .int i, .int j => some (decide (i = j))
  | .bl a, .bl b => some (decide (a = b))
  | .str s, .str t => some (decide (s = t))
  | .int _, .str _ => some false | .str _, .int _ => some false | .bl _, .str _ => some false | .str _, .bl _ => some false
  | _, _ => none
def rdEq : RD2 := fun x y P => match eqS x y with
  | some k => P (.bl k)
  | none => ∃ p q, toP x = some p ∧ toP y = some q ∧ SeqAt.shaped p = true ∧ SeqAt.shaped q = true ∧ P (.bl (PyData.eqv p q))
def rdNe : RD2 := fun x y P => match eqS x y with
  | some k => P (.bl (!k))
  | none => ∃ p q, toP x = some p ∧ toP y = some q ∧ SeqAt.shaped p = true ∧ SeqAt.shaped q = true ∧ P (.bl (!PyData.eqv p q))
theorem eqS_ok {w : Wd} {G : Hp} {x y : D} {vx vy : V} {k : Bool} (rx : Rep w G vx x) (ry : Rep w G vy y) (e : eqS x y = some k) : scal vx vy = true ∧ decide (vx = vy) = k := by
  cases rx <;> cases ry <;> unfold eqS at e <;> first | cases e | skip
  all_goals first
    | exact ⟨rfl, by simp⟩
    | (cases e; exact ⟨rfl, by simp⟩)
    | (cases e; refine ⟨rfl, ?_⟩; simp)
theorem pr_eq {X : Cx} (hu : X.A.units + 64 < cLine) : PR2 X (compareOp .Eq) rdEq := by
  refine ⟨_, OpR.or op_eq (op_eqD hu), ?_⟩
  intro w G H x y vx vy P Q hK hm hp rx ry h hq
  unfold rdEq at h
  cases e : eqS x y with
  | some k =>
    rw [e] at h
    obtain ⟨s, d⟩ := eqS_ok rx ry e
    exact .inl ⟨s, by rw [d]; exact hq _ _ G H h (Post.refl hp) .bl⟩
  | none =>
    rw [e] at h
    obtain ⟨p, q, e1, e2, s1, s2, h⟩ := h
    refine .inr ⟨p, q, ?_, ?_, s1, s2, hq _ _ G H h (Post.refl hp) .bl⟩
    · rw [← hK]
      exact dp_mono hp.exG (rx.dp e1)
    · rw [← hK]
      exact dp_mono hp.exG (ry.dp e2)
theorem pr_ne {X : Cx} (hu : X.A.units + 64 < cLine) : PR2 X (compareOp .NotEq) rdNe := by
  refine ⟨_, OpR.or op_ne (op_neD hu), ?_⟩
  intro w G H x y vx vy P Q hK hm hp rx ry h hq
  unfold rdNe at h
  cases e : eqS x y with
  | some k =>
    rw [e] at h
    obtain ⟨s, d⟩ := eqS_ok rx ry e
    exact .inl ⟨s, by rw [d]; exact hq _ _ G H h (Post.refl hp) .bl⟩
  | none =>
    rw [e] at h
    obtain ⟨p, q, e1, e2, s1, s2, h⟩ := h
    refine .inr ⟨p, q, ?_, ?_, s1, s2, hq _ _ G H h (Post.refl hp) .bl⟩
    · rw [← hK]
      exact dp_mono hp.exG (rx.dp e1)
    · rw [← hK]
      exact dp_mono hp.exG (ry.dp e2)
/-! ### is None -/
def isNon : D → Bool
  | .non => true
  | _ => false
def rdIs : RD2 := fun x y P => match y with
  | .non => P (.bl (isNon x))
  | _ => False
def rdIsNot : RD2 := fun x y P => match y with
  | .non => P (.bl (!isNon x))
  | _ => False
theorem isNon_ok {w : Wd} {G : Hp} {x : D} {vx : V} (rx : Rep w G vx x) : decide (vx = .non) = isNon x := by
  cases rx <;> first | rfl | exact decide_eq_true rfl | exact decide_eq_false (fun z => nomatch z)
theorem pr_is {X : Cx} : PR2 X (compareOp .Is) rdIs := by
  refine ⟨_, op_isN, ?_⟩
  intro w G H x y vx vy P Q hK hm hp rx ry h hq
  cases y <;> first | exact h.elim | skip
  cases ry
  exact ⟨rfl, by rw [isNon_ok rx]; exact hq _ _ G H h (Post.refl hp) .bl⟩
theorem pr_isNot {X : Cx} : PR2 X (compareOp .IsNot) rdIsNot := by
  refine ⟨_, op_notN, ?_⟩
  intro w G H x y vx vy P Q hK hm hp rx ry h hq
  cases y <;> first | exact h.elim | skip
  cases ry
  exact ⟨rfl, by rw [isNon_ok rx]; exact hq _ _ G H h (Post.refl hp) .bl⟩
/-! ### in -/
def flatD : D → Bool
  | .non => true
  | .bl _ => true
  | .int _ => true
  | .str _ => true
  | _ => false
def eqF : D → D → Bool
  | .non, .non => true
  | .bl a, .bl b => a == b
  | .bl a, .int b => (if a then 1 else 0) == b
  | .int a, .bl b => a == (if b then 1 else 0)
  | .int a, .int b => a == b
  | .str a, .str b => a == b
  | _, _ => false
def inD (x : D) (l : List D) : Bool := l.any fun y => eqF y x
theorem flat_ok {w : Wd} {G : Hp} {x : D} {vx : V} (rx : Rep w G vx x) (h : flatD x = true) : flatV vx = true := by
  cases rx <;> first | rfl | cases h
theorem eqF_ok {w : Wd} {G : Hp} {x y : D} {vx vy : V} (rx : Rep w G vx x) (ry : Rep w G vy y) (h1 : flatD x = true) (h2 : flatD y = true) : eqV vx vy = eqF x y := by
  cases rx <;> first | cases h1 | skip
  all_goals (cases ry <;> first | rfl | cases h2)
theorem flats_ok {w : Wd} {G : Hp} : ∀ {l : List D} {vs : List V}, Reps w G vs l → l.all flatD = true → vs.all flatV = true
  | _, _, .nil, _ => rfl
  | _, _, .cons r t, h => by
    rw [List.all_cons, Bool.and_eq_true] at h ⊢
    exact ⟨flat_ok r h.1, flats_ok t h.2⟩
theorem inD_ok {w : Wd} {G : Hp} {x : D} {vx : V} (rx : Rep w G vx x) (h : flatD x = true) : ∀ {l : List D} {vs : List V}, Reps w G vs l → l.all flatD = true → inV vx vs = inD x l
  | _, _, .nil, _ => rfl
  | _, _, .cons r t, hl => by
    rw [List.all_cons, Bool.and_eq_true] at hl
    have e := inD_ok rx h t hl.2
    unfold inV inD at e ⊢
    rw [List.any_cons, List.any_cons, e, eqF_ok r rx hl.1 h]
def rdIn (neg : Bool) : RD2 := fun x y P => match y with
  | .lst l => flatD x = true ∧ l.all flatD = true ∧ P (.bl (if neg then !inD x l else inD x l))
  | .tup l => flatD x = true ∧ l.all flatD = true ∧ P (.bl (if neg then !inD x l else inD x l))
  | .str z => match x with
    | .str ⟨#[c]⟩ => P (.bl (if neg then !decide (c ∈ z.cps.toList) else decide (c ∈ z.cps.toList)))
    | _ => False
  | _ => False
theorem pr_in {X : Cx} : PR2 X (compareOp .In) (rdIn false) := by
  refine ⟨_, OpR.or op_in_seq op_in_sign, ?_⟩
  intro w G H x y vx vy P Q hK hm hp rx ry h hq
  cases y <;> first | exact h.elim | skip
  · cases x <;> first | exact h.elim | skip
    rename_i z s
    obtain ⟨⟨l⟩⟩ := s
    unfold rdIn at h
    match l, h, rx with
    | [c], h, rx =>
      cases rx
      cases ry
      exact .inr ⟨c, z, rfl, rfl, hq _ _ G H h (Post.refl hp) .bl⟩
    | [], h, _ => exact h.elim
    | _ :: _ :: _, h, _ => exact h.elim
  · cases ry with
    | lst h1 r1 =>
    exact .inl ⟨_, _, rfl, .inl (SqL.of (hp.exG _ _ h1)), flat_ok rx h.1, flats_ok r1 h.2.1, by rw [inD_ok rx h.1 r1 h.2.1]; exact hq _ _ G H h.2.2 (Post.refl hp) .bl⟩
  · cases ry with
    | tup h1 r1 =>
    exact .inl ⟨_, _, rfl, .inr (by rw [← hK]; exact hp.exG.t h1), flat_ok rx h.1, flats_ok r1 h.2.1, by rw [inD_ok rx h.1 r1 h.2.1]; exact hq _ _ G H h.2.2 (Post.refl hp) .bl⟩
theorem pr_notIn {X : Cx} : PR2 X (compareOp .NotIn) (rdIn true) := by
  refine ⟨_, OpR.or op_notIn_seq op_notIn_sign, ?_⟩
  intro w G H x y vx vy P Q hK hm hp rx ry h hq
  cases y <;> first | exact h.elim | skip
  · cases x <;> first | exact h.elim | skip
    rename_i z s
    obtain ⟨⟨l⟩⟩ := s
    unfold rdIn at h
    match l, h, rx with
    | [c], h, rx =>
      cases rx
      cases ry
      exact .inr ⟨c, z, rfl, rfl, hq _ _ G H h (Post.refl hp) .bl⟩
    | [], h, _ => exact h.elim
    | _ :: _ :: _, h, _ => exact h.elim
  · cases ry with
    | lst h1 r1 =>
    exact .inl ⟨_, _, rfl, .inl (SqL.of (hp.exG _ _ h1)), flat_ok rx h.1, flats_ok r1 h.2.1, by rw [inD_ok rx h.1 r1 h.2.1]; exact hq _ _ G H h.2.2 (Post.refl hp) .bl⟩
  · cases ry with
    | tup h1 r1 =>
    exact .inl ⟨_, _, rfl, .inr (by rw [← hK]; exact hp.exG.t h1), flat_ok rx h.1, flats_ok r1 h.2.1, by rw [inD_ok rx h.1 r1 h.2.1]; exact hq _ _ G H h.2.2 (Post.refl hp) .bl⟩
/-! ### unary minus -/
def wNeg (w : WE) : WE := fun env P R => w env (fun d e => match d with | .int i => P (.int (-i)) e | _ => False) R
theorem px_neg {X : Cx} {W : WX} {a : Expr} {wa : WE} {pos : Pos} (h : PX X W a wa) : PX X W (.UnaryOp .USub a pos) (wNeg wa) := by
  obtain ⟨t, a1, a2⟩ := h.ex
  refine ⟨⟨_, pe_un un_neg a1, fun F env σ G H P R Q hx hs hw hq hk => a2 F env σ G H _ R _ hx hs hw (fun d e1 v G1 H1 p s1 x1 r1 => ?_) hk⟩⟩
  cases d <;> first | exact p.elim | skip
  cases r1
  exact ⟨_, rfl, hq _ e1 _ G1 H1 p s1 x1 .int⟩
/-! ### built-ins -/
section
variable {X : Cx}
theorem Reps.inv1 {w : Wd} {G : Hp} {vs : List V} {d : D} (h : Reps w G vs [d]) : ∃ v, vs = [v] ∧ Rep w G v d := by
  cases h with
  | cons r t => cases t; exact ⟨_, rfl, r⟩
theorem Reps.inv2 {w : Wd} {G : Hp} {vs : List V} {d e : D} (h : Reps w G vs [d, e]) : ∃ v u, vs = [v, u] ∧ Rep w G v d ∧ Rep w G u e := by
  cases h with
  | cons r t =>
    obtain ⟨u, rfl, r2⟩ := t.inv1
    exact ⟨_, _, rfl, r, r2⟩
def rdLen : RDA := fun ds P => match ds with
  | [.str s] => s.length ≤ sizeLine ∧ P (.int (s.length : Int))
  | [.lst l] => P (.int (l.length : Int))
  | [.tup l] => P (.int (l.length : Int))
  | _ => False
theorem pc_len : PRA X (.builtin "len") rdLen := by
  refine ⟨_, call_len, ?_⟩
  intro w G H ds vs P Q hK hm hp rs h hq
  unfold rdLen at h
  split at h
  · obtain ⟨v, rfl, r⟩ := rs.inv1
    cases r
    exact ⟨_, _, rfl, ⟨h.1, rfl⟩, hq _ _ G H h.2 (Post.refl hp) .int⟩
  · obtain ⟨v, rfl, r⟩ := rs.inv1
    cases r with
    | lst h1 r1 => exact ⟨_, _, rfl, .inl ⟨_, SqL.of (hp.exG _ _ h1), r1.length.symm⟩, hq _ _ G H h (Post.refl hp) .int⟩
  · obtain ⟨v, rfl, r⟩ := rs.inv1
    cases r with
    | tup h1 r1 => exact ⟨_, _, rfl, .inr ⟨_, by rw [← hK]; exact hp.exG.t h1, r1.length.symm⟩, hq _ _ G H h (Post.refl hp) .int⟩
  · exact h.elim
def rdAbs : RDA := fun ds P => match ds with
  | [.int i] => P (.int (if i < 0 then -i else i))
  | _ => False
theorem pc_abs : PRA X (.builtin "abs") rdAbs := by
  refine ⟨_, call_abs, ?_⟩
  intro w G H ds vs P Q hK hm hp rs h hq
  unfold rdAbs at h
  split at h
  · obtain ⟨v, rfl, r⟩ := rs.inv1
    cases r
    exact ⟨_, rfl, hq _ _ G H h (Post.refl hp) .int⟩
  · exact h.elim
theorem CallR.or {f : Value} {r r' : List V → Hp → VK → Prop} (h : CallR X f r) (h' : CallR X f r') : CallR X f (fun xs H Q => r xs H Q ∨ r' xs H Q) := by
  intro pins s σ H xs us Q I rx q
  rcases q with q | q
  · exact h pins s σ H xs us Q I rx q
  · exact h' pins s σ H xs us Q I rx q
def rdInt : RDA := fun ds P => match ds with
  | [.int i] => P (.int i)
  | [.bl k] => P (.int (if k then 1 else 0))
  | [.str s] => ∃ n, PySem.intText? s = some n ∧ s.length ≤ 640 ∧ P (.int n)
  | _ => False
theorem pc_int' : PRA X (.type "int") rdInt := by
  refine ⟨_, CallR.or call_int1 call_int_str, ?_⟩
  intro w G H ds vs P Q hK hm hp rs h hq
  unfold rdInt at h
  split at h
  · obtain ⟨v, rfl, r⟩ := rs.inv1
    cases r
    exact .inl (.inl ⟨_, rfl, hq _ _ G H h (Post.refl hp) .int⟩)
  · obtain ⟨v, rfl, r⟩ := rs.inv1
    cases r
    exact .inl (.inr ⟨_, rfl, hq _ _ G H h (Post.refl hp) .int⟩)
  · obtain ⟨v, rfl, r⟩ := rs.inv1
    cases r
    obtain ⟨n, h1, h2, h3⟩ := h
    exact .inr ⟨_, n, rfl, h1, h2, hq _ _ G H h3 (Post.refl hp) .int⟩
  · exact h.elim
def rdStr : RDA := fun ds P => match ds with
  | [.int i] => i.natAbs.log2 < 1920 ∧ P (.str (toString i))
  | _ => False
theorem pc_str : PRA X (.type "str") rdStr := by
  refine ⟨_, call_str_int, ?_⟩
  intro w G H ds vs P Q hK hm hp rs h hq
  unfold rdStr at h
  split at h
  · obtain ⟨v, rfl, r⟩ := rs.inv1
    cases r
    exact ⟨_, rfl, h.1, hq _ _ G H h.2 (Post.refl hp) .str⟩
  · exact h.elim
def signsD (s : Str) : List D := s.cps.toList.map fun c => .str ⟨#[c]⟩
theorem signs_rep {w : Wd} {G : Hp} : ∀ l : List Nat, Reps w G (l.map fun c => V.str ⟨#[c]⟩) (l.map fun c => D.str ⟨#[c]⟩)
  | [] => .nil
  | _ :: l => .cons .str (signs_rep l)
theorem vals_signs {xs : List V} {us : List Value} (hl : xs.length = us.length) (h : ∀ (i : Nat) (x : V) (u : Value), xs[i]? = some x → us[i]? = some u → RelV x u) : Vals xs us := by
  induction xs generalizing us with
  | nil =>
    cases us with
    | nil => exact .nil
    | cons _ _ => cases hl
  | cons x xs ih =>
    cases us with
    | nil => cases hl
    | cons u us => exact .cons (h 0 x u rfl rfl) (ih (by simpa using hl) fun i y z a b => h (i + 1) y z a b)
theorem call_list_str' (hc : X.calm = true) : CallR X (.type "list") (fun xs H Q => ∃ s, xs = [.str s] ∧ s.cps.size ≤ sizeLine ∧ ∀ l, H l = none → Q (.ref l) (upd H l (.lst (s.cps.toList.map fun c => V.str ⟨#[c]⟩)))) := by
  intro pins s σ H xs us Q I r h
  obtain ⟨z, rfl, hz, q⟩ := h
  obtain ⟨u, rfl, rx⟩ := vals1 r
  obtain ⟨t, rfl⟩ := rx
  refine call_list_str (hn := hz) (I.ok.hd hc) z t fun h' tk acc' c' hk hS' hacc => ?_
  have hn : H s.heap.objs.size = none := I.hok.fresh (Nat.le_refl _)
  refine ⟨.ref s.heap.objs.size, _, I.laid (t' := tk) hk (Nat.le_refl _) ?_, rfl, q _ hn⟩
  refine ⟨by rw [List.length_map]; simpa using hz, acc'.toList, c', vals_signs ?_ ?_, by simpa using hS'⟩
  · rw [List.length_map, Array.length_toList, Array.length_toList, hacc.1]
  · intro i x u e1 e2
    rw [List.getElem?_map] at e1
    cases e3 : z.cps.toList[i]? with
    | none => rw [e3] at e1; cases e1
    | some c =>
      rw [e3] at e1
      cases e1
      have e4 : acc'[i]? = some u := by rw [← Array.getElem?_toList]; exact e2
      obtain ⟨c2, tk2, e5, e6⟩ := hacc.2 i u e4
      rw [← Array.getElem?_toList, e3] at e5
      cases e5
      exact ⟨tk2, e6⟩
def rdList : RDA := fun ds P => match ds with
  | [.lst l] => P (.lst l)
  | [.tup l] => P (.lst l)
  | [.str s] => s.cps.size ≤ sizeLine ∧ P (.lst (signsD s))
  | _ => False
theorem pc_list (hc : X.calm = true) : PRA X (.type "list") rdList := by
  refine ⟨_, CallR.or call_list_of (call_list_str' hc), ?_⟩
  intro w G H ds vs P Q hK hm hp rs h hq
  unfold rdList at h
  split at h
  · obtain ⟨v, rfl, r⟩ := rs.inv1
    cases r with
    | lst h1 r1 =>
      refine .inl ⟨_, _, rfl, .inl (SqL.of (hp.exG _ _ h1)), fun l hl => ?_⟩
      exact hq _ _ _ _ h (Post.new1 hp hl) (.lst upd_same (r1.mono (Post.new1 hp hl).ex))
  · obtain ⟨v, rfl, r⟩ := rs.inv1
    cases r with
    | tup h1 r1 =>
      refine .inl ⟨_, _, rfl, .inr (by rw [← hK]; exact hp.exG.t h1), fun l hl => ?_⟩
      exact hq _ _ _ _ h (Post.new1 hp hl) (.lst upd_same (r1.mono (Post.new1 hp hl).ex))
  · obtain ⟨v, rfl, r⟩ := rs.inv1
    cases r
    refine .inr ⟨_, rfl, h.1, fun l hl => ?_⟩
    exact hq _ _ _ _ h.2 (Post.new1 hp hl) (.lst upd_same (signs_rep _))
  · exact h.elim
def rdTuple : RDA := fun ds P => match ds with
  | [.lst l] => P (.tup l)
  | [.tup l] => P (.tup l)
  | _ => False
theorem pc_tuple : PRA X (.type "tuple") rdTuple := by
  refine ⟨_, call_tuple_of, ?_⟩
  intro w G H ds vs P Q hK hm hp rs h hq
  unfold rdTuple at h
  split at h
  · obtain ⟨v, rfl, r⟩ := rs.inv1
    cases r with
    | lst h1 r1 =>
      refine ⟨_, _, rfl, .inl ⟨SqL.of (hp.exG _ _ h1), fun l hl => ?_⟩⟩
      exact hq _ _ _ _ h (Post.new1 hp hl) (.tup (.inl (.inl upd_same)) (r1.mono (Post.new1 hp hl).ex))
  · obtain ⟨v, rfl, r⟩ := rs.inv1
    cases r with
    | tup h1 r1 => exact ⟨_, _, rfl, .inr ⟨by rw [← hK]; exact hp.exG.t h1, hq _ _ G H h (Post.refl hp) (.tup h1 r1)⟩⟩
  · exact h.elim
/-- a list of bools -/
def bools : List D → Option (List Bool)
  | [] => some []
  | .bl b :: l => (bools l).map (b :: ·)
  | _ :: _ => none
theorem bools_ok {w : Wd} {G : Hp} : ∀ {vs : List V} {l : List D} {bs : List Bool}, Reps w G vs l → bools l = some bs → vs = bs.map V.bl
  | _, _, bs, .nil, e => by cases e; rfl
  | _, .bl b :: l, bs, .cons r t, e => by
    unfold bools at e
    cases e2 : bools l with
    | none => rw [e2] at e; cases e
    | some cs =>
      rw [e2] at e
      cases e
      cases r
      rw [bools_ok t e2]
      rfl
  | _, .non :: l, bs, .cons r t, e => by cases e
  | _, .int _ :: l, bs, .cons r t, e => by cases e
  | _, .str _ :: l, bs, .cons r t, e => by cases e
  | _, .lst _ :: l, bs, .cons r t, e => by cases e
  | _, .tup _ :: l, bs, .cons r t, e => by cases e
  | _, .bag :: l, bs, .cons r t, e => by cases e
  | _, .ins _ _ :: l, bs, .cons r t, e => by cases e
def rdAll : RDA := fun ds P => match ds with
  | [.lst l] => ∃ bs, bools l = some bs ∧ P (.bl (bs.all id))
  | _ => False
def rdAny : RDA := fun ds P => match ds with
  | [.lst l] => ∃ bs, bools l = some bs ∧ P (.bl (bs.any id))
  | _ => False
theorem pc_all (hc : X.calm = true) : PRA X (.builtin "all") rdAll := by
  refine ⟨_, cr_all hc, ?_⟩
  intro w G H ds vs P Q hK hm hp rs h hq
  unfold rdAll at h
  split at h
  · obtain ⟨v, rfl, r⟩ := rs.inv1
    obtain ⟨bs, e, h⟩ := h
    cases r with
    | lst h1 r1 =>
      have e2 := bools_ok r1 e
      subst e2
      exact ⟨_, bs, rfl, SqL.of (hp.exG _ _ h1), hq _ _ G H h (Post.refl hp) .bl⟩
  · exact h.elim
theorem pc_any (hc : X.calm = true) : PRA X (.builtin "any") rdAny := by
  refine ⟨_, cr_any hc, ?_⟩
  intro w G H ds vs P Q hK hm hp rs h hq
  unfold rdAny at h
  split at h
  · obtain ⟨v, rfl, r⟩ := rs.inv1
    obtain ⟨bs, e, h⟩ := h
    cases r with
    | lst h1 r1 =>
      have e2 := bools_ok r1 e
      subst e2
      exact ⟨_, bs, rfl, SqL.of (hp.exG _ _ h1), hq _ _ G H h (Post.refl hp) .bl⟩
  · exact h.elim
end
end Pu
set_option maxRecDepth 100000
/-! Rules of the pure layer: subscripts, walks, comprehensions, statements, calls, defs -/
namespace Pu
open PySem L2

/-! ### the canonical readings -/
def tE (K : PySem.W.Frag) (mg : Str → Option Value) (W : WX) (w : WE) : TE := fun σ H Q => ∃ (F : Fc) (env : En) (G : Hp) (P : D → En → Prop) (R : QX), (F.wd.K = K ∧ F.wd.mg = mg) ∧ SI F env σ G H ∧ w env P R ∧
  (∀ d env' v G' H', P d env' → SI F env' σ G' H' → Ex G G' → Rep F.wd G' v d → Q v H') ∧ XK' F W σ R
def tTs (K : PySem.W.Frag) (mg : Str → Option Value) (W : WX) (w : WT) : TT := fun σ H Q => ∃ (F : Fc) (env : En) (G : Hp) (P : Bool → En → Prop) (R : QX), (F.wd.K = K ∧ F.wd.mg = mg) ∧ SI F env σ G H ∧ w env P R ∧
  (∀ d env' G' H', P d env' → SI F env' σ G' H' → Ex G G' → Q d H') ∧ XK' F W σ R
theorem PX.can {X : Cx} {W : WX} {e : Expr} {w : WE} (h : PX X W e w) : PE X e (tE X.K X.mg W w) := by
  obtain ⟨t, h1, h2⟩ := h.ex
  refine ⟨fun pins s σ H Q I hq => ?_⟩
  obtain ⟨F, env, G, P, R, hx, hs, hw, hk, hr⟩ := hq
  exact h1.run pins s σ H Q I (h2 F env σ G H P R Q hx hs hw hk hr)
theorem PXT.can {X : Cx} {W : WX} {e : Expr} {w : WT} (h : PXT X W e w) : PT X e (tTs X.K X.mg W w) := by
  obtain ⟨t, h1, h2⟩ := h.ex
  refine ⟨fun pins s σ H Q I hq => ?_⟩
  obtain ⟨F, env, G, P, R, hx, hs, hw, hk, hr⟩ := hq
  exact h1.run pins s σ H Q I (h2 F env σ G H P R Q hx hs hw hk hr)

/-! ### subscripts, slices -/
def rdIx : RD2 := fun x i P => match x, i with
  | .lst l, .int k => ∃ d, atI l k = some d ∧ P d
  | .tup l, .int k => ∃ d, atI l k = some d ∧ P d
  | .str s, .int k => s.length ≤ sizeLine ∧ ∃ c, atI s.cps.toList k = some c ∧ P (.str ⟨#[c]⟩)
  | _, _ => False
theorem Reps.atI {w : Wd} {G : Hp} {vs : List V} {ds : List D} {k : Int} {d : D} (h : Reps w G vs ds) (e : atI ds k = some d) : ∃ v, atI vs k = some v ∧ Rep w G v d := by
  unfold L2.atI at e ⊢
  rw [h.length]
  cases e2 : ixN ds.length k with
  | none => rw [e2] at e; cases e
  | some j =>
    rw [e2] at e
    exact h.getD e
section
variable {X : Cx} {W : WX} {a b : Expr} {wa wb : WE} {pos : Pos}
theorem px_ix (ha : PX X W a wa) (hb : PX X W b wb) (hs : PlainIx b) : PX X W (.Subscript a b pos) (wOp rdIx wa wb) := by
  obtain ⟨ta, a1, a2⟩ := ha.ex
  obtain ⟨tb, b1, b2⟩ := hb.ex
  refine ⟨⟨_, pe_ix ix_seq a1 b1 hs, run2 ?_ a2 b2⟩⟩
  intro w G H x y vx vy P Q hK hm hp rx ry h hq
  cases x <;> first | exact h.elim | skip
  · cases y <;> first | exact h.elim | skip
    cases rx
    cases ry
    obtain ⟨h1, c, h2, h3⟩ := h
    exact .inr (.inr ⟨_, _, c, rfl, rfl, h1, h2, hq _ _ G H h3 (Post.refl hp) .str⟩)
  · cases y <;> first | exact h.elim | skip
    cases ry
    obtain ⟨d, h1, h2⟩ := h
    cases rx with
    | lst l1 r1 =>
      obtain ⟨v, e1, r2⟩ := r1.atI h1
      exact .inl ⟨_, _, _, v, rfl, rfl, SqL.of (hp.exG _ _ l1), e1, hq _ _ G H h2 (Post.refl hp) r2⟩
  · cases y <;> first | exact h.elim | skip
    cases ry
    obtain ⟨d, h1, h2⟩ := h
    cases rx with
    | tup l1 r1 =>
      obtain ⟨v, e1, r2⟩ := r1.atI h1
      exact .inr (.inl ⟨_, _, _, v, rfl, rfl, by rw [← hK]; exact hp.exG.t l1, e1, hq _ _ G H h2 (Post.refl hp) r2⟩)
abbrev WO := En → (Option Int → En → Prop) → QX → Prop
structure PXO (X : Cx) (W : WX) (e : Option Expr) (w : WO) : Prop where
  ex : ∃ t, PO X e t ∧ ∀ (F : Fc) (env : En) (σ : L2.St) (G H : Hp) (P : Option Int → En → Prop) (R : QX) (Q : Option Int → Hp → Prop), XOk X F → SI F env σ G H → w env P R →
    (∀ d env' G' H', P d env' → SI F env' σ G' H' → Ex G G' → Q d H') → XK' F W σ R → t σ H Q
def wNoPart : WO := fun env P _ => P none env
def wPart (w : WE) : WO := fun env P R => w env (fun d e => match d with | .int i => P (some i) e | _ => False) R
theorem po_none' : PXO X W none wNoPart := ⟨⟨_, po_none, fun F env σ G H P R Q hx hs hw hq hk => hq _ env G H hw hs (Ex.refl _)⟩⟩
theorem po_some' (h : PX X W a wa) : PXO X W (some a) (wPart wa) := by
  obtain ⟨t, a1, a2⟩ := h.ex
  refine ⟨⟨_, po_some a1, fun F env σ G H P R Q hx hs hw hq hk => a2 F env σ G H _ R _ hx hs hw (fun d e1 v G1 H1 p s1 x1 r1 => ?_) hk⟩⟩
  cases d <;> first | exact p.elim | skip
  cases r1
  exact ⟨_, rfl, hq _ e1 G1 H1 p s1 x1⟩
def cutD {α : Type} (xs : List α) (lo hi : Option Int) : List α := (xs.drop (HT.sIx xs.length 0 lo)).take (HT.sIx xs.length xs.length hi - HT.sIx xs.length 0 lo)
theorem Reps.drop {w : Wd} {G : Hp} : ∀ {vs : List V} {ds : List D} (n : Nat), Reps w G vs ds → Reps w G (vs.drop n) (ds.drop n)
  | _, _, 0, h => h
  | _, _, n + 1, .nil => .nil
  | _, _, n + 1, .cons _ t => t.drop n
theorem Reps.take {w : Wd} {G : Hp} : ∀ {vs : List V} {ds : List D} (n : Nat), Reps w G vs ds → Reps w G (vs.take n) (ds.take n)
  | _, _, 0, h => .nil
  | _, _, n + 1, .nil => .nil
  | _, _, n + 1, .cons r t => .cons r (t.take n)
theorem Reps.cut {w : Wd} {G : Hp} {vs : List V} {ds : List D} (h : Reps w G vs ds) (lo hi : Option Int) : Reps w G (cutV vs lo hi) (cutD ds lo hi) := by
  unfold cutV cutD
  rw [h.length]
  exact (h.drop _).take _
def rdSl (x : D) (lo hi : Option Int) (P : D → Prop) : Prop := match x with
  | .str s => s.length ≤ sizeLine ∧ P (.str (cutS s lo hi))
  | .lst l => P (.lst (cutD l lo hi))
  | .tup l => P (.tup (cutD l lo hi))
  | _ => False
def wSl (w : WE) (wl wh : WO) : WE := fun env P R => w env (fun d e => wl e (fun lo e1 => wh e1 (fun hi e2 => rdSl d lo hi fun z => P z e2) R) R) R
theorem sIx_whole {α : Type} (xs : List α) (lo hi : Option Int) (h : HT.sIx xs.length 0 lo = 0 ∧ HT.sIx xs.length xs.length hi = xs.length) : cutD xs lo hi = xs := by
  unfold cutD
  rw [h.1, h.2, List.drop_zero, Nat.sub_zero, List.take_length]
theorem px_slice {lo hi : Option Expr} {wl wh : WO} {p2 : Pos} (ha : PX X W a wa) (hl : PXO X W lo wl) (hh : PXO X W hi wh) : PX X W (.Subscript a (.Slice lo hi none p2) pos) (wSl wa wl wh) := by
  obtain ⟨ta, a1, a2⟩ := ha.ex
  obtain ⟨tl, l1, l2⟩ := hl.ex
  obtain ⟨th, h1, h2⟩ := hh.ex
  refine ⟨⟨_, pe_slice (sl_str.or (sl_list.or sl_tupA)) a1 l1 h1, fun F env σ G H P R Q hx hs hw hq hk => a2 F env σ G H _ R _ hx hs hw (fun d e1 v G1 H1 p1 s1 x1 r1 => ?_) hk⟩⟩
  refine l2 F e1 σ G1 H1 _ R _ hx s1 p1 (fun lo e2 G2 H2 p2 s2 x2 => h2 F e2 σ G2 H2 _ R _ hx s2 p2 (fun hi e3 G3 H3 p s3 x3 => ?_) hk) hk
  have r3 := r1.mono (x2.trans x3)
  have x0 := (x1.trans x2).trans x3
  unfold rdSl at p
  cases d <;> first | exact p.elim | skip
  · cases r3
    exact .inl ⟨_, rfl, p.1, hq _ e3 _ G3 H3 p.2 s3 x0 .str⟩
  · cases r3 with
    | lst q1 q2 =>
      exact .inr (.inl ⟨_, _, rfl, SqL.of (s3.exG _ _ q1), fun l hl => hq _ e3 _ _ _ p (s3.step (Post.new1 s3.pre hl)) (x0.trans (Post.new1 s3.pre hl).ex) (.lst upd_same ((q2.cut lo hi).mono (Post.new1 s3.pre hl).ex))⟩)
  · cases r3 with
    | tup q1 q2 =>
      refine .inr (.inr ⟨_, _, rfl, by rw [← hx.1]; exact s3.exG.t q1, fun hz => ?_, fun hz l hl => ?_⟩)
      · rw [q2.length] at hz
        have p' : P (.tup (cutD _ lo hi)) e3 := p
        rw [sIx_whole _ lo hi hz] at p'
        exact hq _ e3 _ G3 H3 p' s3 x0 (.tup q1 q2)
      · exact hq _ e3 _ _ _ p (s3.step (Post.new1 s3.pre hl)) (x0.trans (Post.new1 s3.pre hl).ex) (.tup (.inl (.inl upd_same)) ((q2.cut lo hi).mono (Post.new1 s3.pre hl).ex))
/-! ### isinstance -/
def kindD : D → Option String
  | .non => some "NoneType"
  | .bl _ => some "bool"
  | .int _ => some "int"
  | .str _ => some "str"
  | .lst _ => some "list"
  | .tup _ => some "tuple"
  | _ => none
theorem kind_ok {w : Wd} {G H : Hp} {v : V} {d : D} {k : String} (r : Rep w G v d) (e : Ex G H) (h : kindD d = some k) : TyX w.K H v (.type k) := by
  cases r <;> unfold kindD at h <;> first | cases h | skip
  all_goals first
    | exact .base .non
    | exact .base (.bl _)
    | exact .base (.int _)
    | exact .base (.str _)
    | (rename_i h1 _; exact .base (.lst (e _ _ h1)))
    | skip
  rename_i h1 _
  rcases h1 with (h1 | ⟨o, h1⟩) | ⟨o, its, n, h1, h2, _⟩
  · exact .base (.tup (e _ _ h1))
  · exact .fTuple (e _ _ h1)
  · exact .kTuple h1 h2
/-- the built-in types that isinstance asks for -/
inductive TyN where
  | str | int | bool | list | tuple | dict
def TyN.nm : TyN → String
  | .str => "str" | .int => "int" | .bool => "bool" | .list => "list" | .tuple => "tuple" | .dict => "dict"
def isTD : D → TyN → Option Bool
  | .non, _ => some false
  | .bl _, .bool => some true
  | .bl _, .int => some true
  | .bl _, _ => some false
  | .int _, .int => some true
  | .int _, _ => some false
  | .str _, .str => some true
  | .str _, _ => some false
  | .lst _, .list => some true
  | .lst _, _ => some false
  | .tup _, .tuple => some true
  | .tup _, _ => some false
  | _, _ => none
theorem isTD_ok {d : D} {T : TyN} {b : Bool} (h : isTD d T = some b) : ∃ k, kindD d = some k ∧ kitB k T.nm = some b := by
  cases d <;> cases T <;> first | (cases h; done) | skip
  all_goals
    cases h
    refine ⟨_, rfl, ?_⟩
    decide +kernel
/-- isinstance(e, T), T a built-in type -/
def wIsi (T : TyN) (w : WE) : WE := fun env P R => w env (fun d e => match isTD d T with
  | some b => P (.bl b) e
  | none => False) R
theorem px_isi (Tn : TyN) {T : Str} {p p2 : Pos} (hg : Gl X "isinstance") (hm : X.mg "isinstance" = none) (hgT : Gl X T) (hmT : X.mg T = none) (hvT : bootBuiltins T = some (.type Tn.nm)) (ha : PX X W a wa) (hnT : T ≠ "__name__" := by decide) (hdT : (T == ("__debug__" : Str)) = false := by decide)
    (he : starEach (a :: [.Name T p2]) X.env = (false, eval a X.env) :: starEach [.Name T p2] X.env := by rfl) (hpl : (backTo pos (starEach [.Name T p2] X.env)).any (·.1) = false := by rfl) (he2 : starEach [.Name T p2] X.env = (false, eval (.Name T p2) X.env) :: starEach [] X.env := by rfl) :
    PX X W (.Call (.Name "isinstance" p) [a, .Name T p2] [] pos) (wIsi Tn wa) := by
  obtain ⟨t, a1, a2⟩ := ha.ex
  have hT : PE X (.Name T p2) (tC (.ty Tn.nm)) := pe_bltn hgT hmT hvT rfl hnT hdT
  refine ⟨⟨_, pe_callB call_isi hg hm (by decide +kernel) (pa_cons a1 (pa_cons hT pa_nil he2) he) (by decide) (by decide) he hpl, fun F env σ G H P R Q hx hs hw hq hk => a2 F env σ G H _ R _ hx hs hw (fun d e1 v G1 H1 p s1 x1 r1 => ?_) hk⟩⟩
  cases e0 : isTD d Tn with
  | none => rw [e0] at p; exact p.elim
  | some bb =>
    rw [e0] at p
    obtain ⟨k, e, h1⟩ := isTD_ok e0
    have ty := kind_ok r1 s1.exG e
    rw [hx.1] at ty
    exact ⟨v, _, _, _, bb, rfl, .ty _, ty, kit_ty h1, hq _ e1 _ G1 H1 p s1 x1 .bl⟩
/-- isinstance(e, (T, U)) -/
def wIsi2 (T U : TyN) (w : WE) : WE := fun env P R => w env (fun d e => match isTD d T, isTD d U with
  | some b, some c => P (.bl (b || c)) e
  | _, _ => False) R
theorem px_isi2 (Tn Un : TyN) {T U : Str} {p p2 p3 p4 : Pos} {kk} (hg : Gl X "isinstance") (hm : X.mg "isinstance" = none) (hgT : Gl X T) (hmT : X.mg T = none) (hvT : bootBuiltins T = some (.type Tn.nm)) (hgU : Gl X U) (hmU : X.mg U = none) (hvU : bootBuiltins U = some (.type Un.nm)) (ha : PX X W a wa)
    (hnT : T ≠ "__name__" := by decide) (hdT : (T == ("__debug__" : Str)) = false := by decide) (hnU : U ≠ "__name__" := by decide) (hdU : (U == ("__debug__" : Str)) = false := by decide)
    (he : starEach (a :: [.Tuple [.Name T p2, .Name U p3] kk p4]) X.env = (false, eval a X.env) :: starEach [.Tuple [.Name T p2, .Name U p3] kk p4] X.env := by rfl) (hpl : (backTo pos (starEach [.Tuple [.Name T p2, .Name U p3] kk p4] X.env)).any (·.1) = false := by rfl) (he2 : starEach [.Tuple [.Name T p2, .Name U p3] kk p4] X.env = (false, eval (.Tuple [.Name T p2, .Name U p3] kk p4) X.env) :: starEach [] X.env := by rfl)
    (he3 : starEach [.Name T p2, .Name U p3] X.env = (false, eval (.Name T p2) X.env) :: starEach [.Name U p3] X.env := by rfl) (he4 : starEach [.Name U p3] X.env = (false, eval (.Name U p3) X.env) :: starEach [] X.env := by rfl) :
    PX X W (.Call (.Name "isinstance" p) [a, .Tuple [.Name T p2, .Name U p3] kk p4] [] pos) (wIsi2 Tn Un wa) := by
  obtain ⟨t, a1, a2⟩ := ha.ex
  have hT : PE X (.Name T p2) (tC (.ty Tn.nm)) := pe_bltn hgT hmT hvT rfl hnT hdT
  have hU : PE X (.Name U p3) (tC (.ty Un.nm)) := pe_bltn hgU hmU hvU rfl hnU hdU
  refine ⟨⟨_, pe_callB call_isiT hg hm (by decide +kernel) (pa_cons a1 (pa_cons (pe_tup (pa_cons hT (pa_cons hU pa_nil he4) he3)) pa_nil he2) he) (by decide) (by decide) he hpl, fun F env σ G H P R Q hx hs hw hq hk => a2 F env σ G H _ R _ hx hs hw (fun d e1 v G1 H1 p s1 x1 r1 => ?_) hk⟩⟩
  cases e0 : isTD d Tn with
  | none => rw [e0] at p; exact p.elim
  | some bb =>
    cases e2 : isTD d Un with
    | none => rw [e0, e2] at p; exact p.elim
    | some cc =>
    rw [e0, e2] at p
    obtain ⟨k, e, h1⟩ := isTD_ok e0
    obtain ⟨k', e', h3⟩ := isTD_ok e2
    rw [e] at e'
    cases e'
    refine ⟨by show 2 ≤ sizeLine; decide, fun l hl => ?_⟩
    have po := Post.new1 (o := .tup [.ty Tn.nm, .ty Un.nm]) s1.pre hl
    have s2 := s1.step po
    have ty := kind_ok (r1.mono po.ex) s2.exG e
    rw [hx.1] at ty
    refine ⟨v, l, _, _, [.type Tn.nm, .type Un.nm], bb || cc, rfl, upd_same, .cons (.ty _) (.cons (.ty _) .nil), ty, ?_, hq _ e1 _ _ _ p s2 (x1.trans po.ex) .bl⟩
    refine kitAny_cons (kit_ty h1) (fun z => ?_) (fun z => by rw [z]; rfl)
    subst z
    refine kitAny_cons (kit_ty h3) (fun z => ?_) (fun z => by rw [z]; rfl)
    subst z
    rfl
end

/-! ### what is walked -/
structure Wk (F : Fc) (G1 : Hp) (J : It) (ds : List D) : Prop where
  ex : ∃ (Gd : Hp → Prop) (Y : Nat → Hp → V → Hp → Prop), Walk J ds.length Gd Y ∧ (∀ G2 H2, Ex G1 G2 → Ex G2 H2 → Gd H2) ∧
    ∀ i H2 v H3 G2, Y i H2 v H3 → Pre F.wd G2 H2 → Ex G1 G2 → ∃ d G3, ds[i]? = some d ∧ Post F.wd G2 H2 G3 H3 ∧ Rep F.wd G3 v d
structure PXI (X : Cx) (W : WX) (tg iter : Expr) (w : WA) : Prop where
  ex : ∃ wi : TI, PI X tg iter wi ∧ ∀ (F : Fc) (env : En) (σ : L2.St) (G H : Hp) (P : List D → En → Prop) (R : QX) (Rq : It → Hp → Prop), XOk X F → SI F env σ G H → w env P R →
    (∀ ds env' J G' H', P ds env' → SI F env' σ G' H' → Ex G G' → Wk F G' J ds → Rq J H') → XK' F W σ R → wi σ H Rq
def iSeq (K : PySem.W.Frag) (tl : TE) : TI := fun σ H R => tl σ H fun x H1 => (∃ a, x = .ref a ∧ (∃ xs, SqL K H1 a xs) ∧ R (Itl K a) H1) ∨ (∃ a, x = .ref a ∧ (∃ xs, SqT K H1 a xs) ∧ R (Itt K a) H1) ∨ ∃ z, x = .str z ∧ R (Its z) H1
section
variable {X : Cx} {W : WX} {tg : Expr}
/-- an expression that stands for a value which has come -/
theorem pi_seq {l : Expr} {tl : TE} (hl : PE X l tl) : PI X tg l (iSeq X.K tl) := by
  refine ⟨fun pins s σ H R I h => ?_⟩
  refine thn (hl.run pins s σ H _ I h) fun v s1 ⟨x, H1, I1, r1, q1⟩ => ?_
  rcases q1 with ⟨a, e, ⟨xs, hq⟩, q⟩ | ⟨a, e, ⟨xs, hq⟩, q⟩ | ⟨z, e, q⟩
  · subst e
    cases r1
    obtain ⟨its, rv, p, hz⟩ := I1.list hq
    refine wpAny_pyIter_list p.isList ?_
    refine ⟨s1.heap.objs.size, [s1.heap.objs.size], _, _, H1, rfl, I1.kept (t' := s1.toks) fun b o e => Heap.get?_push_of_some _ e, turn_list a _, ⟨_, Heap.get?_push_size _ rfl, rfl, rfl⟩, fun b hb => ?_, q⟩
    have e : b = s1.heap.objs.size := by simpa using hb
    subst e
    exact I1.fpOk (Nat.le_refl _) (I1.hok.fresh (Nat.le_refl _))
  · subst e
    cases r1
    obtain ⟨its, rv, p, hz⟩ := I1.tuple hq
    refine wpAny_pyIter_tuple (show s1.heap.IsTuple a its.toArray from p) ?_
    refine ⟨s1.heap.objs.size, [s1.heap.objs.size], _, _, H1, rfl, I1.kept (t' := s1.toks) fun b o e => Heap.get?_push_of_some _ e, turn_tuple a _, ⟨_, Heap.get?_push_size _ rfl, rfl, rfl⟩, fun b hb => ?_, q⟩
    have e : b = s1.heap.objs.size := by simpa using hb
    subst e
    exact I1.fpOk (Nat.le_refl _) (I1.hok.fresh (Nat.le_refl _))
  · subst e
    obtain ⟨t, rfl⟩ := r1
    cases ha : z.cps.all (· < 128)
    · exact wpAny_pyIter_wide ha (pi_one (tk := s1.toks) I1 _ (turn_str _ z t "str_iterator" (.inr rfl)) ⟨_, Heap.get?_push_size _ rfl, rfl, rfl⟩ q)
    · exact wpAny_pyIter_ascii ha (pi_one (tk := s1.toks) I1 _ (turn_str _ z t "str_ascii_iterator" (.inl rfl)) ⟨_, Heap.get?_push_size _ rfl, rfl, rfl⟩ q)
def rdIt (d : D) (P : List D → Prop) : Prop := match d with
  | .lst l => P l
  | .tup l => P l
  | .str s => P (signsD s)
  | _ => False
def wIt (w : WE) : WA := fun env P R => w env (fun d e => rdIt d fun l => P l e) R
theorem pi_it {e : Expr} {w : WE} (h : PX X W e w) : PXI X W tg e (wIt w) := by
  obtain ⟨t, a1, a2⟩ := h.ex
  refine ⟨⟨_, pi_seq a1, fun F env σ G H P R Rq hx hs hw hq hk => a2 F env σ G H _ R _ hx hs hw (fun d e1 v G1 H1 p s1 x1 r1 => ?_) hk⟩⟩
  unfold rdIt at p
  cases d <;> first | exact p.elim | skip
  · cases r1
    rename_i z
    refine .inr (.inr ⟨z, rfl, hq _ e1 _ G1 H1 p s1 x1 ⟨⟨fun _ => True, fun i H v H' => H' = H ∧ ∃ c, z.cps[i]? = some c ∧ v = .str ⟨#[c]⟩, ?_, fun _ _ _ _ => trivial, fun i H2 v H3 G2 y hp _ => ?_⟩⟩⟩)
    · have q := walk_str (z := z)
      have e : (signsD z).length = z.cps.size := by unfold signsD; rw [List.length_map, Array.length_toList]
      rw [e]
      exact q
    · obtain ⟨rfl, c, hc, rfl⟩ := y
      refine ⟨_, G2, ?_, Post.refl hp, .str⟩
      unfold signsD
      rw [List.getElem?_map, Array.getElem?_toList, hc]
      rfl
  · cases r1 with
    | lst l1 l2 =>
      refine .inl ⟨_, rfl, ⟨_, SqL.of (s1.exG _ _ l1)⟩, hq _ e1 _ G1 H1 p s1 x1 ⟨⟨_, _, by rw [← l2.length]; exact walk_list, fun G2 H2 y1 y2 => SqL.of (y2 _ _ (y1 _ _ l1)), fun i H2 v H3 G2 y hp y1 => ?_⟩⟩⟩
      obtain ⟨rfl, e⟩ := y
      obtain ⟨d, e2, r⟩ := l2.get e
      exact ⟨d, G2, e2, Post.refl hp, r.mono y1⟩
  · cases r1 with
    | tup l1 l2 =>
      refine .inr (.inl ⟨_, rfl, ⟨_, by rw [← hx.1]; exact s1.exG.t l1⟩, hq _ e1 _ G1 H1 p s1 x1 ⟨⟨_, _, by rw [← l2.length]; exact walk_tup, fun G2 H2 y1 y2 => by rw [← hx.1]; exact y2.t (y1.t l1), fun i H2 v H3 G2 y hp y1 => ?_⟩⟩⟩)
      obtain ⟨rfl, e⟩ := y
      obtain ⟨d, e2, r⟩ := l2.get e
      exact ⟨d, G2, e2, Post.refl hp, r.mono y1⟩
def rangeD (lo : Int) (n : Nat) : List D := (List.range n).map fun (i : Nat) => D.int (lo + (i : Int))
theorem range_wk {F : Fc} {G1 : Hp} (lo : Int) (n : Nat) : Wk F G1 (Itr lo n) (rangeD lo n) := by
  have e : (rangeD lo n).length = n := by unfold rangeD; simp
  refine ⟨⟨fun _ => True, fun i H v H' => i < n ∧ H' = H ∧ v = .int (lo + i), ?_, fun _ _ _ _ => trivial, fun i H2 v H3 G2 y hp _ => ?_⟩⟩
  · rw [e]
    exact walk_range.mono (fun _ h => h) fun i H x H' hi _ y => ⟨hi, y⟩
  · obtain ⟨hi, rfl, rfl⟩ := y
    refine ⟨_, G2, ?_, Post.refl hp, .int⟩
    unfold rangeD
    rw [List.getElem?_map, List.getElem?_range hi]
    rfl
def wRng1 (w : WE) : WA := fun env P R => w env (fun d e => match d with | .int j => (-(2 ^ 62) ≤ j ∧ j < 2 ^ 62) ∧ P (rangeD 0 j.toNat) e | _ => False) R
theorem pi_rng1 {a : Expr} {w : WE} {p pos : Pos} (hg : Gl X "range") (hm : X.mg "range" = none) (h : PX X W a w) (hs : starEach [a] X.env = [(false, eval a X.env)] := by rfl) : PXI X W tg (.Call (.Name "range" p) [a] [] pos) (wRng1 w) := by
  obtain ⟨t, a1, a2⟩ := h.ex
  refine ⟨⟨_, pi_range1 hg hm (pa_cons a1 pa_nil hs) hs, fun F env σ G H P R Rq hx hs hw hq hk => a2 F env σ G H _ R _ hx hs hw (fun d e1 v G1 H1 p s1 x1 r1 => ?_) hk⟩⟩
  cases d <;> first | exact p.elim | skip
  cases r1
  exact ⟨_, rfl, p.1.1, p.1.2, hq _ e1 _ G1 H1 p.2 s1 x1 (range_wk 0 _)⟩
def wRng2 (w u : WE) : WA := fun env P R => w env (fun d e => u e (fun d2 e2 => match d, d2 with | .int i, .int j => (-(2 ^ 62) ≤ i ∧ i < 2 ^ 62 ∧ -(2 ^ 62) ≤ j ∧ j < 2 ^ 62) ∧ P (rangeD i (j - i).toNat) e2 | _, _ => False) R) R
theorem pi_rng2 {a b : Expr} {w u : WE} {p pos : Pos} (hg : Gl X "range") (hm : X.mg "range" = none) (h : PX X W a w) (h' : PX X W b u) (hs : starEach [a, b] X.env = [(false, eval a X.env), (false, eval b X.env)] := by rfl) (hs2 : starEach [b] X.env = [(false, eval b X.env)] := by rfl)
    (hs1 : starEach (a :: [b]) X.env = (false, eval a X.env) :: starEach [b] X.env := by rfl) : PXI X W tg (.Call (.Name "range" p) [a, b] [] pos) (wRng2 w u) := by
  obtain ⟨t, a1, a2⟩ := h.ex
  obtain ⟨t', b1, b2⟩ := h'.ex
  refine ⟨⟨_, pi_range2 hg hm (pa_cons a1 (pa_cons b1 pa_nil hs2) hs1) hs hs2, fun F env σ G H P R Rq hx hs hw hq hk => a2 F env σ G H _ R _ hx hs hw (fun d e1 v G1 H1 p s1 x1 r1 => b2 F e1 σ G1 H1 _ R _ hx s1 p (fun d2 e2 v2 G2 H2 p2 s2 x2 r2 => ?_) hk) hk⟩⟩
  cases d <;> first | exact p2.elim | skip
  cases d2 <;> first | exact p2.elim | skip
  cases r1
  cases r2
  exact ⟨_, _, rfl, p2.1, hq _ e2 _ G2 H2 p2.2 s2 (x1.trans x2) (range_wk _ _)⟩

/-! ### targets -/
abbrev WG := D → En → (En → Prop) → Prop
structure PXG (X : Cx) (tg : Expr) (own : List Nat) (w : WG) : Prop where
  ex : ∃ g : TG, PG X tg g ∧ ∀ (F : Fc) (env : En) (σ : L2.St) (G H : Hp) (v : V) (d : D) (P : En → Prop) (Q : L2.St → Hp → Prop), XOk X F → SI F env σ G H → Rep F.wd G v d → w d env P →
    (∀ env' σ', P env' → SI F env' σ' G H → (∀ vs : List Nat, (∀ i ∈ own, i ∈ vs) → wipe σ' vs = wipe σ vs) → Q σ' H) → g v σ H Q
def tG (K : PySem.W.Frag) (mg : Str → Option Value) (own : List Nat) (w : WG) : TG := fun v σ H Q => ∃ (F : Fc) (env : En) (G : Hp) (d : D) (P : En → Prop), (F.wd.K = K ∧ F.wd.mg = mg) ∧ SI F env σ G H ∧ Rep F.wd G v d ∧ w d env P ∧
  ∀ env' σ', P env' → SI F env' σ' G H → (∀ vs : List Nat, (∀ i ∈ own, i ∈ vs) → wipe σ' vs = wipe σ vs) → Q σ' H
theorem PXG.can {own : List Nat} {w : WG} (h : PXG X tg own w) : PG X tg (tG X.K X.mg own w) := by
  obtain ⟨g, h1, h2⟩ := h.ex
  refine ⟨fun pins s σ H v u Q I r hq => ?_⟩
  obtain ⟨F, env, G, d, P, hx, hs, hr, hw, hk⟩ := hq
  exact h1.run pins s σ H v u Q I r (h2 F env σ G H v d P Q hx hs hr hw hk)
theorem wipe_set {σ : L2.St} {i : Nat} {x : Option V} : ∀ {vs : List Nat}, i ∈ vs → wipe (σ.set i x) vs = wipe σ vs
  | [], h => by cases h
  | v :: vs, h => by
    unfold wipe
    by_cases hv : i ∈ vs
    · rw [wipe_set hv]
    · have e : i = v := by
        rcases List.mem_cons.mp h with z | z
        · exact z
        · exact absurd z hv
      subst e
      have cm : ∀ (us : List Nat), i ∉ us → wipe (σ.set i x) us = (wipe σ us).set i x := by
        intro us
        induction us with
        | nil => intro _; rfl
        | cons u us ih =>
          intro hu
          have hu1 : i ≠ u := fun z => hu (by rw [z]; exact List.mem_cons_self)
          have hu2 : i ∉ us := fun z => hu (List.mem_cons_of_mem _ z)
          unfold wipe
          rw [ih hu2, List.set_comm _ _ hu1]
      rw [cm vs hv, List.set_set]
def wgName (i : Nat) : WG := fun d env P => P (env.set i (.v d))
theorem pg_name' {i : Nat} {x : Str} {pos : Pos} (h : PG X (.Name x pos) (gName i)) : PXG X (.Name x pos) [i] (wgName i) :=
  ⟨⟨_, h, fun F env σ G H v d P Q hx hs hr hw hq => hq _ _ hw (hs.set hr) fun vs hvs => wipe_set (hvs i (by simp))⟩⟩
/-- a tuple of two names -/
def wgTup2 (g1 g2 : WG) : WG := fun d env P => match d with
  | .tup [d1, d2] => g1 d1 env fun e1 => g2 d2 e1 P
  | _ => False
theorem pg_tup2 {a b : Expr} {g1 g2 : WG} {o1 o2 : List Nat} {kk pos} (hc : X.calm = true) (h1 : PXG X a o1 g1) (h2 : PXG X b o2 g2) (hn : (assignEach [a, b] X.env).length = 2 := by rfl) (hst : (assignEach [a, b] X.env).findIdx? (·.1) = none := by rfl)
    (hs1 : (assignEach (a :: [b]) X.env).map (·.2) = assign a X.env :: (assignEach [b] X.env).map (·.2) := by rfl) (hs2 : (assignEach (b :: []) X.env).map (·.2) = assign b X.env :: (assignEach [] X.env).map (·.2) := by rfl) : PXG X (.Tuple [a, b] kk pos) (o1 ++ o2) (wgTup2 g1 g2) := by
  obtain ⟨t1, a1, a2⟩ := h1.ex
  obtain ⟨t2, b1, b2⟩ := h2.ex
  refine ⟨⟨_, pg_tup hc (pgs_cons a1 (pgs_cons b1 pgs_nil hs2) hs1) hn hst, fun F env σ G H v d P Q hx hs hr hw hq => ?_⟩⟩
  unfold wgTup2 at hw
  split at hw
  · rename_i d1 d2
    cases hr with
    | tup l1 l2 =>
      obtain ⟨v1, v2, rfl, r1, r2⟩ := l2.inv2
      refine ⟨_, _, rfl, by rw [← hx.1]; exact hs.exG.t l1, rfl, v1, _, rfl, ?_⟩
      refine a2 F env σ G H v1 d1 _ _ hx hs r1 hw fun e1 σ1 p1 s1 w1 => ⟨v2, _, rfl, ?_⟩
      refine b2 F e1 σ1 G H v2 d2 _ _ hx s1 r2 p1 fun e2 σ2 p2 s2 w2 => ⟨rfl, ?_⟩
      exact hq e2 σ2 p2 s2 fun vs hvs => by rw [w2 vs fun i hi => hvs i (List.mem_append_right _ hi), w1 vs fun i hi => hvs i (List.mem_append_left _ hi)]
  · exact hw.elim
end
end Pu
set_option maxRecDepth 100000
/-! Rules of the pure layer: comprehensions, statements, loops, calls, defs -/
namespace Pu
open PySem L2

/-! ### list comprehensions -/
def wipeE (env : En) : List Nat → En
  | [] => env
  | v :: vs => (wipeE env vs).set v .no
theorem SI.wipe {F : Fc} {env : En} {σ : L2.St} {G H : Hp} (h : SI F env σ G H) : ∀ vs : List Nat, SI F (wipeE env vs) (L2.wipe σ vs) G H
  | [] => h
  | v :: vs => (h.wipe vs).forget
/-- behind the block: the block's own names hold what they held (a value), or are forgotten -/
def backE (e0 e : En) : List Nat → En
  | [] => e
  | v :: vs => (backE e0 e vs).set v (match e0[v]? with | some (.v d) => .v d | _ => .no)
def wLcL (g : WG) (wt : WT) (we : WE) (own : List Nat) : List D → List D → En → (List D → En → Prop) → Prop
  | [], acc, env, P => P acc env
  | x :: xs, acc, env, P => g x (wipeE env own) fun e1 => wt e1 (fun k e2 => match k with
    | true => we e2 (fun d e3 => wLcL g wt we own xs (acc ++ [d]) e3 P) fun _ _ => False
    | false => wLcL g wt we own xs acc e2 P) fun _ _ => False
def wLc (own : List Nat) (wi : WA) (g : WG) (wt : WT) (we : WE) : WE := fun env P R => wi env (fun ds e1 => ds.length ≤ 100000 ∧ wLcL g wt we own ds [] e1 fun acc e2 => P (.lst acc) (backE e1 e2 own)) R
/-- no test -/
def wYes : WT := fun env P _ => P true env
structure PXTs (X : Cx) (ifs : List Expr) (w : WT) : Prop where
  ex : PTs X ifs (tTs X.K X.mg (fun _ _ _ _ => False) w)
abbrev W0 : WX := fun _ _ _ _ => False
section
variable {X : Cx} {W : WX}
theorem pts_nil' : PXTs X [] wYes := by
  refine ⟨⟨fun pins s σ H Q I hq => ?_⟩⟩
  obtain ⟨F, env, G, P, R, hx, hs, hw, hk, hr⟩ := hq
  exact (pts_nil (X := X)).run pins s σ H Q I (hk true env G H hw hs (Ex.refl _))
theorem pts_one' {c : Expr} {w : WT} (h : PXT X W0 c w) : PXTs X [c] w := ⟨pts_one h.can⟩

theorem SI.mkPin {F : Fc} {env : En} {σ : L2.St} {G H : Hp} {a : Addr} {o : HO} (h : SI F env σ G H) (hn : H a = none) : SI { F with pins := (a, o) :: F.pins } env σ G (upd H a o) := by
  have h0 : F.H0 a = none := by
    cases e : F.H0 a with
    | none => rfl
    | some u =>
      by_cases hb : F.wd.b = some a
      · exact absurd hn (h.post.bag a hb).2.1
      · rw [h.post.keep a u hb e] at hn
        cases hn
  have g0 : G a = none := h.exG.back hn
  refine ⟨h.pre0, ⟨h.post.ex, fun x u hx => ?_, fun x u nb hx => ?_, fun x hx => ?_, fun β hβ => ?_⟩, h.len, fun i s e => ?_, h.ap, fun p hp => ?_⟩
  · rw [upd_ne (ne_of_none hx g0)]
    exact h.exG _ _ hx
  · rw [upd_ne (ne_of_none hx h0)]
    exact h.post.keep _ _ nb hx
  · exact h.post.new x hx
  · obtain ⟨b1, b2, b3⟩ := h.post.bag β hβ
    have ne : β ≠ a := fun z => by
      rw [z] at b2
      exact b2 hn
    exact ⟨b1, by rw [upd_ne ne]; exact b2, b3.mono (Ex.refl _) (upd_ne ne)⟩
  · have q := h.sl i s e
    cases s with
    | no => trivial
    | v d => exact q
    | ol l =>
      obtain ⟨b, vs, h1, h2, h3, h4, h5⟩ := q
      exact ⟨b, vs, h1, h2, h3, by rw [upd_ne (ne_of_none h4 hn)]; exact h4, h5⟩
  · rcases List.mem_cons.mp hp with z | z
    · subst z
      refine ⟨upd_same, g0, h0, fun i l e q => ?_⟩
      obtain ⟨b, vs, h1, h2, h3, h4, h5⟩ := h.sl i _ e
      rw [q] at h1
      cases h1
      rw [h4] at hn
      cases hn
    · obtain ⟨h1, h2, h3, h4⟩ := h.pin p z
      exact ⟨by rw [upd_ne (ne_of_none h1 hn)]; exact h1, h2, h3, h4⟩
/-- the pinned object becomes another one -/
theorem SI.rePin {F : Fc} {env : En} {σ : L2.St} {G H : Hp} {a : Addr} {o o' : HO} (h : SI { F with pins := (a, o) :: F.pins } env σ G H) (hd : ∀ p ∈ F.pins, p.1 ≠ a) : SI { F with pins := (a, o') :: F.pins } env σ G (upd H a o') := by
  obtain ⟨q1, q2, q3, q4⟩ := h.pin (a, o) List.mem_cons_self
  have na : ∀ x u, G x = some u → x ≠ a := fun x u hx => ne_of_none hx q2
  refine ⟨h.pre0, ⟨h.post.ex, fun x u hx => ?_, fun x u nb hx => ?_, fun x hx => h.post.new x hx, fun β hβ => ?_⟩, h.len, fun i s e => ?_, h.ap, fun p hp => ?_⟩
  · rw [upd_ne (na x u hx)]
    exact h.exG _ _ hx
  · rw [upd_ne (ne_of_none hx q3)]
    exact h.post.keep _ _ nb hx
  · obtain ⟨b1, b2, b3⟩ := h.post.bag β hβ
    have ne : β ≠ a := fun z => by
      rw [z] at hβ
      exact (h.pre0.bag a hβ).2.1 q3
    exact ⟨b1, by rw [upd_ne ne]; exact b2, b3.mono (Ex.refl _) (upd_ne ne)⟩
  · have q := h.sl i s e
    cases s with
    | no => trivial
    | v d => exact q
    | ol l =>
      obtain ⟨b, vs, h1, h2, h3, h4, h5⟩ := q
      have ne : b ≠ a := fun z => by
        rw [z] at h1
        exact q4 i l e h1
      exact ⟨b, vs, h1, h2, h3, by rw [upd_ne ne]; exact h4, h5⟩
  · rcases List.mem_cons.mp hp with z | z
    · subst z
      exact ⟨upd_same, q2, q3, q4⟩
    · obtain ⟨h1, h2, h3, h4⟩ := h.pin p (List.mem_cons_of_mem _ z)
      exact ⟨by rw [upd_ne (hd p z)]; exact h1, h2, h3, h4⟩
/-- the pinned object is settled -/
theorem SI.unPin {F : Fc} {env : En} {σ : L2.St} {G H : Hp} {a : Addr} {o : HO} (h : SI { F with pins := (a, o) :: F.pins } env σ G H) (hd : ∀ p ∈ F.pins, p.1 ≠ a) : Ex G (upd G a o) ∧ SI F env σ (upd G a o) H := by
  obtain ⟨q1, q2, q3, q4⟩ := h.pin (a, o) List.mem_cons_self
  have e1 : Ex G (upd G a o) := fun x u hx => by
    rw [upd_ne (ne_of_none hx q2)]
    exact hx
  refine ⟨e1, h.pre0, ⟨h.post.ex.trans e1, fun x u hx => ?_, h.post.keep, fun x hx => ?_, fun β hβ => ?_⟩, h.len, fun i s e => ?_, h.ap, fun p hp => ?_⟩
  · by_cases z : x = a
    · subst z
      rw [upd_same] at hx
      cases hx
      exact q1
    · rw [upd_ne z] at hx
      exact h.exG _ _ hx
  · by_cases z : x = a
    · exact .inr (by rw [z]; exact q3)
    · rw [upd_ne z] at hx
      exact h.post.new x hx
  · obtain ⟨b1, b2, b3⟩ := h.post.bag β hβ
    have ne : β ≠ a := fun z => by
      rw [z] at hβ
      exact (h.pre0.bag a hβ).2.1 q3
    exact ⟨by rw [upd_ne ne]; exact b1, b2, b3.mono e1 rfl⟩
  · have q := h.sl i s e
    cases s with
    | no => trivial
    | v d =>
      obtain ⟨v, h1, h2⟩ := q
      exact ⟨v, h1, h2.mono e1⟩
    | ol l =>
      obtain ⟨b, vs, h1, h2, h3, h4, h5⟩ := q
      have ne : b ≠ a := fun z => by
        rw [z] at h1
        exact q4 i l e h1
      exact ⟨b, vs, h1, h2, by rw [upd_ne ne]; exact h3, h4, h5.mono e1⟩
  · obtain ⟨h1, h2, h3, h4⟩ := h.pin p (List.mem_cons_of_mem _ hp)
    exact ⟨h1, by rw [upd_ne (hd p hp)]; exact h2, h3, h4⟩
theorem back_si {F : Fc} {e0 e : En} {σ : L2.St} {G0 H0 G H : Hp} (h0 : SI F e0 σ G0 H0) (x : Ex G0 G) : ∀ {vs : List Nat}, SI F e (L2.wipe σ vs) G H → ∃ σ', (∀ i, i ∉ vs → σ'[i]? = (L2.wipe σ vs)[i]?) ∧ σ'.length = σ.length ∧ (∀ i ∈ vs, σ'[i]? = σ[i]?) ∧ SI F (backE e0 e vs) σ' G H := by
  intro vs h
  have main : ∀ us : List Nat, ∃ σ', (∀ i, i ∉ us → σ'[i]? = (L2.wipe σ vs)[i]?) ∧ σ'.length = σ.length ∧ (∀ i ∈ us, σ'[i]? = σ[i]?) ∧ SI F (backE e0 e us) σ' G H := by
    intro us
    induction us with
    | nil => exact ⟨L2.wipe σ vs, fun _ _ => rfl, wipe_length _ _, fun i hi => by (cases hi), h⟩
    | cons u us ih =>
      obtain ⟨σ', h1, h2, h3, h4⟩ := ih
      have hget : ∀ x : Option V, σ[u]? = some x → ∀ i ∈ u :: us, (σ'.set u x)[i]? = σ[i]? := fun x ex i hi => by
        by_cases z : u = i
        · subst z
          have hl : u < σ'.length := by rw [h2]; exact (List.getElem?_eq_some_iff.mp ex).1
          rw [List.getElem?_set, if_pos rfl, if_pos hl, ex]
        · rw [List.getElem?_set_ne z]
          exact h3 i (by rcases List.mem_cons.mp hi with q | q; · exact absurd q.symm z
                         · exact q)
      have hout : ∀ x : Option V, ∀ i, i ∉ u :: us → (σ'.set u x)[i]? = (L2.wipe σ vs)[i]? := fun x i hi => by
        have z1 : u ≠ i := fun z => hi (by rw [z]; exact List.mem_cons_self)
        have z2 : i ∉ us := fun z => hi (List.mem_cons_of_mem _ z)
        rw [List.getElem?_set_ne z1]
        exact h1 i z2
      cases eu : σ[u]? with
      | none =>
        have hl : ¬ u < σ.length := fun z => by
          rw [List.getElem?_eq_getElem z] at eu
          cases eu
        refine ⟨σ'.set u none, hout none, by rw [List.length_set]; exact h2, fun i hi => ?_, ?_⟩
        · by_cases z : u = i
          · subst z
            rw [List.getElem?_set, if_pos rfl, if_neg (by rw [h2]; exact hl), eu]
          · rw [List.getElem?_set_ne z]
            exact h3 i (by rcases List.mem_cons.mp hi with q | q; · exact absurd q.symm z
                           · exact q)
        · show SI F ((backE e0 e us).set u _) _ G H
          have e1 : e0[u]? = none := List.getElem?_eq_none (by rw [h0.len]; exact Nat.le_of_not_lt hl)
          rw [e1]
          exact h4.forget
      | some x =>
        refine ⟨σ'.set u x, hout x, by rw [List.length_set]; exact h2, hget x eu, ?_⟩
        show SI F ((backE e0 e us).set u _) _ G H
        cases ee : e0[u]? with
        | none => exact h4.forget
        | some s =>
          cases s with
          | no => exact h4.forget
          | ol l => exact h4.forget
          | v d =>
            obtain ⟨v, q1, q2⟩ := h0.sl u _ ee
            rw [eu] at q1
            cases q1
            exact h4.set (q2.mono x)
  exact main vs
theorem ext_get {σ σ' : L2.St} (h : ∀ i : Nat, σ[i]? = σ'[i]?) : σ = σ' := List.ext_getElem? h
theorem wipe_out' {σ : L2.St} {i : Nat} {vs : List Nat} (h : i ∉ vs) : (L2.wipe σ vs)[i]? = σ[i]? := wipe_out h

theorem wipeE_length (e : En) : ∀ us : List Nat, (wipeE e us).length = e.length
  | [] => rfl
  | u :: us => by unfold wipeE; rw [List.length_set, wipeE_length e us]
theorem wipeE_out (e : En) : ∀ (us : List Nat) (i : Nat), i ∉ us → (wipeE e us)[i]? = e[i]?
  | [], i, _ => rfl
  | u :: us, i, hi => by
    unfold wipeE
    rw [List.getElem?_set_ne (fun z => hi (by rw [z]; exact List.mem_cons_self))]
    exact wipeE_out e us i fun z => hi (List.mem_cons_of_mem _ z)
theorem set_get_idem {α : Type} {a : List α} {c : α} : ∀ {u : Nat}, (∀ s, a[u]? = some s → s = c) → a.set u c = a := fun {u} ha => by
  apply List.ext_getElem?
  intro i
  rw [List.getElem?_set]
  by_cases z : u = i
  · subst z
    rw [if_pos rfl]
    by_cases hl : u < a.length
    · rw [if_pos hl, List.getElem?_eq_getElem hl, ha _ (List.getElem?_eq_getElem hl)]
    · rw [if_neg hl, List.getElem?_eq_none (Nat.le_of_not_lt hl)]
  · rw [if_neg z]
theorem mem_tail {i u : Nat} {us : List Nat} (hi : i ∈ u :: us) (z : ¬ u = i) : i ∈ us := by
  rcases List.mem_cons.mp hi with q | q
  · exact absurd q.symm z
  · exact q
theorem wipeE_no (e : En) : ∀ (us : List Nat) (i : Nat), i ∈ us → ∀ s, (wipeE e us)[i]? = some s → s = .no
  | [], i, hi => by cases hi
  | u :: us, i, hi => fun s q => by
    unfold wipeE at q
    rw [List.getElem?_set] at q
    by_cases z : u = i
    · rw [if_pos z] at q
      split at q
      · exact (Option.some.inj q).symm
      · cases q
    · rw [if_neg z] at q
      exact wipeE_no e us i (mem_tail hi z) s q
theorem wipeE_fix : ∀ (us : List Nat) (a : En), (∀ i ∈ us, ∀ s, a[i]? = some s → s = .no) → wipeE a us = a
  | [], a, _ => rfl
  | u :: us, a, ha => by
    unfold wipeE
    rw [wipeE_fix us a fun i hi => ha i (List.mem_cons_of_mem _ hi)]
    exact set_get_idem (ha u List.mem_cons_self)
theorem wipeE_idem (e : En) (us : List Nat) : wipeE (wipeE e us) us = wipeE e us := wipeE_fix us _ (wipeE_no e us)
theorem wipe_no (e : L2.St) : ∀ (us : List Nat) (i : Nat), i ∈ us → ∀ s, (L2.wipe e us)[i]? = some s → s = none
  | [], i, hi => by cases hi
  | u :: us, i, hi => fun s q => by
    unfold L2.wipe at q
    rw [List.getElem?_set] at q
    by_cases z : u = i
    · rw [if_pos z] at q
      split at q
      · exact (Option.some.inj q).symm
      · cases q
    · rw [if_neg z] at q
      exact wipe_no e us i (mem_tail hi z) s q
theorem wipe_fix : ∀ (us : List Nat) (a : L2.St), (∀ i ∈ us, ∀ s, a[i]? = some s → s = none) → L2.wipe a us = a
  | [], a, _ => rfl
  | u :: us, a, ha => by
    unfold L2.wipe
    rw [wipe_fix us a fun i hi => ha i (List.mem_cons_of_mem _ hi)]
    exact set_get_idem (ha u List.mem_cons_self)
theorem wipe_idem (e : L2.St) (us : List Nat) : L2.wipe (L2.wipe e us) us = L2.wipe e us := wipe_fix us _ (wipe_no e us)
theorem backE_length (e1 a : En) : ∀ us : List Nat, (backE e1 a us).length = a.length
  | [] => rfl
  | u :: us => by unfold backE; rw [List.length_set, backE_length e1 a us]
theorem backE_out (e1 a : En) : ∀ (us : List Nat) (i : Nat), i ∉ us → (backE e1 a us)[i]? = a[i]?
  | [], i, _ => rfl
  | u :: us, i, hi => by
    unfold backE
    rw [List.getElem?_set_ne (fun z => hi (by rw [z]; exact List.mem_cons_self))]
    exact backE_out e1 a us i fun z => hi (List.mem_cons_of_mem _ z)
theorem backE_in (e1 a b : En) (hl : a.length = b.length) : ∀ (us : List Nat) (i : Nat), i ∈ us → (backE e1 a us)[i]? = (backE e1 b us)[i]?
  | [], i, hi => by cases hi
  | u :: us, i, hi => by
    unfold backE
    rw [List.getElem?_set, List.getElem?_set]
    by_cases z : u = i
    · rw [if_pos z, if_pos z, backE_length, backE_length, hl]
    · rw [if_neg z, if_neg z]
      exact backE_in e1 a b hl us i (mem_tail hi z)
theorem backE_wipe (e1 e : En) (us : List Nat) : backE e1 (wipeE e us) us = backE e1 e us := by
  apply List.ext_getElem?
  intro i
  by_cases hi : i ∈ us
  · exact backE_in e1 _ _ (wipeE_length e us) us i hi
  · rw [backE_out _ _ _ _ hi, backE_out _ _ _ _ hi, wipeE_out e us i hi]
theorem lcL_wipe {g : WG} {wt : WT} {we : WE} {vs : List Nat} {e : En} {l acc : List D} {P' : List D → En → Prop} (h : ∀ e, P' acc e → P' acc (wipeE e vs)) (q : wLcL g wt we vs l acc e P') : wLcL g wt we vs l acc (wipeE e vs) P' := by
  cases l with
  | nil => exact h _ q
  | cons y l =>
    show g y (wipeE (wipeE e vs) vs) _
    rw [wipeE_idem]
    exact q
theorem lc_run {tg iter : Expr} {K : PySem.W.Frag} {mg : Str → Option Value} {vs og : List Nat} {wi : WA} {g : WG} {wt : WT} {we : WE} {ti : TI} (hXK : X.K = K) (hXm : X.mg = mg) (hog : ∀ i ∈ og, i ∈ vs)
    (i2 : ∀ (F : Fc) (env : En) (σ : L2.St) (G H : Hp) (P : List D → En → Prop) (R : QX) (Rq : It → Hp → Prop), XOk X F → SI F env σ G H → wi env P R →
    (∀ ds env' J G' H', P ds env' → SI F env' σ G' H' → Ex G G' → Wk F G' J ds → Rq J H') → XK' F W σ R → ti σ H Rq)
    (F : Fc) (env : En) (σ : L2.St) (G H : Hp) (P : D → En → Prop) (R : QX) (Q : VK) (hx : XOk X F) (hs : SI F env σ G H) (hw : wLc vs wi g wt we env P R) (hq : ∀ d env' v G' H', P d env' → SI F env' σ G' H' → Ex G G' → Rep F.wd G' v d → Q v H') (hk : XK' F W σ R) :
    tLc ti (tG K mg og g) (tTs K mg W0 wt) (tE K mg W0 we) vs σ H Q := by
  subst hXK hXm
  refine i2 F env σ G H _ R _ hx hs hw (fun ds e1 J G1 H1 p1 s1 x1 wk => ?_) hk
  obtain ⟨hlen, p1⟩ := p1
  obtain ⟨Gd, Y, w1, w2, w3⟩ := wk.ex
  intro Dl hD
  have hpd : ∀ p ∈ F.pins, p.1 ≠ Dl := fun p hp z => by
    obtain ⟨h1, _⟩ := s1.pin p hp
    rw [z, hD] at h1
    cases h1
  have bwipe : ∀ (acc : List D) (e : En), P (.lst acc) (backE e1 e vs) → P (.lst acc) (backE e1 (wipeE e vs) vs) := fun acc e q => by
    rw [backE_wipe]
    exact q
  refine lc_it w1 (fun i H' => ∃ (e2 : En) (G2 : Hp) (acc : List D) (us : List V), SI { F with pins := (Dl, .lst us) :: F.pins } e2 (L2.wipe σ vs) G2 H' ∧ Ex G1 G2 ∧ Reps F.wd G2 us acc ∧ acc.length ≤ i ∧ wLcL g wt we vs (ds.drop i) acc e2 fun acc e2 => P (.lst acc) (backE e1 e2 vs)) ?_ ?_ ?_ ?_
  · exact ⟨wipeE e1 vs, G1, [], [], (s1.mkPin hD).wipe vs, Ex.refl _, .nil, Nat.zero_le _, lcL_wipe (bwipe []) p1⟩
  · intro i H' hi ⟨e2, G2, acc, us, a1, a2, _⟩
    exact w2 G2 H' a2 a1.exG
  · intro i x H' H'' hi ⟨e2, G2, acc, us, a1, a2, a3, a4, a5⟩ hy
    obtain ⟨d, G3, b1, b2, b3⟩ := w3 i H' x H'' G2 hy a1.pre a2
    have s3 := a1.step b2
    have hd : ds.drop i = d :: ds.drop (i + 1) := by
      obtain ⟨hl, e⟩ := List.getElem?_eq_some_iff.mp b1
      rw [← e]
      exact List.drop_eq_getElem_cons hl
    rw [hd] at a5
    have s4 := s3.wipe vs
    rw [wipe_idem] at s4
    refine ⟨{ F with pins := (Dl, .lst us) :: F.pins }, wipeE e2 vs, G3, d, _, hx, s4, b3, a5, fun e3 σ3 c1 c2 c3 => ⟨?_, ?_⟩⟩
    · rw [c3 vs hog, wipe_idem]
    have ws : L2.wipe σ3 vs = L2.wipe σ vs := by rw [c3 vs hog, wipe_idem]
    have wp : ∀ {e : En} {G H : Hp} {us : List V}, SI { F with pins := (Dl, .lst us) :: F.pins } e σ3 G H → SI { F with pins := (Dl, .lst us) :: F.pins } (wipeE e vs) (L2.wipe σ vs) G H := fun s => by
      rw [← ws]
      exact s.wipe vs
    refine ⟨{ F with pins := (Dl, .lst us) :: F.pins }, e3, G3, _, _, hx, c2, c1, fun k e4 G4 H4 d1 d2 d3 => ?_, fun _ _ _ _ _ _ z => z.elim⟩
    cases k with
    | false =>
      refine iteF ?_
      exact ⟨wipeE e4 vs, G4, acc, us, wp d2, (a2.trans b2.ex).trans d3, a3.mono (b2.ex.trans d3), by omega, lcL_wipe (bwipe acc) d1⟩
    | true =>
      refine iteT ?_
      refine ⟨{ F with pins := (Dl, .lst us) :: F.pins }, e4, G4, _, _, hx, d2, d1, fun d' e5 v5 G5 H5 f1 f2 f3 f4 => ?_, fun _ _ _ _ _ _ z => z.elim⟩
      obtain ⟨q1, q2, q3, q4⟩ := f2.pin (Dl, .lst us) List.mem_cons_self
      have hl : us.length = acc.length := a3.length
      have hz : (100000 : Nat) ≤ sizeLine := by decide
      exact ⟨us, q1, by omega, wipeE e5 vs, G5, acc ++ [d'], us ++ [v5], (wp f2).rePin hpd, ((a2.trans b2.ex).trans d3).trans f3, (a3.mono ((b2.ex.trans d3).trans f3)).append (.cons f4 .nil), by rw [List.length_append, List.length_singleton]; omega, lcL_wipe (bwipe _) f1⟩
  · intro H' ⟨e2, G2, acc, us, a1, a2, a3, a4, a5⟩
    have hd : ds.drop ds.length = [] := List.drop_length
    rw [hd] at a5
    have a5' : P (.lst acc) (backE e1 e2 vs) := a5
    obtain ⟨x2, s2⟩ := a1.unPin hpd
    obtain ⟨σ', g1, g2, g3, g4⟩ := back_si s1 (a2.trans x2) s2
    have eσ : σ' = σ := by
      apply List.ext_getElem?
      intro i
      by_cases hi : i ∈ vs
      · exact g3 i hi
      · rw [g1 i hi]
        exact wipe_out' hi
    rw [eσ] at g4
    exact hq _ _ _ _ _ a5' g4 (x1.trans (a2.trans x2)) (.lst upd_same (a3.mono x2))
theorem px_lc {elt tg iter : Expr} {ifs : List Expr} {scope : Scope} {own : List (Str × Nat)} {pos : Pos} {wi : WA} {g : WG} {wt : WT} {we : WE} (og : List Nat) (hc : X.calm = true) (hN : X.N.Nodup) (hi : PXI X W tg iter wi) (hb : BlkOk X.N X.env.scope scope own)
    (hg : ∀ (s : Shared) (H : Hp) (C : Addr) (cl : List (Str × Addr)) (fp : List Addr), PXG (X.blk s H scope (compEnvC scope cl C X.env) fp) tg og g)
    (ht : ∀ (s : Shared) (H : Hp) (C : Addr) (cl : List (Str × Addr)) (fp : List Addr), PXTs (X.blk s H scope (compEnvC scope cl C X.env) fp) ifs wt)
    (he : ∀ (s : Shared) (H : Hp) (C : Addr) (cl : List (Str × Addr)) (fp : List Addr), PX (X.blk s H scope (compEnvC scope cl C X.env) fp) W0 elt we)
    (hog : ∀ i ∈ og, i ∈ own.map (·.2) := by decide)
    (hf : ∀ x, foldedSetIterable iter X.env x = pure x := by intro _; rfl) : PX X W (.ListComp elt [{ target := tg, iter := iter, ifs := ifs, is_async := 0 }] scope pos) (wLc (own.map (·.2)) wi g wt we) := by
  obtain ⟨ti, i1, i2⟩ := hi.ex
  exact ⟨⟨_, pe_lc (g := tG X.K X.mg og g) (tt := tTs X.K X.mg W0 wt) (te := tE X.K X.mg W0 we) hc hN i1 hb (fun s H C cl fp => (hg s H C cl fp).can) (fun s H C cl fp => (ht s H C cl fp).ex) (fun s H C cl fp => (he s H C cl fp).can) hf, lc_run (tg := tg) (iter := iter) rfl rfl hog i2⟩⟩
/-- name = [..] on one line -/
def wsSet (i : Nat) (w : WE) : WS := fun env K => w env (fun d e => K.nx (e.set i (.v d))) K.ex
theorem pxs_setLc {i : Nat} {y : Str} {py : Pos} {elt tg iter : Expr} {ifs : List Expr} {scope : Scope} {own : List (Str × Nat)} {pos spos : Pos} {wi : WA} {g : WG} {wt : WT} {we : WE} (og : List Nat) (hc : X.calm = true) (hN : X.N.Nodup) (hy : X.N[i]? = some y) (hyl : X.env.scope.names.lookup y = some .local)
    (hsw : swapsWith (.ListComp elt [⟨tg, iter, ifs, 0⟩] scope pos) (some (.Name y py)) spos.line X.env = pure true) (hi : PXI X W tg iter wi) (hb : BlkOk X.N X.env.scope scope own)
    (hg : ∀ (s : Shared) (H : Hp) (C : Addr) (cl : List (Str × Addr)) (fp : List Addr), PXG (X.blk s H scope (compEnvC scope cl C X.env) fp) tg og g)
    (ht : ∀ (s : Shared) (H : Hp) (C : Addr) (cl : List (Str × Addr)) (fp : List Addr), PXTs (X.blk s H scope (compEnvC scope cl C X.env) fp) ifs wt)
    (he : ∀ (s : Shared) (H : Hp) (C : Addr) (cl : List (Str × Addr)) (fp : List Addr), PX (X.blk s H scope (compEnvC scope cl C X.env) fp) W0 elt we)
    (hog : ∀ i ∈ og, i ∈ own.map (·.2) := by decide)
    (hf : ∀ x, foldedSetIterable iter X.env x = pure x := by intro _; rfl) : PXS X W (.Assign [.Name y py] (.ListComp elt [⟨tg, iter, ifs, 0⟩] scope pos) spos) (wsSet i (wLc (own.map (·.2)) wi g wt we)) := by
  obtain ⟨ti, i1, i2⟩ := hi.ex
  refine ⟨⟨_, ps_setLc (g := tG X.K X.mg og g) (tt := tTs X.K X.mg W0 wt) (te := tE X.K X.mg W0 we) hc hN hy hyl hsw i1 hb (fun s H C cl fp => (hg s H C cl fp).can) (fun s H C cl fp => (ht s H C cl fp).ex) (fun s H C cl fp => (he s H C cl fp).can) hf, fun F env σ G H P Q hx hs hw hq => ?_⟩⟩
  exact lc_run (tg := tg) (iter := iter) rfl rfl hog i2 F env σ G H _ _ _ hx hs hw (fun d e1 v G1 H1 p s1 x1 r1 => hq.nx _ _ G1 H1 p (s1.set r1) x1) (hq.ex σ)
end
end Pu
set_option maxRecDepth 100000
/-! Rules of the pure layer: statements, loops, calls, defs -/
namespace Pu
open PySem L2 PySem.Spec PyProof.Rows
section
variable {X : Cx} {W : WX} {st : Stmt} {rest : List Stmt} {e : Expr} {w : WE} {pos : Pos}
def wsNext : WS := fun env K => K.nx env
def wsSeq (a b : WS) : WS := fun env K => a env { K with nx := fun e => b e K }
theorem pb_nil : PXB X W [] wsNext := ⟨⟨_, pss_nil, fun F env σ G H P Q hx hs hw hq => hq.nx env σ G H hw hs (Ex.refl _)⟩⟩
theorem pb_cons {a b : WS} (h : PXS X W st a) (g : PXB X W rest b) : PXB X W (st :: rest) (wsSeq a b) := by
  obtain ⟨t, a1, a2⟩ := h.ex
  obtain ⟨u, b1, b2⟩ := g.ex
  refine ⟨⟨_, pss_cons a1 b1, fun F env σ G H P Q hx hs hw hq => a2 F env σ G H _ _ hx hs hw ⟨fun e1 σ1 G1 H1 p s1 x1 => b2 F e1 σ1 G1 H1 P Q hx s1 p (hq.mono x1), hq.rt, hq.bk, hq.ct, hq.ex⟩⟩⟩
theorem pb_one {a : WS} (h : PXS X W st a) : PXB X W [st] a := by
  obtain ⟨t, a1, a2⟩ := h.ex
  exact ⟨⟨_, pss_one a1, a2⟩⟩
theorem ps_pass' : PXS X W (.Pass pos) wsNext := ⟨⟨_, ps_pass, fun F env σ G H P Q hx hs hw hq => hq.nx env σ G H hw hs (Ex.refl _)⟩⟩
def wsBreak : WS := fun env K => K.bk env
def wsCont : WS := fun env K => K.ct env
theorem ps_break' : PXS X W (.Break pos) wsBreak := ⟨⟨_, ps_break, fun F env σ G H P Q hx hs hw hq => hq.bk env σ G H hw hs (Ex.refl _)⟩⟩
theorem ps_cont' : PXS X W (.Continue pos) wsCont := ⟨⟨_, ps_continue, fun F env σ G H P Q hx hs hw hq => hq.ct env σ G H hw hs (Ex.refl _)⟩⟩
def wsNever : WS := fun _ _ => False
theorem ps_never' : PXS X W st wsNever := ⟨⟨_, ps_never, fun F env σ G H P Q hx hs hw hq => hw.elim⟩⟩
theorem pb_never {l : List Stmt} : PXB X W l wsNever := ⟨⟨_, pss_never, fun F env σ G H P Q hx hs hw hq => hw.elim⟩⟩
def wsDrop (w : WE) : WS := fun env K => w env (fun _ e => K.nx e) K.ex
theorem ps_expr' (h : PX X W e w) (hs : swapsWith e none pos.line X.env = pure false := by rfl) : PXS X W (.Expr e pos) (wsDrop w) := by
  obtain ⟨t, a1, a2⟩ := h.ex
  exact ⟨⟨_, ps_expr a1 hs, fun F env σ G H P Q hx hs hw hq => a2 F env σ G H _ _ _ hx hs hw (fun d e1 v G1 H1 p s1 x1 r1 => hq.nx e1 σ G1 H1 p s1 x1) (hq.ex σ)⟩⟩
def wsRet (w : WE) : WS := fun env K => w env (fun d _ => K.rt d) K.ex
theorem ps_ret' (h : PX X W e w) : PXS X W (.Return (some e) pos) (wsRet w) := by
  obtain ⟨t, a1, a2⟩ := h.ex
  exact ⟨⟨_, ps_ret a1, fun F env σ G H P Q hx hs hw hq => a2 F env σ G H _ _ _ hx hs hw (fun d e1 v G1 H1 p s1 x1 r1 => hq.rt d v e1 σ G1 H1 p s1 r1) (hq.ex σ)⟩⟩
def wsRetN : WS := fun _ K => K.rt .non
theorem ps_retN' : PXS X W (.Return none pos) wsRetN := ⟨⟨_, ps_retN, fun F env σ G H P Q hx hs hw hq => hq.rt .non .non env σ G H hw hs .non⟩⟩
def wsIf (c : WT) (a b : WS) : WS := fun env K => c env (fun k e => match k with | true => a e K | false => b e K) K.ex
theorem ps_if' {c : Expr} {l r : List Stmt} {wc : WT} {a b : WS} (hc : PXT X W c wc) (h : PXB X W l a) (g : PXB X W r b) : PXS X W (.If c l r pos) (wsIf wc a b) := by
  obtain ⟨t, c1, c2⟩ := hc.ex
  obtain ⟨u, a1, a2⟩ := h.ex
  obtain ⟨v, b1, b2⟩ := g.ex
  refine ⟨⟨_, ps_if c1 a1 b1, fun F env σ G H P Q hx hs hw hq => c2 F env σ G H _ _ _ hx hs hw (fun k e1 G1 H1 p s1 x1 => ?_) (hq.ex σ)⟩⟩
  cases k with
  | true => exact iteT (a2 F e1 σ G1 H1 P Q hx s1 p (hq.mono x1))
  | false => exact iteF (b2 F e1 σ G1 H1 P Q hx s1 p (hq.mono x1))
theorem ps_set' {i : Nat} {x : Str} {pos' : Pos} (hN : X.N.Nodup) (hi : X.N[i]? = some x) (hx : Loc X.env.scope x) (he : PX X W e w) (hs : swapsWith e (some (.Name x pos')) pos.line X.env = pure false := by rfl) (hf : X.fn x = true ∨ X.env.scope.names.lookup x = some .local := by first | exact .inl rfl | exact .inr rfl | assumption) :
    PXS X W (.Assign [.Name x pos'] e pos) (wsSet i w) := by
  obtain ⟨t, a1, a2⟩ := he.ex
  exact ⟨⟨_, ps_set hN hi hx a1 hs hf, fun F env σ G H P Q hx hs hw hq => a2 F env σ G H _ _ _ hx hs hw (fun d e1 v G1 H1 p s1 x1 r1 => hq.nx _ _ G1 H1 p (s1.set r1) x1) (hq.ex σ)⟩⟩
def wsPar (i j : Nat) (u : WA) : WS := fun env K => u env (fun ds e => match ds with | [d1, d2] => K.nx ((e.set i (.v d1)).set j (.v d2)) | _ => False) K.ex
theorem ps_par' {i j : Nat} {x y : Str} {a b : Expr} {u : WA} {px py pt : Pos} {kt k2 pt2} (hc : X.calm = true) (hN : X.N.Nodup) (hi : X.N[i]? = some x) (hj : X.N[j]? = some y) (hij : i ≠ j)
    (hx : X.env.scope.names.lookup x = some .local) (hy : X.env.scope.names.lookup y = some .local) (ha : PXA X W [a, b] u)
    (hw : swappedStores [.Tuple [.Name x px, .Name y py] kt pt] (.Tuple [a, b] k2 pt2) X.env = pure (some [x, y]))
    (hs : swapsWithSole [.Tuple [.Name x px, .Name y py] kt pt] (.Tuple [a, b] k2 pt2) pos.line X.env = pure false := by rfl) :
    PXS X W (.Assign [.Tuple [.Name x px, .Name y py] kt pt] (.Tuple [a, b] k2 pt2) pos) (wsPar i j u) := by
  obtain ⟨t, a1, a2⟩ := ha.ex
  refine ⟨⟨_, ps_par hc hN hi hj hij hx hy a1 hw hs, fun F env σ G H P Q hx hs hw hq => a2 F env σ G H _ _ _ hx hs hw (fun ds e1 vs G1 H1 p s1 x1 r1 => ?_) (hq.ex σ)⟩⟩
  match ds, p, r1 with
  | [d1, d2], p, r1 =>
    obtain ⟨v1, v2, rfl, q1, q2⟩ := r1.inv2
    exact ⟨v1, v2, rfl, hq.nx _ _ G1 H1 p ((s1.set q1).set q2) x1⟩
  | [], p, _ => exact p.elim
  | [_], p, _ => exact p.elim
  | _ :: _ :: _ :: _, p, _ => exact p.elim
def wsPar3 (i j k : Nat) (u : WA) : WS := fun env K => u env (fun ds e => match ds with | [d1, d2, d3] => K.nx (((e.set i (.v d1)).set j (.v d2)).set k (.v d3)) | _ => False) K.ex
/-- a target of any form -/
def wsAsg (w : WE) (g : WG) : WS := fun env K => w env (fun d e => g d e K.nx) K.ex
theorem ps_asg' {tg : Expr} {own : List Nat} {g : WG} (he : PX X W e w) (hg : PXG X tg own g) (hs : swapsWithSole [tg] e pos.line X.env = pure false := by rfl) (hw : swappedStores [tg] e X.env = pure none := by rfl)
    (h1 : (assignEach [tg] X.env).map (·.2) = [assign tg X.env] := by rfl) : PXS X W (.Assign [tg] e pos) (wsAsg w g) := by
  obtain ⟨t, a1, a2⟩ := he.ex
  obtain ⟨gt, g1, g2⟩ := hg.ex
  exact ⟨⟨_, ps_asg a1 g1 hs hw h1, fun F env σ G H P Q hx hs hw hq => a2 F env σ G H _ _ _ hx hs hw (fun d e1 v G1 H1 p s1 x1 r1 => g2 F e1 σ G1 H1 v d _ _ hx s1 r1 p fun e2 σ2 p2 s2 _ => hq.nx e2 σ2 G1 H1 p2 s2 x1) (hq.ex σ)⟩⟩

/-! ### loops -/
def wsForL (g : WG) (b : WS) (K : EnD) : List D → En → Prop
  | [], env => K.nx env
  | x :: xs, env => g x env fun e1 => b e1 { K with nx := fun e => wsForL g b K xs e, ct := fun e => wsForL g b K xs e, bk := K.nx }
def wsFor (wi : WA) (g : WG) (b : WS) : WS := fun env K => wi env (fun ds e => wsForL g b K ds e) K.ex
theorem ps_for' {tg iter : Expr} {body : List Stmt} {own : List Nat} {wi : WA} {g : WG} {b : WS} (hp : PassesOwn (model X.prog X.w) X.A X.env X.xe) (hc : X.calm = true) (hi : PXI X W tg iter wi) (hg : PXG X tg own g) (hb : PXB X W body b)
    (hf : ∀ x, foldedSetIterable iter X.env x = pure x := by intro _; rfl) : PXS X W (.For tg iter body [] pos) (wsFor wi g b) := by
  obtain ⟨ti, i1, i2⟩ := hi.ex
  obtain ⟨gt, g1, g2⟩ := hg.ex
  obtain ⟨tb, b1, b2⟩ := hb.ex
  refine ⟨⟨_, ps_for hp hc i1 g1 b1 hf, fun F env σ G H P Q hx hs hw hq => i2 F env σ G H _ _ _ hx hs hw (fun ds e1 J G1 H1 p1 s1 x1 wk => ?_) (hq.ex σ)⟩⟩
  obtain ⟨Gd, Y, w1, w2, w3⟩ := wk.ex
  refine for_it w1 (fun i σ' H' => ∃ (e2 : En) (G2 : Hp), SI F e2 σ' G2 H' ∧ Ex G1 G2 ∧ wsForL g b P (ds.drop i) e2) ⟨e1, G1, s1, Ex.refl _, p1⟩ (fun i σ' H' hi ⟨e2, G2, a1, a2, _⟩ => w2 G2 H' a2 a1.exG) ?_ ?_
  · intro i x σ' H' H'' hi ⟨e2, G2, a1, a2, a3⟩ hy
    obtain ⟨d, G3, c1, c2, c3⟩ := w3 i H' x H'' G2 hy a1.pre a2
    have hd : ds.drop i = d :: ds.drop (i + 1) := by
      obtain ⟨hl, e⟩ := List.getElem?_eq_some_iff.mp c1
      rw [← e]
      exact List.drop_eq_getElem_cons hl
    rw [hd] at a3
    have s3 := a1.step c2
    have x3 : Ex G1 G3 := a2.trans c2.ex
    refine g2 F e2 σ' G3 H'' x d _ _ hx s3 c3 a3 fun e3 σ3 p3 s4 _ => ?_
    refine b2 F e3 σ3 G3 H'' _ _ hx s4 p3 ⟨fun e4 σ4 G4 H4 p4 s5 x5 => ⟨e4, G4, s5, x3.trans x5, p4⟩, hq.rt, fun e4 σ4 G4 H4 p4 s5 x5 => hq.nx e4 σ4 G4 H4 p4 s5 ((x1.trans x3).trans x5), fun e4 σ4 G4 H4 p4 s5 x5 => ⟨e4, G4, s5, x3.trans x5, p4⟩, hq.ex⟩
  · intro σ' H' ⟨e2, G2, a1, a2, a3⟩
    have hd : ds.drop ds.length = [] := List.drop_length
    rw [hd] at a3
    exact hq.nx e2 σ' G2 H' a3 a1 (x1.trans a2)
/-- a while that ends within n turns -/
def wsWhN (c : WT) (b : WS) (K : EnD) : Nat → En → Prop
  | 0, _ => False
  | n + 1, env => c env (fun k e => match k with
    | true => b e { K with nx := wsWhN c b K n, ct := wsWhN c b K n, bk := K.nx }
    | false => K.nx e) K.ex
def wsWhile (c : WT) (b : WS) : WS := fun env K => ∃ n, wsWhN c b K n env
theorem ps_while' {c : Expr} {body : List Stmt} {wc : WT} {b : WS} (hp : PassesOwn (model X.prog X.w) X.A X.env X.xe) (hc : PXT X W c wc) (hb : PXB X W body b) : PXS X W (.While c body [] pos) (wsWhile wc b) := by
  obtain ⟨tc, c1, c2⟩ := hc.ex
  obtain ⟨tb, b1, b2⟩ := hb.ex
  refine ⟨⟨_, ps_while hp c1 b1, fun F env σ G H P Q hx hs hw hq => ?_⟩⟩
  obtain ⟨n, hw⟩ := hw
  refine ⟨fun m σ' H' => ∃ (e2 : En) (G2 : Hp), SI F e2 σ' G2 H' ∧ Ex G G2 ∧ wsWhN wc b P m e2, ⟨n, env, G, hs, Ex.refl _, hw⟩, ?_⟩
  intro m σ' H' ⟨e2, G2, a1, a2, a3⟩
  cases m with
  | zero => exact a3.elim
  | succ m =>
    refine c2 F e2 σ' G2 H' _ _ _ hx a1 a3 (fun k e3 G3 H3 p3 s3 x3 => ?_) (hq.ex σ')
    cases k with
    | false => exact iteF (hq.nx e3 σ' G3 H3 p3 s3 (a2.trans x3))
    | true =>
      refine iteT ⟨fun σ4 H4 => ∃ (e2 : En) (G2 : Hp), SI F e2 σ4 G2 H4 ∧ Ex G G2 ∧ wsWhN wc b P m e2, fun σ4 H4 h => ⟨m, Nat.lt_succ_self m, h⟩, ?_⟩
      exact b2 F e3 σ' G3 H3 _ _ hx s3 p3 ⟨fun e4 σ4 G4 H4 p4 s5 x5 => ⟨e4, G4, s5, (a2.trans x3).trans x5, p4⟩, hq.rt, fun e4 σ4 G4 H4 p4 s5 x5 => hq.nx e4 σ4 G4 H4 p4 s5 ((a2.trans x3).trans x5), fun e4 σ4 G4 H4 p4 s5 x5 => ⟨e4, G4, s5, (a2.trans x3).trans x5, p4⟩, hq.ex⟩
end

/-! ### defs: what they promise -/
abbrev FT := List D → (D → Prop) → (DX → Prop) → Prop
/-- the promise of a def of n parameters over data -/
def spP (K : PySem.W.Frag) (mg : Str → Option Value) (n : Nat) (F : FT) : Sp := fun vs H Q E => ∃ (b : Option Addr) (G : Hp) (ds : List D) (P : D → Prop) (R : DX → Prop), Pre ⟨K, mg, b⟩ G H ∧ Reps ⟨K, mg, b⟩ G vs ds ∧ ds.length = n ∧ F ds P R ∧
  (∀ d v G' H', P d → Post ⟨K, mg, b⟩ G H G' H' → Rep ⟨K, mg, b⟩ G' v d → Q v H') ∧ ∀ x cls dct G' H', R x → Post ⟨K, mg, b⟩ G H G' H' → RX ⟨K, mg, b⟩ G' x cls dct → E cls dct H'
theorem spP_len {K : PySem.W.Frag} {mg : Str → Option Value} {n : Nat} {F : FT} {vs : List V} {H : Hp} {Q : VK} {E : XK} (h : spP K mg n F vs H Q E) : vs.length = n := by
  obtain ⟨b, G, ds, P, R, _, r, hl, _⟩ := h
  rw [r.length, hl]
def startE (n : Nat) (ds : List D) : En := ds.map Sl.v ++ List.replicate (n - ds.length) Sl.no
theorem start_si {w : Wd} {G H : Hp} {vs : List V} {ds : List D} (N : List Str) (p : Pre w G H) (r : Reps w G vs ds) : SI ⟨w, G, H, []⟩ (startE N.length ds) (L2.start N vs) G H := by
  have hno : ∀ (j : Nat) (l : List D), (startE N.length ds)[j]? ≠ some (.ol l) := fun j l e => by
    unfold startE at e
    by_cases hj : j < ds.length
    · rw [List.getElem?_append_left (by simpa using hj), List.getElem?_map, List.getElem?_eq_getElem hj] at e
      cases e
    · rw [List.getElem?_append_right (by simpa using hj), List.getElem?_replicate] at e
      split at e <;> cases e
  refine ⟨p, Post.refl p, ?_, fun i s e => ?_, fun i j l l' a _ e _ _ => absurd e (hno i l), fun q hq => by cases hq⟩
  · unfold startE L2.start
    rw [List.length_append, List.length_map, List.length_replicate, List.length_append, List.length_map, List.length_replicate, r.length]
  · unfold startE at e
    by_cases hj : i < ds.length
    · rw [List.getElem?_append_left (by simpa using hj), List.getElem?_map, List.getElem?_eq_getElem hj] at e
      cases e
      obtain ⟨v, h1, h2⟩ := r.getD (List.getElem?_eq_getElem hj)
      refine ⟨v, ?_, h2⟩
      unfold L2.start
      rw [List.getElem?_append_left (by rw [List.length_map, r.length]; exact hj), List.getElem?_map, h1]
      rfl
    · rw [List.getElem?_append_right (by simpa using hj), List.getElem?_replicate] at e
      split at e
      · cases e
        trivial
      · cases e
section
variable {P : Program} {w : World} {K : PySem.W.Frag} {mg : Str → Option Value} {base : Heap}
abbrev WDef (E : XK) : WX := fun cls d _ H => E cls d H
/-- THE RULE: a def by its body -/
theorem def_ok {x qual : Str} {st : Stmt} {f : Addr} {fd : FuncData} {N ps : List Str} {k : Nat} {F : FT} (Fn : Fun K x qual st f fd) (S : FnScope N ps (defScope st))
    (body : ∀ (cdv : Value) (A : Around) (outer : List Env) (s : Shared) (H : Hp) (E : XK), Room k (A.deeper (envOfC qual (defScope st) s.heap.objs.size f cdv)) →
      ∃ ws : WS, PXB (cxOf (L2.CX P w) P w K mg base N qual (defScope st) f cdv A outer s H E) (WDef E) (defBody st) ws ∧
        ∀ (ds : List D) (Pd : D → Prop) (R : DX → Prop), ds.length = ps.length → F ds Pd R → ws (startE N.length ds) { nx := fun _ => Pd .non, rt := Pd, ex := fun x _ => R x }) :
    FnOk P w K mg base (L2.CX P w) (k + 1) f fd ps (spP K mg ps.length F) := by
  refine Fn.okX S (fun vs H Q E h => spP_len h) (fun cdv A outer s H vs Q E hr h => ?_)
  obtain ⟨b, G, ds, Pd, R, hp, r, hl, hF, h1, h2⟩ := h
  obtain ⟨ws, hb, hw⟩ := body cdv A outer s H E hr
  obtain ⟨t, t1, t2⟩ := hb.ex
  refine ⟨t, t1, t2 ⟨⟨K, mg, b⟩, G, H, []⟩ (startE N.length ds) (L2.start N vs) G H _ _ ⟨rfl, rfl⟩ (start_si N hp r) (hw ds Pd R hl hF) ?_⟩
  exact ⟨fun e1 σ1 G1 H1 p s1 x1 => h1 .non .non G1 H1 p s1.post .non, fun d v e1 σ1 G1 H1 p s1 r1 => h1 d v G1 H1 p s1.post r1, fun _ _ _ _ z => z.elim, fun _ _ _ _ z => z.elim, fun σ1 x e1 cls dct G1 H1 p s1 rx => h2 x cls dct G1 H1 p s1.post rx⟩
end

/-! ### calls -/
def wCall (F : FT) (dd : List D) (u : WA) : WE := fun env P R => u env (fun ds e => F (ds ++ dd) (fun d => P d e) fun x => R x e) R
section
variable {X : Cx} {W : WX} {k n : Nat} {f : Addr} {fd : FuncData} {ps : List Str} {F : FT} {x : Str} {p pos : Pos} {e : Expr} {es : List Expr} {u : WA} {ds : List Value} {dvs : List V} {dd : List D}
theorem call_run {Fc' : Fc} {env : En} {σ : L2.St} {G H : Hp} {vs : List V} {as : List D} {P : D → En → Prop} {R : QX} {Q : VK} (hx : XOk X Fc') (hn : (as ++ dd).length = n) (hdd : ∀ (w : Wd) (G : Hp), Reps w G dvs dd) (s1 : SI Fc' env σ G H) (r1 : Reps Fc'.wd G vs as) (p1 : F (as ++ dd) (fun d => P d env) fun x => R x env)
    (hq : ∀ d env' v G' H', P d env' → SI Fc' env' σ G' H' → Ex G G' → Rep Fc'.wd G' v d → Q v H') (hk : XK' Fc' W σ R) : spP X.K X.mg n F (vs ++ dvs) H Q (L2.WE W σ) := by
  obtain ⟨⟨K, mg, b⟩, G0, H0, pins⟩ := Fc'
  obtain ⟨h1, h2⟩ := hx
  cases h1
  cases h2
  exact ⟨b, G, as ++ dd, _, _, s1.pre, r1.append (hdd _ _), hn, p1, fun d v G' H' p po r => hq d env v G' H' p (s1.step po) po.ex r, fun x cls dct G' H' p po r => hk x env cls dct G' H' p (s1.step po) r⟩
theorem px_call (Fn : FnOk X.prog X.w X.K X.mg X.base (L2.CX X.prog X.w) k f fd ps (spP X.K X.mg n F)) (hr : Room k X.A) (hg : Gl X x) (hm : X.mg x = some (.ref f)) (hk : PySem.W.keepIn X.K (.ref f) = true) (hb : Binds X.K fd ps ds) (hd : Vals dvs ds) (hdd : ∀ (w : Wd) (G : Hp), Reps w G dvs dd) (tk : Takes X W)
    (ha : PXA X W (e :: es) u) (hn : (e :: es).length + dd.length = n) (hdb : (x == ("__debug__" : Str)) = false := by decide) (he : starEach (e :: es) X.env = (false, eval e X.env) :: starEach es X.env := by rfl) (hpl : (backTo pos (starEach es X.env)).any (·.1) = false := by rfl) :
    PX X W (.Call (.Name x p) (e :: es) [] pos) (wCall (fun ds P R => ds.length = n ∧ F ds P R) dd u) := by
  obtain ⟨t, a1, a2⟩ := ha.ex
  refine ⟨⟨_, pe_callSD Fn hr hg hm hk hb hd (fun σ => passAt tk σ) a1 hdb he hpl, fun Fc' env σ G H P R Q hx hs hw hq hk => a2 Fc' env σ G H _ R _ hx hs hw (fun as e1 vs G1 H1 p1 s1 x1 r1 => ?_) hk⟩⟩
  exact call_run hx p1.1 hdd s1 r1 p1.2 (fun d e' v G' H' p s x r => hq d e' v G' H' p s (x1.trans x) r) hk
/-- no defaults -/
theorem px_call' (Fn : FnOk X.prog X.w X.K X.mg X.base (L2.CX X.prog X.w) k f fd ps (spP X.K X.mg n F)) (hr : Room k X.A) (hg : Gl X x) (hm : X.mg x = some (.ref f)) (hk : PySem.W.keepIn X.K (.ref f) = true) (hb : Binds X.K fd ps []) (tk : Takes X W)
    (ha : PXA X W (e :: es) u) (hn : (e :: es).length = n) (hdb : (x == ("__debug__" : Str)) = false := by decide) (he : starEach (e :: es) X.env = (false, eval e X.env) :: starEach es X.env := by rfl) (hpl : (backTo pos (starEach es X.env)).any (·.1) = false := by rfl) :
    PX X W (.Call (.Name x p) (e :: es) [] pos) (wCall (fun ds P R => ds.length = n ∧ F ds P R) [] u) :=
  px_call Fn hr hg hm hk hb .nil (fun _ _ => .nil) tk ha (by rw [← hn]; rfl) hdb he hpl
end
end Pu
set_option maxRecDepth 100000
/-! Rules of the pure layer: zip, enumerate, join, a keyword; the law's bag -/
namespace Pu
open PySem L2 PySem.Spec PyProof.Rows
section
variable {X : Cx} {W : WX}
theorem pair_wk {w : Wd} {G2 H2 H3 : Hp} {T : Addr} {x y : V} {dx dy : D} (hp : Pre w G2 H2) (hn : H2 T = none) (e : H3 = upd H2 T (.tup [x, y])) (rx : Rep w G2 x dx) (ry : Rep w G2 y dy) : ∃ G3, Post w G2 H2 G3 H3 ∧ Rep w G3 (.ref T) (.tup [dx, dy]) := by
  subst e
  have po := Post.new1 (o := .tup [x, y]) hp hn
  exact ⟨_, po, .tup (.inl (.inl upd_same)) (.cons (rx.mono po.ex) (.cons (ry.mono po.ex) .nil))⟩
def zipD (a b : List D) : List D := List.zipWith (fun x y => .tup [x, y]) a b
theorem zipD_get {a b : List D} {i : Nat} {x y : D} (h1 : a[i]? = some x) (h2 : b[i]? = some y) : (zipD a b)[i]? = some (.tup [x, y]) := by
  unfold zipD
  rw [List.getElem?_zipWith, h1, h2]
theorem zipD_length (a b : List D) : (zipD a b).length = min a.length b.length := by
  unfold zipD
  rw [List.length_zipWith]
theorem walk_zipT {K : PySem.W.Frag} {a b : Addr} {xs ys : List V} {n : Nat} (hn : n = min xs.length ys.length) : Walk (RZ.ItzT K a b) n (fun H => SqT K H a xs ∧ SqT K H b ys) (YPair (fun i => xs[i]?) (fun i => ys[i]?)) := by
  subst hn
  refine ⟨fun i _ hi q => ?_, fun _ q => ⟨xs, ys, q.1, q.2, by omega⟩, fun i H v H' _ q y => ?_⟩
  · have h1 : i < xs.length := by omega
    have h2 : i < ys.length := by omega
    exact ⟨xs, ys, xs[i], ys[i], q.1, q.2, by simp [h1], by simp [h2]⟩
  · obtain ⟨T, x, z, h1, h2, h3, h4, h5⟩ := y
    exact ⟨T, x, z, h1, h2, h3, h4 xs q.1, h5 ys q.2⟩
def wZip (wa wb : WE) : WA := fun env P R => wa env (fun d1 e1 => wb e1 (fun d2 e2 => match d1, d2 with
  | .lst a, .lst b => P (zipD a b) e2
  | .tup a, .tup b => P (zipD a b) e2
  | _, _ => False) R) R
theorem pair_walk {F : Fc} {G1 : Hp} {J : It} {xs ys : List V} {a b : List D} {Gd : Hp → Prop} (r1 : Reps F.wd G1 xs a) (r2 : Reps F.wd G1 ys b) (hg : ∀ G2 H2, Ex G1 G2 → Ex G2 H2 → Gd H2) (w : Walk J (min xs.length ys.length) Gd (YPair (fun i => xs[i]?) (fun i => ys[i]?))) : Wk F G1 J (zipD a b) := by
  refine ⟨⟨Gd, _, by rw [zipD_length, ← r1.length, ← r2.length]; exact w, hg, fun i H2 v H3 G2 y hp x => ?_⟩⟩
  obtain ⟨T, u, z, rfl, hn, e, e1, e2⟩ := y
  obtain ⟨d1, q1, q2⟩ := r1.get e1
  obtain ⟨d2, q3, q4⟩ := r2.get e2
  obtain ⟨G3, po, r⟩ := pair_wk hp hn e (q2.mono x) (q4.mono x)
  exact ⟨_, G3, zipD_get q1 q3, po, r⟩
theorem pi_zip2 {e e2 : Expr} {wa wb : WE} {p pos tpos : Pos} {elts : List Expr} {kk : Nat} (hg : Gl X "zip") (hm : X.mg "zip" = none) (hc : X.calm = true) (h1 : PX X W e wa) (h2 : PX X W e2 wb)
    (hs : starEach [e, e2] X.env = (false, eval e X.env) :: starEach [e2] X.env := by rfl) (hs2 : starEach [e2] X.env = (false, eval e2 X.env) :: starEach [] X.env := by rfl) (hpl : (backTo pos (starEach [e2] X.env)).any (·.1) = false := by rfl) :
    PXI X W (.Tuple elts kk tpos) (.Call (.Name "zip" p) [e, e2] [] pos) (wZip wa wb) := by
  obtain ⟨ta, a1, a2⟩ := h1.ex
  obtain ⟨tb, b1, b2⟩ := h2.ex
  refine ⟨⟨_, RZ.pi_zipA hg hm (pa_cons a1 (pa_cons b1 pa_nil hs2) hs) hs hpl, fun F env σ G H P R Rq hx hs hw hq hk => a2 F env σ G H _ R _ hx hs hw (fun d1 e1 v1 G1 H1 p1 s1 x1 r1 => b2 F e1 σ G1 H1 _ R _ hx s1 p1 (fun d2 e2 v2 G2 H2 p2 s2 x2 r2 => ?_) hk) hk⟩⟩
  have r1' := r1.mono x2
  split at p2
  · cases r1' with
    | lst l1 l2 =>
    cases r2 with
    | lst m1 m2 =>
    exact ⟨_, _, _, _, rfl, .inl ⟨SqL.of (s2.exG _ _ l1), SqL.of (s2.exG _ _ m1), hq _ e2 _ G2 H2 p2 s2 (x1.trans x2) (pair_walk l2 m2 (fun G3 H3 y z => ⟨SqL.of (z _ _ (y _ _ l1)), SqL.of (z _ _ (y _ _ m1))⟩) (walk_zip rfl))⟩⟩
  · cases r1' with
    | tup l1 l2 =>
    cases r2 with
    | tup m1 m2 =>
    rw [hx.1] at l1 m1
    exact ⟨_, _, _, _, rfl, .inr ⟨s2.exG.t l1, s2.exG.t m1, hq _ e2 _ G2 H2 p2 s2 (x1.trans x2) (pair_walk l2 m2 (fun G3 H3 y z => ⟨z.t (y.t l1), z.t (y.t m1)⟩) (walk_zipT rfl))⟩⟩
  · exact p2.elim
def enumD (a : List D) : List D := (List.range a.length).zipWith (fun i x => .tup [.int (i : Nat), x]) a
def wEnum (wa : WE) : WA := fun env P R => wa env (fun d1 e1 => match d1 with
  | .lst a => P (enumD a) e1
  | _ => False) R
theorem pi_enum1 {e : Expr} {wa : WE} {p pos tpos : Pos} {elts : List Expr} {kk : Nat} (hg : Gl X "enumerate") (hm : X.mg "enumerate" = none) (hc : X.calm = true) (h1 : PX X W e wa)
    (hs : starEach [e] X.env = [(false, eval e X.env)] := by rfl) : PXI X W (.Tuple elts kk tpos) (.Call (.Name "enumerate" p) [e] [] pos) (wEnum wa) := by
  obtain ⟨ta, a1, a2⟩ := h1.ex
  refine ⟨⟨_, pi_enum hg hm (pa_cons a1 pa_nil hs) hs, fun F env σ G H P R Rq hx hs hw hq hk => a2 F env σ G H _ R _ hx hs hw (fun d1 e1 v1 G1 H1 p1 s1 x1 r1 => ?_) hk⟩⟩
  split at p1
  · rename_i dl
    cases r1 with
    | @lst a0 vs _ l1 l2 =>
    have hl : (enumD dl).length = vs.length := by
      unfold enumD
      rw [List.length_zipWith, List.length_range, l2.length, Nat.min_self]
    refine ⟨_, _, rfl, SqL.of (s1.exG _ _ l1), hq _ e1 _ G1 H1 p1 s1 x1 ⟨⟨fun H => SqL X.K H a0 vs, fun i H v H' => ∃ T x, v = .ref T ∧ H T = none ∧ H' = upd H T (.tup [.int (i : Nat), x]) ∧ vs[i]? = some x, ?_, fun G3 H3 y z => SqL.of (z _ _ (y _ _ l1)), fun i H2 v H3 G2 y hp x => ?_⟩⟩⟩
    · rw [hl]
      exact walk_enum.mono (fun _ h => h) fun i H v H' _ _ y => by
        obtain ⟨T, x, z, h1, h2, h3, h4, h5⟩ := y
        cases h4
        exact ⟨T, z, h1, h2, h3, h5⟩
    · obtain ⟨T, z, rfl, hn, e, e1⟩ := y
      obtain ⟨d1, q1, q2⟩ := l2.get e1
      obtain ⟨G3, po, r⟩ := pair_wk hp hn e (.int (i := (i : Nat))) (q2.mono x)
      refine ⟨_, G3, ?_, po, r⟩
      unfold enumD
      rw [List.getElem?_zipWith, q1, List.getElem?_range (List.getElem?_eq_some_iff.mp q1).1]
  · exact p1.elim
/-! ### methods of texts -/
abbrev RDM := D → List D → (D → Prop) → Prop
def wM1 (r : RDM) (wo wa : WE) : WE := fun env P R => wo env (fun o e1 => match o with
  | .str s => wa e1 (fun d e2 => r (.str s) [d] fun z => P z e2) R
  | _ => False) R
def strsOf : List D → Option (List Str)
  | [] => some []
  | .str b :: l => (strsOf l).map (b :: ·)
  | _ :: _ => none
theorem strsOf_ok {w : Wd} {G : Hp} : ∀ {vs : List V} {l : List D} {bs : List Str}, Reps w G vs l → strsOf l = some bs → vs = bs.map V.str
  | _, _, bs, .nil, e => by cases e; rfl
  | _, .str b :: l, bs, .cons r t, e => by
    unfold strsOf at e
    cases e2 : strsOf l with
    | none => rw [e2] at e; cases e
    | some cs =>
      rw [e2] at e
      cases e
      cases r
      rw [strsOf_ok t e2]
      rfl
  | _, .non :: l, bs, .cons r t, e => by cases e
  | _, .int _ :: l, bs, .cons r t, e => by cases e
  | _, .bl _ :: l, bs, .cons r t, e => by cases e
  | _, .lst _ :: l, bs, .cons r t, e => by cases e
  | _, .tup _ :: l, bs, .cons r t, e => by cases e
  | _, .bag :: l, bs, .cons r t, e => by cases e
  | _, .ins _ _ :: l, bs, .cons r t, e => by cases e
def rdJoin : RDM := fun o ds P => match o, ds with
  | .str a, [.lst l] => ∃ ys, strsOf l = some ys ∧ (ys.map (·.length)).sum + ys.length * a.length ≤ 16777216 ∧ P (.str (Txt.join a ys))
  | .str a, [.tup l] => ∃ ys, strsOf l = some ys ∧ (ys.map (·.length)).sum + ys.length * a.length ≤ 16777216 ∧ P (.str (Txt.join a ys))
  | _, _ => False
theorem px_join {o e : Expr} {wo wa : WE} {apos pos : Pos} (ho : PX X W o wo) (he : PX X W e wa) (hs : starEach [e] X.env = [(false, eval e X.env)] := by rfl) (hbase : attributeBase o "join" X.env (eval o X.env) = eval o X.env := by rfl) (hline : (apos.endLine == pos.line) = true := by rfl) :
    PX X W (.Call (.Attribute o "join" apos) [e] [] pos) (wM1 rdJoin wo wa) := by
  obtain ⟨t, a1, a2⟩ := ho.ex
  obtain ⟨u, b1, b2⟩ := he.ex
  refine ⟨⟨_, pe_join a1 b1 hs hbase hline, fun F env σ G H P R Q hx hs hw hq hk => a2 F env σ G H _ R _ hx hs hw (fun d1 e1 v1 G1 H1 p1 s1 x1 r1 => ?_) hk⟩⟩
  cases d1 <;> first | exact p1.elim | skip
  refine ⟨⟨_, r1.asStr⟩, b2 F e1 σ G1 H1 _ R _ hx s1 p1 (fun d2 e2 v2 G2 H2 p2 s2 x2 r2 => ?_) hk⟩
  · cases r1
    cases r2 <;> first | exact p2.elim | skip
    · rename_i l1 l2
      obtain ⟨ys, h1, h2, h3⟩ := p2
      have e := strsOf_ok l2 h1
      subst e
      exact ⟨_, _, ys, rfl, rfl, .inl (SqL.of (s2.exG _ _ l1)), h2, hq _ e2 _ G2 H2 h3 s2 (x1.trans x2) .str⟩
    · rename_i l1 l2
      obtain ⟨ys, h1, h2, h3⟩ := p2
      have e := strsOf_ok l2 h1
      subst e
      exact ⟨_, _, ys, rfl, rfl, .inr (by rw [← hx.1]; exact s2.exG.t l1), h2, hq _ e2 _ G2 H2 h3 s2 (x1.trans x2) .str⟩
end
end Pu
set_option maxRecDepth 100000
/-! The law's bag and its draws, by hand -/
namespace Pu
open PySem L2 PySem.Spec PyProof.Rows

abbrev oAdd : R2 := rI0 fun i j => .int (i + j)
abbrev oMul : R2 := rI CMul fun i j => .int (i * j)
abbrev oMod : R2 := rI (fun _ j => 0 < j) fun i j => .int (i % j)
abbrev oDiv : R2 := rI CDiv fun i j => .int (i / j)
abbrev oDivW : R2 := rI CDivW fun i j => .int (i / j)
abbrev oPow : R2 := rI CPow fun i j => .int (i ^ j.toNat)
abbrev oLt : R2 := rI0 fun i j => .bl (decide (i < j))
abbrev oGt : R2 := rI0 fun i j => .bl (decide (j < i))
abbrev oGe : R2 := rI0 fun i j => .bl (decide (j ≤ i))
abbrev rInt1 : List V → Hp → VK → Prop := fun xs H Q => (∃ i, xs = [.int i] ∧ Q (.int i) H) ∨ ∃ k, xs = [.bl k] ∧ Q (.int (if k then 1 else 0)) H
abbrev rLenQ (K : PySem.W.Frag) : List V → Hp → VK → Prop := fun xs H Q => ∃ p ys, xs = [.ref p] ∧ (SqL K H p ys ∨ SqT K H p ys) ∧ Q (.int ys.length) H
section
variable (K : PySem.W.Frag)
abbrev tBag (i : Int) : TE := tOp (rIxL K) (tVar 0) (tC (.int i))
abbrev tBagSet (i : Int) (te : TE) : TS := tAsg te (gSub (tVar 0) (tC (.int i)) rSetL)
abbrev tInt (te : TE) : TE := tCB rInt1 (tCons te tNil)
def t_draw1 : TS := tBagSet 4 (tOp oAdd (tBag K 4) (tC (.int 1)))
def t_draw2 : TS := tIfS (tAnd (tTest (tOp rEq (tBag K 2) (tC (.int 0)))) (tTest (tOp oLt (tBag K 1) (tCB (rLenQ K) (tCons (tBag K 0) tNil)))))
  (tSeq (tAsg (tOp (rIxL K) (tBag K 0) (tBag K 1)) (gName 2)) (tSeq (tBagSet 1 (tOp oAdd (tBag K 1) (tC (.int 1))))
    (tIfS (tTest (tOp oGe (tVar 2) (tOp oPow (tC (.int 10)) (tC (.int 18))))) (tBagSet 2 (tVar 2))
      (tBagSet 3 (tOp oMod (tInt (tOp oAdd (tOp oAdd (tOp oMul (tBag K 3) (tC (.int 40013))) (tOp oMul (tOp oMod (tInt (tVar 2)) (tC (.int 2147483563))) (tC (.int 6967)))) (tC (.int 53)))) (tC (.int 2147483587))))))) tNext
def t_draw3 : TS := tIfS (tTest (tOp oGt (tBag K 2) (tC (.int 0)))) (tSeq (tAsg (tOp oMod (tInt (tBag K 2)) (tVar 1)) (gName 3)) (tSeq (tBagSet 2 (tOp oDivW (tBag K 2) (tVar 1))) (tRet (tVar 3)))) tNext
def t_draw4 : TS := tSeq (tAsg (tInt (tBag K 3)) (gName 4)) (tSeq (tBagSet 3 (tOp oMod (tInt (tOp oAdd (tOp oAdd (tOp oAdd (tOp oPow (tVar 4) (tC (.int 3))) (tOp oMul (tVar 4) (tC (.int 30029)))) (tOp oMul (tBag K 4) (tC (.int 1299827)))) (tC (.int 70001)))) (tC (.int 2147483587))))
  (tRet (tOp oMod (tInt (tOp oAdd (tOp oDiv (tBag K 3) (tC (.int 71))) (tOp oMul (tOp oMod (tInt (tBag K 3)) (tC (.int 7907))) (tC (.int 61))))) (tVar 1))))
def t_draw : TS := tSeq (t_draw1 K) (tSeq (t_draw2 K) (tSeq (t_draw3 K) (t_draw4 K)))
end
theorem r_bag {K : PySem.W.Frag} {σ : L2.St} {H : Hp} {Q : VK} {b : Addr} {xs : List V} {i : Int} {v : V} (hb : H b = some (.lst xs)) (h0 : σ[0]? = some (some (.ref b))) (e : atI xs i = some v) (q : Q v H) : tBag K i σ H Q := ⟨_, h0, b, xs, i, v, rfl, rfl, SqL.of hb, e, q⟩
theorem r_set {σ : L2.St} {H : Hp} {D : Ends} {te : TE} {b : Addr} {i : Int} (h : te σ H fun v H1 => σ[0]? = some (some (.ref b)) ∧ ∃ xs j, H1 b = some (.lst xs) ∧ ixN xs.length i = some j ∧ D.nx σ (upd H1 b (.lst (xs.set j v)))) (m : ∀ Q Q' : VK, (∀ v H1, Q v H1 → Q' v H1) → te σ H Q → te σ H Q') : tBagSet i te D σ H := by
  refine m _ _ (fun v H1 q => ?_) h
  obtain ⟨h0, xs, j, h1, h2, h3⟩ := q
  exact ⟨_, h0, b, xs, i, j, rfl, rfl, h1, h2, h3⟩

/-- a draw: any number from 0 below the many -/
def F_draw : FT := fun ds P _ => ∃ m : Int, ds = [.bag, .int m] ∧ 0 < m ∧ m.natAbs.log2 < 9000 ∧ ∀ v, 0 ≤ v → v < m → P (.int v)
theorem Post.bagUpd {w : Wd} {G H H' : Hp} {b : Addr} (p : Pre w G H) (hb : w.b = some b) (h : ∀ a, a ≠ b → H' a = H a) (bg : Bag w.K G H' b) (hn : H' b ≠ none) : Post w G H G H' := by
  have g0 := (p.bag b hb).1
  refine ⟨Ex.refl _, fun a o ha => ?_, fun a o hne ha => ?_, fun a ha => .inl ha, fun β hβ => ?_⟩
  · rw [h a (ne_of_none ha g0)]
    exact p.exG _ _ ha
  · rw [h a (fun z => hne (by rw [hb, z]))]
    exact ha
  · rw [hb] at hβ
    cases hβ
    exact ⟨g0, hn, bg⟩
theorem pure_draw {K : PySem.W.Frag} {mg : Str → Option Value} {vs : List V} {H : Hp} {Q : VK} {E : XK} {N : List Str} (hN : N.length = 5) (h : spP K mg 2 F_draw vs H Q E) : t_draw K { nx := fun _ H' => Q .non H', rt := Q } (L2.start N vs) H := by
  obtain ⟨bo, G, ds, P, R, pre, rs, hl, ⟨m, rfl, hm, hm2, hP⟩, hq, _⟩ := h
  obtain ⟨v1, v2, rfl, r1, r2⟩ := rs.inv2
  cases r2
  cases r1 with
  | @bag b hb =>
  have hb : bo = some b := hb
  subst hb
  obtain ⟨g0, hn0, bg⟩ := pre.bag b rfl
  obtain ⟨c, ns, i, r, mm, n, h1, h2, h3, h4, h5, h6⟩ := bg.ex
  have hσ : L2.start N [.ref b, .int m] = [some (.ref b), some (.int m), none, none, none] := by
    unfold L2.start
    rw [hN]
    rfl
  rw [hσ]
  -- the bag with other numbers in it
  have bagB : ∀ (i' r' m' n' : Int) (Hx : Hp), Hx b = some (.lst [.ref c, .int i', .int r', .int m', .int n']) → 0 ≤ i' → 0 ≤ r' → 0 ≤ m' → m' < 2147483648 → Bag K G Hx b := fun i' r' m' n' Hx e a1 a2 a3 a4 => ⟨c, ns, i', r', m', n', e, h2, a1, a2, a3, a4⟩
  have fin : ∀ (i' r' m' n' : Int) (Hx : Hp) (v : Int), Hx b = some (.lst [.ref c, .int i', .int r', .int m', .int n']) → (∀ a, a ≠ b → Hx a = H a) → 0 ≤ i' → 0 ≤ r' → 0 ≤ m' → m' < 2147483648 → 0 ≤ v → v < m → Q (.int v) Hx := fun i' r' m' n' Hx v e k a1 a2 a3 a4 a5 a6 =>
    hq (.int v) (.int v) G Hx (hP v a5 a6) (Post.bagUpd pre rfl k (bagB i' r' m' n' Hx e a1 a2 a3 a4) (by rw [e]; simp)) .int
  have lst : ∀ (Hx : Hp), (∀ a, a ≠ b → Hx a = H a) → SqL K Hx c (ns.map V.int) := fun Hx k => by
    refine Ex.l (fun a o ha => ?_) h2
    rw [k a (ne_of_none ha g0)]
    exact pre.exG _ _ ha
  have u1 : ∀ {Hx : Hp} {o : HO}, (∀ a, a ≠ b → Hx a = H a) → ∀ a, a ≠ b → (upd Hx b o) a = H a := fun k a ha => by
    rw [upd_ne ha]
    exact k a ha
  -- the last two parts, from any numbers
  have part4 : ∀ (i' r' m' n' : Int) (x2 x3 : Option V) (Hx : Hp), Hx b = some (.lst [.ref c, .int i', .int r', .int m', .int n']) → (∀ a, a ≠ b → Hx a = H a) → 0 ≤ i' → 0 ≤ r' → 0 ≤ m' → m' < 2147483648 →
      t_draw4 K { nx := fun _ H' => Q .non H', rt := Q } [some (.ref b), some (.int m), x2, x3, none] Hx := by
    intro i' r' m' n' x2 x3 Hx e k a1 a2 a3 a4
    refine r_bag e rfl rfl (.inl ⟨_, rfl, ?_⟩)
    refine ⟨_, rfl, _, _, rfl, rfl, ⟨by decide, by decide, by omega⟩, _, rfl, _, _, rfl, rfl, .inr ⟨by decide, by decide⟩, _, _, rfl, rfl, r_bag e rfl rfl ⟨_, _, rfl, rfl, .inr ⟨by decide, by decide⟩, _, _, rfl, rfl, _, _, rfl, rfl, .inl ⟨_, rfl, _, _, rfl, rfl, (by show (0 : Int) < _; decide), ?_⟩⟩⟩
    refine ⟨_, rfl, b, _, 4 - 1, 3, rfl, rfl, e, rfl, ?_⟩
    have q := Int.emod_nonneg (m' ^ (3 : Int).toNat + m' * 30029 + n' * 1299827 + 70001) (show (2147483587 : Int) ≠ 0 by decide)
    have q2 := Int.emod_lt_of_pos (m' ^ (3 : Int).toNat + m' * 30029 + n' * 1299827 + 70001) (show (0 : Int) < 2147483587 by decide)
    refine r_bag (upd_same) rfl rfl ⟨_, _, rfl, rfl, ⟨by decide, by decide⟩, r_bag upd_same rfl rfl (.inl ⟨_, rfl, _, _, rfl, rfl, (by show (0 : Int) < _; decide), _, _, rfl, rfl, .inr ⟨by decide, by decide⟩, _, _, rfl, rfl, .inl ⟨_, rfl, _, rfl, _, _, rfl, rfl, hm, ?_⟩⟩)⟩
    exact fin i' r' _ n' _ _ upd_same (u1 k) a1 a2 q (by omega) (Int.emod_nonneg _ (by omega)) (Int.emod_lt_of_pos _ hm)
  have part3 : ∀ (i' r' m' n' : Int) (x2 : Option V) (Hx : Hp), Hx b = some (.lst [.ref c, .int i', .int r', .int m', .int n']) → (∀ a, a ≠ b → Hx a = H a) → 0 ≤ i' → 0 ≤ r' → 0 ≤ m' → m' < 2147483648 →
      t_draw3 K { nx := t_draw4 K { nx := fun _ H' => Q .non H', rt := Q }, rt := Q } [some (.ref b), some (.int m), x2, none, none] Hx := by
    intro i' r' m' n' x2 Hx e k a1 a2 a3 a4
    refine r_bag e rfl rfl ⟨_, _, rfl, rfl, _, rfl, ?_⟩
    refine ite2 (fun hc => ?_) (fun _ => part4 i' r' m' n' x2 none Hx e k a1 a2 a3 a4)
    refine r_bag e rfl rfl (.inl ⟨_, rfl, _, rfl, _, _, rfl, rfl, hm, ?_⟩)
    refine r_bag e rfl rfl ⟨_, rfl, _, _, rfl, rfl, ⟨hm, hm2⟩, _, rfl, b, _, 2, 2, rfl, rfl, e, rfl, _, rfl, ?_⟩
    exact fin i' _ m' n' _ _ upd_same (u1 k) a1 (Int.ediv_nonneg a2 (by omega)) a3 a4 (Int.emod_nonneg _ (by omega)) (Int.emod_lt_of_pos _ hm)
  -- the first two
  refine r_bag h1 rfl rfl ⟨_, _, rfl, rfl, _, rfl, b, _, 4, 4, rfl, rfl, h1, rfl, ?_⟩
  have k1 : ∀ a, a ≠ b → (upd H b (.lst [.ref c, .int i, .int r, .int mm, .int (n + 1)])) a = H a := u1 fun _ _ => rfl
  refine r_bag upd_same rfl rfl ⟨rfl, _, rfl, ?_⟩
  refine ite2 (fun hc => ?_) (fun _ => ?_)
  · refine r_bag upd_same rfl rfl (r_bag upd_same rfl rfl ⟨_, _, rfl, .inl (lst _ k1), _, _, rfl, rfl, _, rfl, ?_⟩)
    refine ite2 (fun hc2 => ?_) (fun _ => part3 i r mm (n + 1) none _ upd_same k1 h3 h4 h5 h6)
    have hlt : i < ((ns.map V.int).length : Int) := of_decide_eq_true hc2
    rw [List.length_map] at hlt
    obtain ⟨z, hz⟩ : ∃ z, ns[i.toNat]? = some z := ⟨_, List.getElem?_eq_getElem (by omega)⟩
    refine r_bag upd_same rfl rfl (r_bag upd_same rfl rfl ⟨c, _, i, .int z, rfl, rfl, lst _ k1, ?_, ?_⟩)
    · unfold atI ixN
      rw [List.length_map, if_pos h3, if_pos hlt]
      show (ns.map V.int)[i.toNat]? = _
      rw [List.getElem?_map, hz]
      rfl
    refine r_bag upd_same rfl rfl ⟨_, _, rfl, rfl, _, rfl, b, _, 1, 1, rfl, rfl, upd_same, rfl, ?_⟩
    refine ⟨_, rfl, _, _, rfl, rfl, ⟨by decide, by decide, by decide⟩, _, _, rfl, rfl, _, rfl, ?_⟩
    refine ite2 (fun hc3 => ?_) (fun _ => ?_)
    · refine ⟨_, rfl, _, rfl, b, _, 2, 2, rfl, rfl, upd_same, rfl, ?_⟩
      have hz0 : (10 : Int) ^ (18 : Int).toNat ≤ z := of_decide_eq_true hc3
      have hz1 : (0 : Int) ≤ z := Int.le_trans (by decide) hz0
      exact part3 (i + 1) z mm (n + 1) _ _ upd_same (u1 (u1 k1)) (by omega) hz1 h5 h6
    · refine r_bag upd_same rfl rfl ⟨_, _, rfl, rfl, .inr ⟨by decide, by decide⟩, _, rfl, .inl ⟨_, rfl, _, _, rfl, rfl, (by show (0 : Int) < _; decide), _, _, rfl, rfl, .inr ⟨by decide, by decide⟩, _, _, rfl, rfl, _, _, rfl, rfl, .inl ⟨_, rfl, _, _, rfl, rfl, (by show (0 : Int) < _; decide), _, rfl, b, _, 3, 3, rfl, rfl, upd_same, rfl, ?_⟩⟩⟩
      have q := Int.emod_nonneg (mm * 40013 + z % 2147483563 * 6967 + 53) (show (2147483587 : Int) ≠ 0 by decide)
      have q2 := Int.emod_lt_of_pos (mm * 40013 + z % 2147483563 * 6967 + 53) (show (0 : Int) < 2147483587 by decide)
      exact part3 (i + 1) r _ (n + 1) _ _ upd_same (u1 (u1 k1)) (by omega) h4 q (by omega)
  · exact part3 i r mm (n + 1) none _ upd_same k1 h3 h4 h5 h6
end Pu
set_option maxRecDepth 100000
/-! The law's bag is made; the law itself -/
namespace Pu
open PySem L2 PySem.Spec PyProof.Rows
abbrev rListQ (K : PySem.W.Frag) : List V → Hp → VK → Prop := fun xs H Q => ∃ p ys, xs = [.ref p] ∧ (SqL K H p ys ∨ SqT K H p ys) ∧ ∀ l, H l = none → Q (.ref l) (upd H l (.lst ys))
section
variable (K : PySem.W.Frag)
abbrev tCut : TE := tSl (rSlL K) (tVar 0) tNoPart (tPart (tC (.int 63)))
def t_bag : TS := tSeq (tAsg (tC (.int 49360)) (gName 1)) (tSeq (tFor (iList K (tCut K)) (gName 2)
  (tAsg (tOp oMod (tInt (tOp oAdd (tOp oAdd (tOp oMul (tVar 1) (tC (.int 47353))) (tOp oMod (tInt (tVar 2)) (tC (.int 2147483579)))) (tC (.int 29)))) (tC (.int 2147483629))) (gName 1)))
  (tRet (tLst (tCons (tCB (rListQ K) (tCons (tCut K) tNil)) (tCons (tC (.int 0)) (tCons (tC (.int 0)) (tCons (tVar 1) (tCons (tC (.int 0)) tNil))))))))
end
/-- the script comes in; a bag goes out -/
def spBag (K : PySem.W.Frag) : Sp := fun vs H Q _ => ∃ (a : Addr) (ns : List Int), vs = [.ref a] ∧ SqL K H a (ns.map V.int) ∧
  ∀ (c b : Addr) (ms : List Int) (m : Int) (H' : Hp), c ≠ b → H' c = some (.lst (ms.map V.int)) → H' b = some (.lst [.ref c, .int 0, .int 0, .int m, .int 0]) → 0 ≤ m → m < 2147483648 → Q (.ref b) H'
theorem cut_ints (ns : List Int) (lo hi : Option Int) : cutV (ns.map V.int) lo hi = (cutD ns lo hi).map V.int := by
  unfold cutV cutD
  rw [List.length_map, List.map_take, List.map_drop]
theorem pure_bag {K : PySem.W.Frag} {vs : List V} {H : Hp} {Q : VK} {E : XK} {N : List Str} (hN : N.length = 3) (h : spBag K vs H Q E) : t_bag K { nx := fun _ H' => Q .non H', rt := Q } (L2.start N vs) H := by
  obtain ⟨a, ns, rfl, hS, k⟩ := h
  have hσ : L2.start N [.ref a] = [some (.ref a), none, none] := by
    unfold L2.start
    rw [hN]
    rfl
  rw [hσ]
  refine ⟨_, rfl, _, rfl, a, _, rfl, hS, fun p hp => ⟨p, rfl, ⟨_, SqL.of upd_same⟩, ?_⟩⟩
  rw [cut_ints]
  have e1 : Ex H (upd H p (.lst ((cutD ns none (some 63)).map V.int))) := fun x u hx => by
    rw [upd_ne (ne_of_none hx hp)]
    exact hx
  refine for_list (K := K) (a := p) (xs := (cutD ns none (some 63)).map V.int) (fun i σ H' => H' = upd H p (.lst ((cutD ns none (some 63)).map V.int)) ∧ ∃ (m : Int) (v : Option V), σ = [some (.ref a), some (.int m), v] ∧ 0 ≤ m ∧ m < 2147483648)
    ⟨rfl, 49360, none, rfl, by decide, by decide⟩ (fun i σ H' _ ⟨e, _⟩ => by rw [e]; exact SqL.of upd_same) ?_ ?_
  · rintro i x σ H' hi ⟨rfl, m, v, rfl, h1, h2⟩
    obtain ⟨z, rfl⟩ : ∃ z, x = V.int z := by
      rw [List.getElem?_map] at hi
      cases e : (cutD ns none (some 63))[i]? with
      | none => rw [e] at hi; cases hi
      | some z => rw [e] at hi; exact ⟨z, (Option.some.inj hi).symm⟩
    have q := Int.emod_nonneg (m * 47353 + z % 2147483579 + 29) (show (2147483629 : Int) ≠ 0 by decide)
    have q2 := Int.emod_lt_of_pos (m * 47353 + z % 2147483579 + 29) (show (0 : Int) < 2147483629 by decide)
    refine ⟨_, rfl, _, _, rfl, rfl, .inr ⟨by decide, by decide⟩, _, rfl, .inl ⟨_, rfl, _, _, rfl, rfl, (by show (0 : Int) < _; decide), _, _, rfl, rfl, _, _, rfl, rfl, .inl ⟨_, rfl, _, _, rfl, rfl, (by show (0 : Int) < _; decide), ?_⟩⟩⟩
    exact ⟨rfl, _, _, rfl, q, by omega⟩
  · rintro σ H' ⟨rfl, m, v, rfl, h1, h2⟩
    refine ⟨_, rfl, _, rfl, a, _, rfl, e1.l hS, fun p2 hp2 => ⟨p2, _, rfl, .inl (SqL.of upd_same), fun c hc => ⟨_, rfl, (by show 5 ≤ sizeLine; decide), fun b hb => ?_⟩⟩⟩
    rw [cut_ints] at hc hb ⊢
    have cb : c ≠ b := fun z => by
      subst z
      rw [upd_same] at hb
      cases hb
    exact k c b (cutD ns none (some 63)) m _ cb (by rw [upd_ne cb, upd_same]) upd_same h1 h2
/-! ### the law's def: the bag first, then all else over data -/
def spLaw (K : PySem.W.Frag) : Sp := fun vs H Q _ => ∃ (a : Addr) (ns : List Int), vs = [.ref a] ∧ SqL K H a (ns.map V.int) ∧ ∀ H', Q (.bl true) H'
def lawE (n : Nat) : En := .no :: .v .bag :: List.replicate (n - 2) .no
section
variable {P : Program} {w : World} {K : PySem.W.Frag} {mg : Str → Option Value} {base : Heap}
theorem law_ok {x qual : Str} {st : Stmt} {f : Addr} {fd : FuncData} {N ps : List Str} {k : Nat} (Fn : Fun K x qual st f fd) (S : FnScope N ps (defScope st)) (hps : ps.length = 1) (hN : 2 ≤ N.length)
    (body : ∀ (cdv : Value) (A : Around) (outer : List Env) (s : Shared) (H : Hp) (E : XK), Room k (A.deeper (envOfC qual (defScope st) s.heap.objs.size f cdv)) →
      ∃ (s0 : Stmt) (rest : List Stmt) (ws : WS), defBody st = s0 :: rest ∧ PS (cxOf (L2.CX P w) P w K mg base N qual (defScope st) f cdv A outer s H E) s0 (tAsg (tCall (spBag K) [] E0 (tCons (tVar 0) tNil)) (gName 1)) ∧
        PXB (cxOf (L2.CX P w) P w K mg base N qual (defScope st) f cdv A outer s H E) (WDef E) rest ws ∧ ws (lawE N.length) { nx := fun _ => False, rt := fun d => d = .bl true, ex := fun _ _ => False }) :
    FnOk P w K mg base (L2.CX P w) (k + 1) f fd ps (spLaw K) := by
  refine Fn.okX S (fun vs H Q E h => ?_) (fun cdv A outer s H vs Q E hr h => ?_)
  · obtain ⟨a, ns, rfl, _⟩ := h
    rw [hps]
    rfl
  obtain ⟨a, ns, rfl, hS, hQ⟩ := h
  obtain ⟨s0, rest, ws, hb, h0, h1, hw⟩ := body cdv A outer s H E hr
  obtain ⟨t, t1, t2⟩ := h1.ex
  rw [hb]
  refine ⟨_, pss_cons h0 t1, ?_⟩
  have hσ : L2.start N [.ref a] = some (.ref a) :: none :: List.replicate (N.length - 2) none := by
    unfold L2.start
    obtain ⟨n, e⟩ : ∃ n, N.length = n + 2 := ⟨N.length - 2, by omega⟩
    rw [e]
    show [some (V.ref a)] ++ List.replicate (n + 1) none = _
    rw [List.replicate_succ]
    rfl
  rw [hσ]
  refine ⟨_, rfl, a, ns, rfl, hS, fun c b ms m H' cb hc hb' m1 m2 => ?_⟩
  have hG : Ex (fun x => if x = c then some (HO.lst (ms.map V.int)) else none) H' := fun x o hx => by
    have hx' : (if x = c then some (HO.lst (ms.map V.int)) else none) = some o := hx
    by_cases z : x = c
    · rw [if_pos z] at hx'
      cases hx'
      rw [z]
      exact hc
    · rw [if_neg z] at hx'
      cases hx'
  have pre : Pre ⟨K, mg, some b⟩ (fun x => if x = c then some (HO.lst (ms.map V.int)) else none) H' := by
    refine ⟨hG, fun β hβ => ?_⟩
    have e : b = β := Option.some.inj hβ
    subst e
    exact ⟨if_neg (fun z => cb z.symm), by rw [hb']; simp, ⟨c, ms, 0, 0, m, 0, hb', SqL.of (if_pos rfl), by decide, by decide, m1, m2⟩⟩
  have si : SI ⟨⟨K, mg, some b⟩, (fun x => if x = c then some (HO.lst (ms.map V.int)) else none), H', []⟩ (lawE N.length) (some (.ref a) :: some (.ref b) :: List.replicate (N.length - 2) none) (fun x => if x = c then some (HO.lst (ms.map V.int)) else none) H' := by
    have hno : ∀ (j : Nat) (l : List D), (lawE N.length)[j]? ≠ some (.ol l) := fun j l e => by
      unfold lawE at e
      match j, e with
      | 0, e => cases e
      | 1, e => cases e
      | j + 2, e =>
        simp only [List.getElem?_cons_succ] at e
        rw [List.getElem?_replicate] at e
        split at e <;> cases e
    refine ⟨pre, Post.refl pre, ?_, fun i s e => ?_, fun i j l l' a _ e _ _ => absurd e (hno i l), fun q hq => by cases hq⟩
    · unfold lawE
      simp
    · unfold lawE at e
      match i, e with
      | 0, e => cases e; trivial
      | 1, e => cases e; exact ⟨_, rfl, .bag rfl⟩
      | j + 2, e =>
        simp only [List.getElem?_cons_succ] at e
        rw [List.getElem?_replicate] at e
        split at e
        · cases e; trivial
        · cases e
  refine t2 _ (lawE N.length) _ _ H' _ _ ⟨rfl, rfl⟩ si hw ?_
  refine ⟨fun _ _ _ _ z => z.elim, fun d v e1 σ1 G1 H1 p s1 r1 => ?_, fun _ _ _ _ z => z.elim, fun _ _ _ _ z => z.elim, fun _ _ _ _ _ _ _ z => z.elim⟩
  have p' : d = .bl true := p
  subst p'
  cases r1
  exact hQ H1
end
/-! ### a call by keywords -/
section
variable {X : Cx} {W : WX} {k n : Nat} {f : Addr} {fd : FuncData} {ps ks : List Str} {F : FT} {x : Str} {p pos kpos : Pos} {e : Expr} {es : List Expr} {w : WE} {kws : List Keyword} {nm : Option Str} {u : WA}
structure PXK (X : Cx) (W : WX) (kws : List Keyword) (w : WA) : Prop where
  ex : ∃ t, PK X kws t ∧ ∀ (F : Fc) (env : En) (σ : L2.St) (G H : Hp) (P : List D → En → Prop) (R : QX) (Q : List V → Hp → Prop), XOk X F → SI F env σ G H → w env P R →
    (∀ ds env' vs G' H', P ds env' → SI F env' σ G' H' → Ex G G' → Reps F.wd G' vs ds → Q vs H') → XK' F W σ R → t σ H Q
theorem pk_nil' : PXK X W [] wNil := ⟨⟨_, pk_nil, fun F env σ G H P R Q hx hs hw hq hk => hq [] env [] G H hw hs (Ex.refl _) .nil⟩⟩
theorem pk_cons' (h : PX X W e w) (g : PXK X W kws u) : PXK X W (⟨nm, e, kpos⟩ :: kws) (wCons w u) := by
  obtain ⟨t, a1, a2⟩ := h.ex
  obtain ⟨t', b1, b2⟩ := g.ex
  refine ⟨⟨_, pk_cons a1 b1, fun F env σ G H P R Q hx hs hw hq hk => a2 F env σ G H _ R _ hx hs hw (fun d e1 v G1 H1 p s1 x1 r1 => ?_) hk⟩⟩
  exact b2 F e1 σ G1 H1 _ R _ hx s1 p (fun ds e2 vs G2 H2 p2 s2 x2 r2 => hq (d :: ds) e2 (v :: vs) G2 H2 p2 s2 (x1.trans x2) (.cons (r1.mono x2) r2)) hk
theorem pe_callKS0 {g : List Value → List Value → List Value} {gV : List V → List V → List V} {sp : Sp} {CX : CXT} {E : XK} {tk : TA} (Fn : FnOk X.prog X.w X.K X.mg X.base CX k f fd ps sp) (hr : Room k X.A) (hg : Gl X x) (hm : X.mg x = some (.ref f)) (hk : PySem.W.keepIn X.K (.ref f) = true) (hb : KBinds X.K fd ps ks g gV) (hx : Passes CX X E)
    (hkw : PK X kws tk) (hall : (backToKw pos (keywordEach kws X.env)).all (·.1.isSome) = true := by rfl) (hks : (backToKw pos (keywordEach kws X.env)).filterMap (·.1) = ks := by rfl) (hdb : (x == ("__debug__" : Str)) = false := by decide)
    (hpl : ((backTo pos (starEach [] X.env)).any (·.1) || (backToKw pos (keywordEach kws X.env)).any (·.1.isNone)) = false := by rfl) :
    PE X (.Call (.Name x p) [] kws pos) (fun σ H Q => tk σ H fun zs H2 => sp (gV [] zs) H2 Q E) := by
  refine ⟨fun pins s σ H Q I h => ?_⟩
  refine wpAny_Call_Name_kw (ld_glob I hg hm ?_ hdb)
  refine PySem.W.callWith_KW0 (h₀ := X.base) I.ok.mod.kin hk hall ?_ hpl
  refine thn (hkw.run pos pins s σ H _ I h) fun ws s2 ⟨zs, H2, I2, rz, q2⟩ => ⟨I2.kIn, ?_⟩
  rw [hks]
  exact run_fnk (us := []) (vs := []) Fn hr hb hx I2 .nil rz q2
/-- f(k = e, ..) that raises nothing; g puts the keywords' values in the parameters' order -/
def wCallK (F : FT) (n : Nat) (g : List D → List D) (u : WA) : WE := fun env P R => u env (fun ds e => (g ds).length = n ∧ F (g ds) (fun d => P d e) fun _ => False) R
theorem px_callK0 {g : List Value → List Value → List Value} {gV : List V → List V → List V} {gD : List D → List D} (Fn : FnOk X.prog X.w X.K X.mg X.base (L2.CX X.prog X.w) k f fd ps (spP X.K X.mg n F)) (hr : Room k X.A) (hg : Gl X x) (hm : X.mg x = some (.ref f)) (hk : PySem.W.keepIn X.K (.ref f) = true) (hb : KBinds X.K fd ps ks g gV)
    (hgD : ∀ (w : Wd) (G : Hp) vs ds, Reps w G vs ds → Reps w G (gV [] vs) (gD ds)) (hkw : PXK X W kws u) (hall : (backToKw pos (keywordEach kws X.env)).all (·.1.isSome) = true := by rfl) (hks : (backToKw pos (keywordEach kws X.env)).filterMap (·.1) = ks := by rfl) (hdb : (x == ("__debug__" : Str)) = false := by decide)
    (hpl : ((backTo pos (starEach [] X.env)).any (·.1) || (backToKw pos (keywordEach kws X.env)).any (·.1.isNone)) = false := by rfl) :
    PX X W (.Call (.Name x p) [] kws pos) (wCallK F n gD u) := by
  obtain ⟨t, a1, a2⟩ := hkw.ex
  refine ⟨⟨_, pe_callKS0 (E := E0) Fn hr hg hm hk hb passL a1 hall hks hdb hpl, fun Fc' env σ G H P R Q hx hs hw hq hk => a2 Fc' env σ G H _ R _ hx hs hw (fun as e1 vs G1 H1 p1 s1 x1 r1 => ?_) hk⟩⟩
  obtain ⟨⟨K, mg, b⟩, G0, H0, pins⟩ := Fc'
  obtain ⟨h1, h2⟩ := hx
  cases h1
  cases h2
  exact ⟨b, G1, gD as, _, _, s1.pre, hgD _ _ _ _ r1, p1.1, p1.2, fun d v G' H' p po r => hq d e1 v G' H' p (s1.step po) (x1.trans po.ex) r, fun x cls dct G' H' p po r => p.elim⟩
end
theorem hd_law {P : Program} {w : World} (H : Hp) (s : Shared) (e : Value) (s' : Shared) : L2.CX P w [] H s (fun _ _ _ => False) e s' → False := fun c => by
  obtain ⟨_, _, _, _, _, _, _, _, _, _, _, _, z⟩ := c
  exact z.elim
/-- keywords in the parameters' order, no positional argument -/
theorem kbinds_all {K : PySem.W.Frag} {fd : FuncData} {ps : List Str} (h : ∀ us ws : List Value, (us ++ ws).length = ps.length → bindArgs fd ⟨us, ps.zip ws⟩ = pure (ps.zip (us ++ ws))) : KBinds K fd ps ps (fun us ws => us ++ ws) (fun vs zs => vs ++ zs) :=
  ⟨fun s us ws _ hl => .of_eq (h us ws hl), fun r r2 => r.append r2⟩
end Pu
set_option maxRecDepth 100000
/-! The helpers that every law has, over data -/
namespace Pu
open PySem L2 PySem.Spec PyProof.Rows
abbrev rdSub : RD2 := rdI (fun _ _ => True) fun i j => .int (i - j)
abbrev rdFdiv : RD2 := rdI CDivW fun i j => .int (i / j)
abbrev rdMod : RD2 := rdI (fun _ j => 0 < j) fun i j => .int (i % j)
abbrev rdPow : RD2 := rdI CPow fun i j => .int (i ^ j.toNat)
abbrev rdLt : RD2 := rdI (fun _ _ => True) fun i j => .bl (decide (i < j))
abbrev rdLe : RD2 := rdI (fun _ _ => True) fun i j => .bl (decide (i ≤ j))
abbrev rdGt : RD2 := rdI (fun _ _ => True) fun i j => .bl (decide (j < i))
abbrev rdGe : RD2 := rdI (fun _ _ => True) fun i j => .bl (decide (j ≤ i))
theorem px_globE {X : Cx} {W : WX} {x : Str} {v : V} {d : D} {pos : Pos} (hg : Gl X x) (hm : ∃ u, X.mg x = some u ∧ RelV v u) (hr : ∀ w G, Rep w G v d) (hd : (x == ("__debug__" : Str)) = false := by decide) : PX X W (.Name x pos) (wC d) := by
  obtain ⟨u, h1, h2⟩ := hm
  exact px_glob hg h1 h2 hr hd
/-! ### _law_of: one of some -/
def w_law_of (F_law_draw : FT) : WS :=
    (wsRet (wOp rdIx (wVar 1) (wCall (fun ds P R => ds.length = 2 ∧ F_law_draw ds P R) [] (wCons (wVar 0) (wCons (wCB rdLen (wCons (wVar 1) wNil)) wNil)))))
def F_of : FT := fun ds P _ => ∃ l, (ds = [.bag, .lst l] ∨ ds = [.bag, .tup l]) ∧ l ≠ [] ∧ l.length < 2 ^ 60 ∧ ∀ d ∈ l, P d
theorem log_small {n : Nat} (h : n < 2 ^ 60) : n.log2 < 9000 := by
  by_cases h0 : n = 0
  · rw [h0]
    decide
  · have := (Nat.log2_lt h0).mpr h
    omega
theorem pure_law_of (ds : List D) (P : D → Prop) (R : DX → Prop) (hl : ds.length = 2) (h : F_of ds P R) : w_law_of F_draw (startE 2 ds) { nx := fun _ => P .non, rt := P, ex := fun x _ => R x } := by
  obtain ⟨l, hd, h0, h1, h2⟩ := h
  have pos : 0 < l.length := List.length_pos_iff.mpr h0
  have key : ∀ v : Int, 0 ≤ v → v < (l.length : Int) → ∃ d, atI l v = some d ∧ P d := fun v a b => by
    have hv : v.toNat < l.length := by omega
    refine ⟨l[v.toNat], ?_, h2 _ (List.getElem_mem hv)⟩
    unfold atI ixN
    rw [if_pos a, if_pos b]
    exact List.getElem?_eq_getElem hv
  rcases hd with rfl | rfl
  · exact ⟨rfl, (l.length : Int), rfl, by omega, by simpa using log_small h1, fun v a b => key v a b⟩
  · exact ⟨rfl, (l.length : Int), rfl, by omega, by simpa using log_small h1, fun v a b => key v a b⟩
/-! ### _law_same -/
def w_law_same (F_law_same : FT) : WS :=
    (wsSeq (wsIf (wOr (wTest (wOp rdIs (wVar 1) (wC .non))) (wTest (wOp rdIs (wVar 0) (wC .non)))) (wsRet (wAndV (wOp rdIs (wVar 1) (wC .non)) (wOp rdIs (wVar 0) (wC .non)))) wsNext)
    (wsSeq (wsIf (wTest (wIsi2 .list .tuple (wVar 1))) (wsSeq (wsIf (wOr (wTest (wOp rdNe (wIsi .list (wVar 0)) (wIsi .list (wVar 1)))) (wTest (wOp rdNe (wIsi .tuple (wVar 0)) (wIsi .tuple (wVar 1))))) (wsRet (wC (.bl false))) wsNext)
    (wsRet (wAndV (wOp rdEq (wCB rdLen (wCons (wVar 0) wNil)) (wCB rdLen (wCons (wVar 1) wNil))) (wCB rdAll (wCons (wLc [2, 3] (wZip (wVar 0) (wVar 1)) (wgTup2 (wgName 2) (wgName 3)) wYes (wCall (fun ds P R => ds.length = 2 ∧ F_law_same ds P R) [] (wCons (wVar 2) (wCons (wVar 3) wNil)))) wNil))))) wsNext)
    (wsSeq (wsIf (wOr (wTest (wOp rdNe (wIsi .bool (wVar 0)) (wIsi .bool (wVar 1)))) (wTest (wOp rdNe (wIsi .int (wVar 0)) (wIsi .int (wVar 1))))) (wsRet (wC (.bl false))) wsNext)
    (wsRet (wAndV (wOp rdEq (wIsi .str (wVar 0)) (wIsi .str (wVar 1))) (wOp rdEq (wVar 0) (wVar 1)))))))
/-- plain data of a depth -/
def dep : Nat → D → Bool
  | _, .non => true
  | _, .bl _ => true
  | _, .int _ => true
  | _, .str _ => true
  | n + 1, .lst l => decide (l.length ≤ 100000) && l.all (dep n)
  | n + 1, .tup l => decide (l.length ≤ 100000) && l.all (dep n)
  | _, _ => false
/-- equal data: True (the law asks for no more) -/
def F_same (n : Nat) : FT := fun ds P _ => ∃ d, ds = [d, d] ∧ dep n d = true ∧ P (.bl true)
theorem zip_self (l : List D) : zipD l l = l.map fun d => .tup [d, d] := by
  unfold zipD
  induction l with
  | nil => rfl
  | cons x l ih =>
    rw [List.zipWith_cons_cons, List.map_cons, ih]
/-! ### comprehensions without a test: what each turn may give -/
inductive Rels (R : D → D → Prop) : List D → List D → Prop
  | nil : Rels R [] []
  | cons {x d xs ds} : R x d → Rels R xs ds → Rels R (x :: xs) (d :: ds)
theorem lcL_rel {g : WG} {we : WE} {own : List Nat} {w0 : En} {Rl : D → D → Prop} : ∀ (l acc : List D) (env : En) (P : List D → En → Prop),
    (∀ x ∈ l, ∀ Pk : D → En → Prop, (∀ d e3, Rl x d → wipeE e3 own = w0 → Pk d e3) → g x w0 fun e1 => we e1 Pk fun _ _ => False) → wipeE env own = w0 →
    (∀ out e', Rels Rl l out → wipeE e' own = w0 → P (acc ++ out) e') → wLcL g wYes we own l acc env P
  | [], acc, env, P, _, he, hP => by
    have q := hP [] env .nil he
    rw [List.append_nil] at q
    exact q
  | x :: xs, acc, env, P, h, he, hP => by
    show g x (wipeE env own) fun e1 => we e1 (fun d e3 => wLcL g wYes we own xs (acc ++ [d]) e3 P) fun _ _ => False
    rw [he]
    refine h x List.mem_cons_self _ fun d e3 hd h3 => ?_
    refine lcL_rel xs (acc ++ [d]) e3 P (fun y hy => h y (List.mem_cons_of_mem _ hy)) h3 fun out e' ho h' => ?_
    rw [List.append_assoc]
    exact hP (d :: out) e' (.cons hd ho) h'
theorem lc_in {g : WG} {we : WE} {own : List Nat} {e1 : En} {P : D → En → Prop} (Rl : D → D → Prop) (ds : List D) (hl : ds.length ≤ 100000)
    (h : ∀ x ∈ ds, ∀ Pk : D → En → Prop, (∀ d e3, Rl x d → wipeE e3 own = wipeE e1 own → Pk d e3) → g x (wipeE e1 own) fun e1 => we e1 Pk fun _ _ => False)
    (hP : ∀ out, Rels Rl ds out → P (.lst out) (backE e1 e1 own)) : ds.length ≤ 100000 ∧ wLcL g wYes we own ds [] e1 fun acc e2 => P (.lst acc) (backE e1 e2 own) := by
  refine ⟨hl, lcL_rel ds [] e1 _ h rfl fun out e' ho h' => ?_⟩
  have e : backE e1 e' own = backE e1 e1 own := by rw [← backE_wipe e1 e' own, h', backE_wipe]
  show P (.lst ([] ++ out)) (backE e1 e' own)
  rw [e]
  exact hP out ho
theorem Rels.length {R : D → D → Prop} : ∀ {l o : List D}, Rels R l o → o.length = l.length
  | _, _, .nil => rfl
  | _, _, .cons _ t => congrArg Nat.succ t.length
theorem Rels.eq_map {f : D → D} : ∀ {l o : List D}, Rels (fun x d => d = f x) l o → o = l.map f
  | _, _, .nil => rfl
  | _, _, .cons h t => by rw [List.map_cons, h, t.eq_map]
theorem Rels.mem {R : D → D → Prop} : ∀ {l o : List D} {d : D}, Rels R l o → d ∈ o → ∃ x ∈ l, R x d
  | _, _, _, .nil, h => by cases h
  | _, _, _, .cons r t, h => by
    rcases List.mem_cons.mp h with z | z
    · subst z
      exact ⟨_, List.mem_cons_self, r⟩
    · obtain ⟨x, h1, h2⟩ := t.mem z
      exact ⟨x, List.mem_cons_of_mem _ h1, h2⟩
theorem Rels.mono {R S : D → D → Prop} (h : ∀ x d, R x d → S x d) : ∀ {l o : List D}, Rels R l o → Rels S l o
  | _, _, .nil => .nil
  | _, _, .cons r t => .cons (h _ _ r) (t.mono h)
theorem bools_true : ∀ n : Nat, bools (List.replicate n (.bl true)) = some (List.replicate n true)
  | 0 => rfl
  | n + 1 => by
    show (bools (List.replicate n (.bl true))).map (true :: ·) = _
    rw [bools_true n]
    rfl
theorem all_true : ∀ n : Nat, (List.replicate n true).all id = true
  | 0 => rfl
  | n + 1 => by
    rw [List.replicate_succ, List.all_cons, all_true n]
    rfl
theorem Rels.trues : ∀ {l o : List D}, Rels (fun _ d => d = .bl true) l o → o = List.replicate l.length (.bl true)
  | _, _, .nil => rfl
  | _, _, .cons h t => by rw [List.length_cons, List.replicate_succ, h, t.trues]
theorem rdEq_self_int {i : Int} {P : D → Prop} (h : P (.bl true)) : rdEq (.int i) (.int i) P := by
  show P (.bl (decide (i = i)))
  rw [decide_eq_true rfl]
  exact h
theorem rdEq_self_str {i : Str} {P : D → Prop} (h : P (.bl true)) : rdEq (.str i) (.str i) P := by
  show P (.bl (decide (i = i)))
  rw [decide_eq_true rfl]
  exact h
theorem rdEq_self_bl {i : Bool} {P : D → Prop} (h : P (.bl true)) : rdEq (.bl i) (.bl i) P := by
  show P (.bl (decide (i = i)))
  rw [decide_eq_true rfl]
  exact h
theorem same_seq {F : FT} {l : List D} {d : D} {K : EnD} (hl : l.length ≤ 100000) (hF : ∀ x ∈ l, ∀ P R, P (.bl true) → F [x, x] P R) (hK : K.rt (.bl true)) :
    ∀ env : En, wCB rdAll (wCons (wLc [2, 3] (fun env P R => P (zipD l l) env) (wgTup2 (wgName 2) (wgName 3)) wYes (wCall (fun ds P R => ds.length = 2 ∧ F ds P R) [] (wCons (wVar 2) (wCons (wVar 3) wNil)))) wNil) [.v d, .v d, .no, .no] (fun d _ => K.rt d) K.ex := by
  intro _
  show (zipD l l).length ≤ 100000 ∧ _
  rw [zip_self]
  refine lc_in (P := fun d e => rdAll [d] fun z => K.rt z) (fun _ d => d = .bl true) _ (by rw [List.length_map]; exact hl) (fun x hx Pk hk => ?_) (fun out ho => ?_)
  · obtain ⟨y, hy, rfl⟩ := List.mem_map.mp hx
    exact ⟨rfl, hF y hy _ _ (hk _ _ rfl rfl)⟩
  · rw [ho.trues]
    exact ⟨_, bools_true _, by rw [all_true]; exact hK⟩
theorem wAndV_of {wa u : WE} {env : En} {P : D → En → Prop} {R : QX} (h : ∀ Pk : D → En → Prop, Pk (.bl true) env → wa env Pk R) (hu : u env P R) : wAndV wa u env P R := h _ hu
theorem pure_law_same : ∀ (n : Nat) (F : FT), (∀ m, n = m + 1 → F = F_same m) → ∀ (ds : List D) (P : D → Prop) (R : DX → Prop), ds.length = 2 → F_same n ds P R → w_law_same F (startE 4 ds) { nx := fun _ => P .non, rt := P, ex := fun x _ => R x } := by
  intro n F hF ds P R _ h
  obtain ⟨d, rfl, hd, hP⟩ := h
  cases d with
  | non => exact hP
  | bl b => exact rdEq_self_bl hP
  | int i => exact rdEq_self_int hP
  | str s => exact rdEq_self_str hP
  | bag => cases n <;> cases hd
  | ins c fs => cases n <;> cases hd
  | lst l =>
    cases n with
    | zero => cases hd
    | succ n =>
      have e := hF n rfl
      subst e
      have hd' : (decide (l.length ≤ 100000) && l.all (dep n)) = true := hd
      rw [Bool.and_eq_true, decide_eq_true_iff] at hd'
      show wAndV (wOp rdEq (wCB rdLen (wCons (wVar 0) wNil)) (wCB rdLen (wCons (wVar 1) wNil))) (wCB rdAll (wCons (wLc [2, 3] (wZip (wVar 0) (wVar 1)) (wgTup2 (wgName 2) (wgName 3)) wYes (wCall (fun ds P R => ds.length = 2 ∧ F_same n ds P R) [] (wCons (wVar 2) (wCons (wVar 3) wNil)))) wNil)) [.v (.lst l), .v (.lst l), .no, .no] (fun d _ => P d) (fun x _ => R x)
      refine wAndV_of (fun Pk hk => rdEq_self_int (i := (l.length : Int)) (P := fun z => Pk z _) hk) ?_
      exact same_seq (F := F_same n) (d := .lst l) (K := { nx := fun _ => P .non, rt := P, ex := fun x _ => R x }) hd'.1 (fun x hx P R hp => ⟨x, rfl, List.all_eq_true.mp hd'.2 x hx, hp⟩) hP []
  | tup l =>
    cases n with
    | zero => cases hd
    | succ n =>
      have e := hF n rfl
      subst e
      have hd' : (decide (l.length ≤ 100000) && l.all (dep n)) = true := hd
      rw [Bool.and_eq_true, decide_eq_true_iff] at hd'
      show wAndV (wOp rdEq (wCB rdLen (wCons (wVar 0) wNil)) (wCB rdLen (wCons (wVar 1) wNil))) (wCB rdAll (wCons (wLc [2, 3] (wZip (wVar 0) (wVar 1)) (wgTup2 (wgName 2) (wgName 3)) wYes (wCall (fun ds P R => ds.length = 2 ∧ F_same n ds P R) [] (wCons (wVar 2) (wCons (wVar 3) wNil)))) wNil)) [.v (.tup l), .v (.tup l), .no, .no] (fun d _ => P d) (fun x _ => R x)
      refine wAndV_of (fun Pk hk => rdEq_self_int (i := (l.length : Int)) (P := fun z => Pk z _) hk) ?_
      exact same_seq (F := F_same n) (d := .tup l) (K := { nx := fun _ => P .non, rt := P, ex := fun x _ => R x }) hd'.1 (fun x hx P R hp => ⟨x, rfl, List.all_eq_true.mp hd'.2 x hx, hp⟩) hP []
end Pu
namespace Pu
open PySem L2 PySem.Spec PyProof.Rows
/-! ### is_name -/
def w_is_name  : WS :=
    (wsSeq (wsIf (wOr (wNot (wTest (wIsi .str (wVar 0)))) (wOr (wNot (wTest (wChain rdLe rdLe (wC (.int 1)) (wCB rdLen (wCons (wVar 0) wNil)) (wC (.int 8))))) (wTest (wOp rdEq (wVar 0) (wC (.str "ground")))))) (wsRet (wC (.bl false))) wsNext)
    (wsRet (wCB rdAll (wCons (wLc [1] (wIt (wVar 0)) (wgName 1) wYes (wOp (rdIn false) (wVar 1) (wC (.str "abcdefghijklmnopqrstuvwxyz")))) wNil))))
/-- a name, over data -/
def smallS : Str := "abcdefghijklmnopqrstuvwxyz"
def groundS : Str := "ground"
def isName (s : Str) : Bool := (decide (1 ≤ s.length) && decide (s.length ≤ 8)) && (!decide (s = groundS)) && s.cps.toList.all fun c => decide (c ∈ smallS.cps.toList)
def isNameD : D → Option Bool
  | .str s => if s.length ≤ sizeLine then some (isName s) else none
  | .non => some false | .bl _ => some false | .int _ => some false | .lst _ => some false | .tup _ => some false
  | _ => none
def F_is_name : FT := fun ds P _ => ∃ d b, ds = [d] ∧ isNameD d = some b ∧ P (.bl b)
theorem signs_len (s : Str) : (signsD s).length = s.length := by
  unfold signsD
  rw [List.length_map, Array.length_toList]
  rfl
theorem bools_map {α : Type} (f : α → Bool) : ∀ l : List α, bools (l.map fun c => .bl (f c)) = some (l.map f)
  | [] => rfl
  | x :: l => by
    show (bools (l.map fun c => .bl (f c))).map (f x :: ·) = _
    rw [bools_map f l]
    rfl
theorem is_name_str (s : Str) (hs : s.length ≤ sizeLine) (P : D → Prop) (R : DX → Prop) (hP : P (D.bl (isName s))) : w_is_name (startE 2 [D.str s]) { nx := fun _ => P .non, rt := P, ex := fun x _ => R x } := by
  have fin : s.length ≤ 8 → (1 : Int) ≤ s.length → ¬ s = groundS → (signsD s).length ≤ 100000 ∧ wLcL (wgName 1) wYes (wOp (rdIn false) (wVar 1) (wC (D.str smallS))) [1] (signsD s) [] [Sl.v (D.str s), .no] fun acc e2 => ∃ bs, bools acc = some bs ∧ P (D.bl (bs.all id)) := by
    intro h8 h1 hg
    refine lc_in (e1 := [Sl.v (D.str s), .no]) (P := fun d e => rdAll [d] fun z => P z) (fun x d => ∃ c : Nat, x = .str ⟨#[c]⟩ ∧ d = .bl (decide (c ∈ smallS.cps.toList))) (signsD s) (by rw [signs_len]; omega) (fun x hx Pk hk => ?_) (fun out ho => ?_)
    · unfold signsD at hx
      obtain ⟨c, hc, rfl⟩ := List.mem_map.mp hx
      exact hk _ _ ⟨c, rfl, rfl⟩ rfl
    · have key : ∀ (l : List Nat) (out : List D), Rels (fun x d => ∃ c : Nat, x = .str ⟨#[c]⟩ ∧ d = .bl (decide (c ∈ smallS.cps.toList))) (l.map fun c => D.str ⟨#[c]⟩) out → out = l.map fun c => D.bl (decide (c ∈ smallS.cps.toList)) := by
        intro l
        induction l with
        | nil => intro out h; cases h; rfl
        | cons c l ih =>
          intro out h
          cases h with
          | cons r t =>
            obtain ⟨c', e1, e2⟩ := r
            have e3 : c' = c := by
              have := D.str.inj e1
              have := congrArg (fun s : Str => s.cps.toList) this
              simpa using this.symm
            rw [List.map_cons, e2, ih _ t, e3]
      rw [key _ _ ho]
      refine ⟨_, bools_map _ _, ?_⟩
      have : isName s = (List.map (fun c => decide (c ∈ smallS.cps.toList)) s.cps.toList).all id := by
        unfold isName
        rw [decide_eq_true h8, decide_eq_true (show 1 ≤ s.length by omega), decide_eq_false hg, List.all_map]
        rfl
      rw [this] at hP
      exact hP
  dsimp only [w_is_name, wsSeq, wsIf, wOr, wNot, wTest, wIsi, wVar, wChain, wC, wCB, wCons, wNil, rdLen, rdLe, rdI, wOp, rdEq, eqS, startE, isTD, List.map, List.append, List.replicate, List.length, wsRet, wsNext, wLc, wIt, rdIt, rdAll, List.getElem?_cons_zero, List.getElem?_cons_succ, List.cons_append, List.nil_append, Bool.not_true, Bool.not_false]
  refine ⟨hs, trivial, ?_⟩
  by_cases h1 : (1 : Int) ≤ s.length
  · rw [decide_eq_true h1]
    refine ⟨trivial, ?_⟩
    by_cases h8 : (s.length : Int) ≤ 8
    · rw [decide_eq_true h8]
      by_cases hg : s = groundS
      · have e : decide (s = Str.ofString "ground") = true := decide_eq_true hg
        show match decide (s = Str.ofString "ground") with | true => P (D.bl false) | false => _
        rw [e]
        have : isName s = false := by unfold isName; rw [decide_eq_true hg]; simp
        rw [this] at hP
        exact hP
      · have e : decide (s = Str.ofString "ground") = false := decide_eq_false hg
        show match decide (s = Str.ofString "ground") with | true => P (D.bl false) | false => _
        rw [e]
        exact fin (by omega) h1 hg
    · rw [decide_eq_false h8]
      have : isName s = false := by unfold isName; rw [decide_eq_false (show ¬ s.length ≤ 8 by omega)]; simp
      rw [this] at hP
      exact hP
  · rw [decide_eq_false h1]
    have : isName s = false := by unfold isName; rw [decide_eq_false (show ¬ 1 ≤ s.length by omega)]; simp
    rw [this] at hP
    exact hP
theorem pure_is_name (ds : List D) (P : D → Prop) (R : DX → Prop) (_ : ds.length = 1) (h : F_is_name ds P R) : w_is_name (startE 2 ds) { nx := fun _ => P .non, rt := P, ex := fun x _ => R x } := by
  obtain ⟨d, b, rfl, hd, hP⟩ := h
  cases d with
  | non => cases hd; exact hP
  | bl _ => cases hd; exact hP
  | int _ => cases hd; exact hP
  | lst _ => cases hd; exact hP
  | tup _ => cases hd; exact hP
  | bag => cases hd
  | ins _ _ => cases hd
  | str s =>
    have hd' : (if s.length ≤ sizeLine then some (isName s) else none) = some b := hd
    by_cases hs : s.length ≤ sizeLine
    · rw [if_pos hs] at hd'
      cases hd'
      exact is_name_str s hs P R hP
    · rw [if_neg hs] at hd'
      cases hd'
end Pu
namespace Pu
open PySem L2 PySem.Spec PyProof.Rows
/-- a for by what holds between its turns -/
theorem forL_inv {g : WG} {b : WS} {K : EnD} (I : En → Prop) : ∀ (ds : List D) (env : En), (∀ x ∈ ds, ∀ env, I env → ∀ Kn : En → Prop, (∀ e, I e → Kn e) → g x env fun e1 => b e1 { K with nx := Kn, ct := Kn, bk := K.nx }) → I env → (∀ e, I e → K.nx e) → wsForL g b K ds env
  | [], env, _, h, hk => hk env h
  | x :: xs, env, ht, h, hk => ht x List.mem_cons_self env h _ fun e he => forL_inv I xs e (fun y hy => ht y (List.mem_cons_of_mem _ hy)) he hk
end Pu
namespace Pu
open PySem L2 PySem.Spec PyProof.Rows
/-- a comprehension without a test, its source one of those that ok tells, its items by Rl -/
theorem wLc_in {g : WG} {we : WE} {own : List Nat} {env : En} {wi : WA} {P : D → En → Prop} {R : QX} (ok : List D → Prop) (Rl : D → D → Prop)
    (hwi : ∀ Pk : List D → En → Prop, (∀ ds, ok ds → Pk ds env) → wi env Pk R) (hl : ∀ ds, ok ds → ds.length ≤ 100000)
    (h : ∀ ds, ok ds → ∀ x ∈ ds, ∀ Pk : D → En → Prop, (∀ d e3, Rl x d → wipeE e3 own = wipeE env own → Pk d e3) → g x (wipeE env own) fun e1 => we e1 Pk fun _ _ => False)
    (hP : ∀ ds out, ok ds → Rels Rl ds out → P (.lst out) (backE env env own)) : wLc own wi g wYes we env P R :=
  hwi _ fun ds hd => lc_in (P := P) Rl ds (hl ds hd) (h ds hd) fun out ho => hP ds out hd ho
end Pu
namespace Pu
open PySem L2 PySem.Spec PyProof.Rows
/-! ### one statement at a time: what follows stays folded -/
theorem st_set {i : Nat} {w : WE} {b : WS} {env : En} {K : EnD} (A : D → Prop) (hw : ∀ Pk : D → En → Prop, (∀ d, A d → Pk d env) → w env Pk K.ex) (hb : ∀ d, A d → b (env.set i (.v d)) K) : wsSeq (wsSet i w) b env K := hw _ fun d hd => hb d hd
theorem st_set1 {i : Nat} {w : WE} {env : En} {K : EnD} (A : D → Prop) (hw : ∀ Pk : D → En → Prop, (∀ d, A d → Pk d env) → w env Pk K.ex) (hb : ∀ d, A d → K.nx (env.set i (.v d))) : wsSet i w env K := hw _ fun d hd => hb d hd
theorem st_par {i j : Nat} {w : WA} {b : WS} {env : En} {K : EnD} (A : D → D → Prop) (hw : ∀ Pk : List D → En → Prop, (∀ d e, A d e → Pk [d, e] env) → w env Pk K.ex) (hb : ∀ d e, A d e → b ((env.set i (.v d)).set j (.v e)) K) : wsSeq (wsPar i j w) b env K := hw _ fun d e hd => hb d e hd
theorem st_if {c : WT} {t e b : WS} {env : En} {K : EnD} (k : Bool) (hc : ∀ Pk : Bool → En → Prop, Pk k env → c env Pk K.ex) (ht : k = true → t env { K with nx := fun e => b e K }) (he : k = false → e env { K with nx := fun e => b e K }) : wsSeq (wsIf c t e) b env K := hc _ (by
  cases k with
  | true => exact ht rfl
  | false => exact he rfl)
theorem st_if1 {c : WT} {t e : WS} {env : En} {K : EnD} (k : Bool) (hc : ∀ Pk : Bool → En → Prop, Pk k env → c env Pk K.ex) (ht : k = true → t env K) (he : k = false → e env K) : wsIf c t e env K := hc _ (by
  cases k with
  | true => exact ht rfl
  | false => exact he rfl)
theorem st_ret {w : WE} {env : En} {K : EnD} (A : D → Prop) (hw : ∀ Pk : D → En → Prop, (∀ d, A d → Pk d env) → w env Pk K.ex) (hb : ∀ d, A d → K.rt d) : wsRet w env K := by
  have q := hw (fun d e => A d ∧ e = env) (fun d hd => ⟨hd, rfl⟩)
  exact hw (fun d _ => K.rt d) fun d hd => hb d hd
end Pu
namespace Pu
open PySem L2 PySem.Spec PyProof.Rows
/-- a def that is never called -/
theorem fn_false {P : Program} {w : World} {K : PySem.W.Frag} {mg : Str → Option Value} {base : Heap} {f : Addr} {fd : FuncData} {ps : List Str} {k n : Nat} {CX : CXT} : FnOk P w K mg base CX k f fd ps (spP K mg n fun _ _ _ => False) :=
  ⟨fun vs H Q E h => by
    obtain ⟨_, _, _, _, _, _, _, _, z, _⟩ := h
    exact z.elim, fun A outer s H args us vs Q E hr e0 hb r h => by
    obtain ⟨_, _, _, _, _, _, _, _, z, _⟩ := h
    exact z.elim⟩
end Pu
namespace Pu
open PySem L2 PySem.Spec PyProof.Rows
/-! ### the text by its places -/
def top (i : Nat) : Stmt := PySem.Challenge.pw_partswing_k06_names_known.main.body.getD i (.Pass ⟨0, 0, 0, 0⟩)
structure Txt (K : PySem.W.Frag) (mg : Str → Option Value) where
  f_law_bag : Addr
  fd_law_bag : FuncData
  fn_law_bag : Fun K "_law_bag" "_law_bag" (top 4) f_law_bag fd_law_bag
  g_law_bag : mg "_law_bag" = some (.ref f_law_bag)
  bd_law_bag : Binds K fd_law_bag ["_law_script"] []
  f_law_draw : Addr
  fd_law_draw : FuncData
  fn_law_draw : Fun K "_law_draw" "_law_draw" (top 5) f_law_draw fd_law_draw
  g_law_draw : mg "_law_draw" = some (.ref f_law_draw)
  bd_law_draw : Binds K fd_law_draw ["_law_bag_here", "_law_many"] []
  f_law_of : Addr
  fd_law_of : FuncData
  fn_law_of : Fun K "_law_of" "_law_of" (top 6) f_law_of fd_law_of
  g_law_of : mg "_law_of" = some (.ref f_law_of)
  bd_law_of : Binds K fd_law_of ["_law_bag_here", "_law_some"] []
  f_law_same : Addr
  fd_law_same : FuncData
  fn_law_same : Fun K "_law_same" "_law_same" (top 7) f_law_same fd_law_same
  g_law_same : mg "_law_same" = some (.ref f_law_same)
  bd_law_same : Binds K fd_law_same ["_law_found", "_law_due"] []
  f_is_name : Addr
  fd_is_name : FuncData
  fn_is_name : Fun K "is_name" "is_name" (top 2) f_is_name fd_is_name
  g_is_name : mg "is_name" = some (.ref f_is_name)
  bd_is_name : Binds K fd_is_name ["value"] []
  kb_is_name : KBinds K fd_is_name ["value"] ["value"] (fun us ws => us ++ ws) (fun vs zs => vs ++ zs)
  f_law : Addr
  fd_law : FuncData
  fn_law : Fun K "law" "law" (top 8) f_law fd_law
  g_law : mg "law" = some (.ref f_law)
  bd_law : Binds K fd_law ["_law_script"] []
  b_int : mg "int" = none
  b_list : mg "list" = none
  b_len : mg "len" = none
  b_isinstance : mg "isinstance" = none
  b_tuple : mg "tuple" = none
  b_zip : mg "zip" = none
  b_all : mg "all" = none
  b_bool : mg "bool" = none
  b_str : mg "str" = none
  b_range : mg "range" = none
  c_SMALL : ∃ u, mg "SMALL" = some u ∧ RelV (.str "abcdefghijklmnopqrstuvwxyz") u
/-! ### _law_bag -/
abbrev s_law_bag : Stmt := top 4
abbrev N_law_bag : List Str := ["_law_script", "_law_mixed", "_law_cell"]
abbrev ps_law_bag : List Str := ["_law_script"]
theorem sc_law_bag : FnScope N_law_bag ps_law_bag (defScope s_law_bag) := ⟨rfl, rfl, rfl, by decide +kernel, rfl, by decide +kernel, by decide +kernel⟩
theorem ok_law_bag {P : Program} {w : World} {K : PySem.W.Frag} {mg : Str → Option Value} {base : Heap} (T : Txt K mg) : FnOk P w K mg base (L2.CX P w) 1 T.f_law_bag T.fd_law_bag ps_law_bag (spBag K) := by
  refine T.fn_law_bag.okX sc_law_bag (fun vs H Q E h => ?_) (fun cdv A outer s H vs Q E hr h => ⟨t_bag K, ?_, pure_bag rfl h⟩)
  · obtain ⟨a, ns, rfl, _⟩ := h
    rfl
  · exact (pss_cons (ps_set (i := 1) sc_law_bag.nd rfl (by first | exact Or.inl rfl | exact Or.inr rfl) pe_int) (pss_cons (ps_for (passes_of rfl) rfl (pi_list (pe_slice sl_list (pv 0) po_none (po_some pe_int))) (pg_name (i := 2) sc_law_bag.nd rfl (by first | exact Or.inl rfl | exact Or.inr rfl)) (pss_one (ps_set (i := 1) sc_law_bag.nd rfl (by first | exact Or.inl rfl | exact Or.inr rfl) (pe_op op_mod (pe_callTy call_int1 (by rfl) T.b_int (by decide +kernel) (pa_cons (pe_op op_add (pe_op op_add (pe_op op_mul (pv 1) pe_int) (pe_op op_mod (pe_callTy call_int1 (by rfl) T.b_int (by decide +kernel) (pa_cons (pv 2) pa_nil)) pe_int)) pe_int) pa_nil)) pe_int)))) (pss_one (ps_ret (pe_lst (pa_cons (pe_callTy call_list_of (by rfl) T.b_list (by decide +kernel) (pa_cons (pe_slice sl_list (pv 0) po_none (po_some pe_int)) pa_nil)) (pa_cons pe_int (pa_cons pe_int (pa_cons (pv 1) (pa_cons pe_int pa_nil))))))))))
/-! ### _law_draw -/
abbrev s_law_draw : Stmt := top 5
abbrev N_law_draw : List Str := ["_law_bag_here", "_law_many", "_law_cell", "_law_digit", "_law_seed"]
abbrev ps_law_draw : List Str := ["_law_bag_here", "_law_many"]
theorem sc_law_draw : FnScope N_law_draw ps_law_draw (defScope s_law_draw) := ⟨rfl, rfl, rfl, by decide +kernel, rfl, by decide +kernel, by decide +kernel⟩
theorem ok_law_draw {P : Program} {w : World} {K : PySem.W.Frag} {mg : Str → Option Value} {base : Heap} (T : Txt K mg) : FnOk P w K mg base (L2.CX P w) 1 T.f_law_draw T.fd_law_draw ps_law_draw (spP K mg 2 F_draw) := by
  refine T.fn_law_draw.okX sc_law_draw (fun vs H Q E h => spP_len h) (fun cdv A outer s H vs Q E hr h => ⟨t_draw K, ?_, pure_draw rfl h⟩)
  exact (pss_cons (ps_asg (pe_op op_add (pe_ix ix_list (pv 0) pe_int (fun _ _ => rfl)) pe_int) (pg_sub (pv 0) pe_int set_list)) (pss_cons (ps_if (pw_and (pt_cmpR op_eq (pe_ix ix_list (pv 0) pe_int (fun _ _ => rfl)) pe_int (nomark _)) (pw_and1 (pt_cmpR op_lt (pe_ix ix_list (pv 0) pe_int (fun _ _ => rfl)) (pe_callB call_len_seq (by rfl) T.b_len (by decide +kernel) (pa_cons (pe_ix ix_list (pv 0) pe_int (fun _ _ => rfl)) pa_nil)) (nomark _)))).pt (pss_cons (ps_set (i := 2) sc_law_draw.nd rfl (by first | exact Or.inl rfl | exact Or.inr rfl) (pe_ix ix_list (pe_ix ix_list (pv 0) pe_int (fun _ _ => rfl)) (pe_ix ix_list (pv 0) pe_int (fun _ _ => rfl)) (fun _ _ => rfl))) (pss_cons (ps_asg (pe_op op_add (pe_ix ix_list (pv 0) pe_int (fun _ _ => rfl)) pe_int) (pg_sub (pv 0) pe_int set_list)) (pss_one (ps_if (pt_cmpR op_ge (pv 2) (pe_op op_pow pe_int pe_int) (nomark _)) (pss_one (ps_asg (pv 2) (pg_sub (pv 0) pe_int set_list))) (pss_one (ps_asg (pe_op op_mod (pe_callTy call_int1 (by rfl) T.b_int (by decide +kernel) (pa_cons (pe_op op_add (pe_op op_add (pe_op op_mul (pe_ix ix_list (pv 0) pe_int (fun _ _ => rfl)) pe_int) (pe_op op_mul (pe_op op_mod (pe_callTy call_int1 (by rfl) T.b_int (by decide +kernel) (pa_cons (pv 2) pa_nil)) pe_int) pe_int)) pe_int) pa_nil)) pe_int) (pg_sub (pv 0) pe_int set_list))))))) pss_nil) (pss_cons (ps_if (pt_cmpR op_gt (pe_ix ix_list (pv 0) pe_int (fun _ _ => rfl)) pe_int (nomark _)) (pss_cons (ps_set (i := 3) sc_law_draw.nd rfl (by first | exact Or.inl rfl | exact Or.inr rfl) (pe_op op_mod (pe_callTy call_int1 (by rfl) T.b_int (by decide +kernel) (pa_cons (pe_ix ix_list (pv 0) pe_int (fun _ _ => rfl)) pa_nil)) (pv 1))) (pss_cons (ps_asg (pe_op op_fdivW (pe_ix ix_list (pv 0) pe_int (fun _ _ => rfl)) (pv 1)) (pg_sub (pv 0) pe_int set_list)) (pss_one (ps_ret (pv 3))))) pss_nil) (pss_cons (ps_set (i := 4) sc_law_draw.nd rfl (by first | exact Or.inl rfl | exact Or.inr rfl) (pe_callTy call_int1 (by rfl) T.b_int (by decide +kernel) (pa_cons (pe_ix ix_list (pv 0) pe_int (fun _ _ => rfl)) pa_nil))) (pss_cons (ps_asg (pe_op op_mod (pe_callTy call_int1 (by rfl) T.b_int (by decide +kernel) (pa_cons (pe_op op_add (pe_op op_add (pe_op op_add (pe_op op_pow (pv 4) pe_int) (pe_op op_mul (pv 4) pe_int)) (pe_op op_mul (pe_ix ix_list (pv 0) pe_int (fun _ _ => rfl)) pe_int)) pe_int) pa_nil)) pe_int) (pg_sub (pv 0) pe_int set_list)) (pss_one (ps_ret (pe_op op_mod (pe_callTy call_int1 (by rfl) T.b_int (by decide +kernel) (pa_cons (pe_op op_add (pe_op op_fdiv (pe_ix ix_list (pv 0) pe_int (fun _ _ => rfl)) pe_int) (pe_op op_mul (pe_op op_mod (pe_callTy call_int1 (by rfl) T.b_int (by decide +kernel) (pa_cons (pe_ix ix_list (pv 0) pe_int (fun _ _ => rfl)) pa_nil)) pe_int) pe_int)) pa_nil)) (pv 1)))))))))
/-! ### _law_of -/
abbrev s_law_of : Stmt := top 6
abbrev N_law_of : List Str := ["_law_bag_here", "_law_some"]
abbrev ps_law_of : List Str := ["_law_bag_here", "_law_some"]
theorem sc_law_of : FnScope N_law_of ps_law_of (defScope s_law_of) := ⟨rfl, rfl, rfl, by decide +kernel, rfl, by decide +kernel, by decide +kernel⟩
section
variable {P : Program} {w : World} {K : PySem.W.Frag} {mg : Str → Option Value} {base : Heap}
theorem ok_law_of {F : FT} {k : Nat} (T : Txt K mg) {k_law_draw : Nat} (h_law_draw : k_law_draw ≤ k) {F_law_draw : FT} (G_law_draw : FnOk P w K mg base (L2.CX P w) k_law_draw T.f_law_draw T.fd_law_draw ps_law_draw (spP K mg 2 F_law_draw))
    (pure : ∀ (ds : List D) (Pd : D → Prop) (R : DX → Prop), ds.length = 2 → F ds Pd R → w_law_of F_law_draw (startE 2 ds) { nx := fun _ => Pd .non, rt := Pd, ex := fun x _ => R x }) :
    FnOk P w K mg base (L2.CX P w) (k + 1) T.f_law_of T.fd_law_of ps_law_of (spP K mg 2 F) := by
  refine def_ok T.fn_law_of sc_law_of fun cdv A outer s H E hr => ⟨w_law_of F_law_draw, ?_, pure⟩
  have tk := takes_of (X := cxOf (L2.CX P w) P w K mg base N_law_of "_law_of" (defScope s_law_of) T.f_law_of cdv A outer s H E) rfl rfl rfl rfl
  have po := passes_of (X := cxOf (L2.CX P w) P w K mg base N_law_of "_law_of" (defScope s_law_of) T.f_law_of cdv A outer s H E) rfl
  have hc : (cxOf (L2.CX P w) P w K mg base N_law_of "_law_of" (defScope s_law_of) T.f_law_of cdv A outer s H E).calm = true := rfl
  have hu := hr.units
  exact (pb_one (ps_ret' (px_ix (px_var 1 (pv 1)) (px_call' G_law_draw (hr.mono (by omega)) (by rfl) T.g_law_draw T.fn_law_draw.kp T.bd_law_draw tk (pa_cons' (px_var 0 (pv 0)) (pa_cons' (px_callB pc_len (by rfl) T.b_len (by decide +kernel) (pa_cons' (px_var 1 (pv 1)) pa_nil')) pa_nil')) rfl) (fun _ _ => rfl))))
end
/-! ### _law_same -/
abbrev s_law_same : Stmt := top 7
abbrev N_law_same : List Str := ["_law_found", "_law_due", "_law_one", "_law_two"]
abbrev ps_law_same : List Str := ["_law_found", "_law_due"]
theorem sc_law_same : FnScope N_law_same ps_law_same (defScope s_law_same) := ⟨rfl, rfl, rfl, by decide +kernel, rfl, by decide +kernel, by decide +kernel⟩
section
variable {P : Program} {w : World} {K : PySem.W.Frag} {mg : Str → Option Value} {base : Heap}
theorem ok_law_same {F : FT} {k : Nat} (T : Txt K mg) {k_law_same : Nat} (h_law_same : k_law_same ≤ k) {F_law_same : FT} (G_law_same : FnOk P w K mg base (L2.CX P w) k_law_same T.f_law_same T.fd_law_same ps_law_same (spP K mg 2 F_law_same))
    (pure : ∀ (ds : List D) (Pd : D → Prop) (R : DX → Prop), ds.length = 2 → F ds Pd R → w_law_same F_law_same (startE 4 ds) { nx := fun _ => Pd .non, rt := Pd, ex := fun x _ => R x }) :
    FnOk P w K mg base (L2.CX P w) (k + 1) T.f_law_same T.fd_law_same ps_law_same (spP K mg 2 F) := by
  refine def_ok T.fn_law_same sc_law_same fun cdv A outer s H E hr => ⟨w_law_same F_law_same, ?_, pure⟩
  have tk := takes_of (X := cxOf (L2.CX P w) P w K mg base N_law_same "_law_same" (defScope s_law_same) T.f_law_same cdv A outer s H E) rfl rfl rfl rfl
  have po := passes_of (X := cxOf (L2.CX P w) P w K mg base N_law_same "_law_same" (defScope s_law_same) T.f_law_same cdv A outer s H E) rfl
  have hc : (cxOf (L2.CX P w) P w K mg base N_law_same "_law_same" (defScope s_law_same) T.f_law_same cdv A outer s H E).calm = true := rfl
  have hu := hr.units
  exact (pb_cons (ps_if' (pw_pt (pw_or' (pt_cmp' pr_is (px_var 1 (pv 1)) px_non) (pw_or1' (pt_cmp' pr_is (px_var 0 (pv 0)) px_non)))) (pb_one (ps_ret' (px_and (px_cmp pr_is (px_var 1 (pv 1)) px_non) (px_one (px_cmp pr_is (px_var 0 (pv 0)) px_non))))) pb_nil)
    (pb_cons (ps_if' (pt_bool (px_isi2 .list .tuple (by rfl) T.b_isinstance (by rfl) T.b_list (by decide +kernel) (by rfl) T.b_tuple (by decide +kernel) (px_var 1 (pv 1)))) (pb_cons (ps_if' (pw_pt (pw_or' (pt_cmp' (pr_ne hu) (px_isi .list (by rfl) T.b_isinstance (by rfl) T.b_list (by decide +kernel) (px_var 0 (pv 0))) (px_isi .list (by rfl) T.b_isinstance (by rfl) T.b_list (by decide +kernel) (px_var 1 (pv 1)))) (pw_or1' (pt_cmp' (pr_ne hu) (px_isi .tuple (by rfl) T.b_isinstance (by rfl) T.b_tuple (by decide +kernel) (px_var 0 (pv 0))) (px_isi .tuple (by rfl) T.b_isinstance (by rfl) T.b_tuple (by decide +kernel) (px_var 1 (pv 1))))))) (pb_one (ps_ret' px_bl)) pb_nil)
    (pb_one (ps_ret' (px_and (px_cmp (pr_eq hu) (px_callB pc_len (by rfl) T.b_len (by decide +kernel) (pa_cons' (px_var 0 (pv 0)) pa_nil')) (px_callB pc_len (by rfl) T.b_len (by decide +kernel) (pa_cons' (px_var 1 (pv 1)) pa_nil'))) (px_one (px_callB (pc_all hc) (by rfl) T.b_all (by decide +kernel) (pa_cons' (px_lc (own := [("_law_one", 2), ("_law_two", 3)]) ([2] ++ [3]) hc sc_law_same.nd (pi_zip2 (by rfl) T.b_zip hc (px_var 0 (pv 0)) (px_var 1 (pv 1))) (blkOk_by (own := [("_law_one", 2), ("_law_two", 3)]) (N := N_law_same) (sc := defScope s_law_same) (by decide +kernel)) (fun _ _ _ _ _ => (pg_tup2 hc (pg_name' (pg_name (i := 2) sc_law_same.nd rfl (by first | exact Or.inl rfl | exact Or.inr rfl))) (pg_name' (pg_name (i := 3) sc_law_same.nd rfl (by first | exact Or.inl rfl | exact Or.inr rfl))))) (fun _ _ _ _ _ => pts_nil') (fun _ _ _ _ _ => (px_call' G_law_same (hr.mono (by omega)) (by rfl) T.g_law_same T.fn_law_same.kp T.bd_law_same takes0 (pa_cons' (px_var 2 (pv 2)) (pa_cons' (px_var 3 (pv 3)) pa_nil')) rfl))) pa_nil'))))))) pb_nil)
    (pb_cons (ps_if' (pw_pt (pw_or' (pt_cmp' (pr_ne hu) (px_isi .bool (by rfl) T.b_isinstance (by rfl) T.b_bool (by decide +kernel) (px_var 0 (pv 0))) (px_isi .bool (by rfl) T.b_isinstance (by rfl) T.b_bool (by decide +kernel) (px_var 1 (pv 1)))) (pw_or1' (pt_cmp' (pr_ne hu) (px_isi .int (by rfl) T.b_isinstance (by rfl) T.b_int (by decide +kernel) (px_var 0 (pv 0))) (px_isi .int (by rfl) T.b_isinstance (by rfl) T.b_int (by decide +kernel) (px_var 1 (pv 1))))))) (pb_one (ps_ret' px_bl)) pb_nil)
    (pb_one (ps_ret' (px_and (px_cmp (pr_eq hu) (px_isi .str (by rfl) T.b_isinstance (by rfl) T.b_str (by decide +kernel) (px_var 0 (pv 0))) (px_isi .str (by rfl) T.b_isinstance (by rfl) T.b_str (by decide +kernel) (px_var 1 (pv 1)))) (px_one (px_cmp (pr_eq hu) (px_var 0 (pv 0)) (px_var 1 (pv 1))))))))))
end
/-! ### is_name -/
abbrev s_is_name : Stmt := top 2
abbrev N_is_name : List Str := ["value", "sign"]
abbrev ps_is_name : List Str := ["value"]
theorem sc_is_name : FnScope N_is_name ps_is_name (defScope s_is_name) := ⟨rfl, rfl, rfl, by decide +kernel, rfl, by decide +kernel, by decide +kernel⟩
section
variable {P : Program} {w : World} {K : PySem.W.Frag} {mg : Str → Option Value} {base : Heap}
theorem ok_is_name {F : FT} {k : Nat} (T : Txt K mg)  
    (pure : ∀ (ds : List D) (Pd : D → Prop) (R : DX → Prop), ds.length = 1 → F ds Pd R → w_is_name  (startE 2 ds) { nx := fun _ => Pd .non, rt := Pd, ex := fun x _ => R x }) :
    FnOk P w K mg base (L2.CX P w) (k + 1) T.f_is_name T.fd_is_name ps_is_name (spP K mg 1 F) := by
  refine def_ok T.fn_is_name sc_is_name fun cdv A outer s H E hr => ⟨w_is_name , ?_, pure⟩
  have tk := takes_of (X := cxOf (L2.CX P w) P w K mg base N_is_name "is_name" (defScope s_is_name) T.f_is_name cdv A outer s H E) rfl rfl rfl rfl
  have po := passes_of (X := cxOf (L2.CX P w) P w K mg base N_is_name "is_name" (defScope s_is_name) T.f_is_name cdv A outer s H E) rfl
  have hc : (cxOf (L2.CX P w) P w K mg base N_is_name "is_name" (defScope s_is_name) T.f_is_name cdv A outer s H E).calm = true := rfl
  have hu := hr.units
  exact (pb_cons (ps_if' (pw_pt (pw_or' (pt_not' (pt_bool (px_isi .str (by rfl) T.b_isinstance (by rfl) T.b_str (by decide +kernel) (px_var 0 (pv 0))))) (pw_or' (pt_not' (pt_chain' pr_le pr_le px_int (px_callB pc_len (by rfl) T.b_len (by decide +kernel) (pa_cons' (px_var 0 (pv 0)) pa_nil')) px_int)) (pw_or1' (pt_cmp' (pr_eq hu) (px_var 0 (pv 0)) px_str))))) (pb_one (ps_ret' px_bl)) pb_nil)
    (pb_one (ps_ret' (px_callB (pc_all hc) (by rfl) T.b_all (by decide +kernel) (pa_cons' (px_lc (own := [("sign", 1)]) [1] hc sc_is_name.nd (pi_it (px_var 0 (pv 0))) (blkOk_by (own := [("sign", 1)]) (N := N_is_name) (sc := defScope s_is_name) (by decide +kernel)) (fun _ _ _ _ _ => (pg_name' (pg_name (i := 1) sc_is_name.nd rfl (by first | exact Or.inl rfl | exact Or.inr rfl)))) (fun _ _ _ _ _ => pts_nil') (fun _ _ _ _ _ => (px_cmp pr_in (px_var 1 (pv 1)) (px_globE (by rfl) T.c_SMALL (fun _ _ => .str))))) pa_nil')))))
end
/-! ### law -/
abbrev s_law : Stmt := top 8
abbrev N_law : List Str := ["_law_script", "_law_bag_here", "_law_lap", "_law_word", "_law_k", "_law_spot", "_law_odd", "_law_far", "_law_found"]
abbrev ps_law : List Str := ["_law_script"]
theorem sc_law : FnScope N_law ps_law (defScope s_law) := ⟨rfl, rfl, rfl, by decide +kernel, rfl, by decide +kernel, by decide +kernel⟩
def w_law (F_is_name : FT) (F_law_draw : FT) (F_law_of : FT) (F_law_same : FT) : WS :=
    (wsSeq (wsFor (wRng1 (wC (.int 12))) (wgName 2)
    (wsSeq (wsSet 3 (wM1 rdJoin (wC (.str "")) (wLc [4] (wRng1 (wCall (fun ds P R => ds.length = 2 ∧ F_law_draw ds P R) [] (wCons (wVar 1) (wCons (wC (.int 11)) wNil)))) (wgName 4) wYes (wCall (fun ds P R => ds.length = 2 ∧ F_law_of ds P R) [] (wCons (wVar 1) (wCons (wCB rdList (wCons (wC (.str "abcdefghijklmnopqrstuvwxyz")) wNil)) wNil))))))
    (wsSeq (wsSet 5 (wCall (fun ds P R => ds.length = 2 ∧ F_law_draw ds P R) [] (wCons (wVar 1) (wCons (wOp rdAdd (wCB rdLen (wCons (wVar 3) wNil)) (wC (.int 1))) wNil))))
    (wsSeq (wsSet 6 (wOp rdAdd (wOp rdAdd (wSl (wVar 3) wNoPart (wPart (wVar 5))) (wCall (fun ds P R => ds.length = 2 ∧ F_law_of ds P R) [] (wCons (wVar 1) (wCons (wCB rdList (wCons (wC (.str "AZ09 _-*/.;\n")) wNil)) wNil)))) (wSl (wVar 3) (wPart (wVar 5)) wNoPart)))
    (wsSeq (wsSet 7 (wCall (fun ds P R => ds.length = 2 ∧ F_law_of ds P R) [] (wCons (wVar 1) (wCons (wLst (wCons (wC .non) (wCons (wC (.bl true)) (wCons (wC (.int 3)) (wCons (wTup (wCons (wC (.str "a")) wNil)) (wCons (wLst (wCons (wC (.str "a")) wNil)) (wCons (wC (.str "")) (wCons (wC (.str "ground")) (wCons (wC (.str "A")) (wCons (wC (.str "a b")) wNil)))))))))) wNil))))
    (wsSeq (wsSet 8 (wLst (wCons (wCall (fun ds P R => ds.length = 1 ∧ F_is_name ds P R) [] (wCons (wVar 3) wNil)) (wCons (wCall (fun ds P R => ds.length = 1 ∧ F_is_name ds P R) [] (wCons (wVar 6) wNil)) (wCons (wCallK F_is_name 1 (fun ds => ds) (wCons (wVar 7) wNil)) wNil)))))
    (wsIf (wNot (wTest (wCall (fun ds P R => ds.length = 2 ∧ F_law_same ds P R) [] (wCons (wVar 8) (wCons (wLst (wCons (wAndV (wChain rdLe rdLe (wC (.int 1)) (wCB rdLen (wCons (wVar 3) wNil)) (wC (.int 8))) (wOp rdNe (wVar 3) (wC (.str "ground")))) (wCons (wC (.bl false)) (wCons (wC (.bl false)) wNil)))) wNil))))) (wsRet (wC (.bl false))) wsNext)))))))
    (wsRet (wCall (fun ds P R => ds.length = 2 ∧ F_law_same ds P R) [] (wCons (wLst (wCons (wCall (fun ds P R => ds.length = 1 ∧ F_is_name ds P R) [] (wCons (wC (.str "groun")) wNil)) (wCons (wCall (fun ds P R => ds.length = 1 ∧ F_is_name ds P R) [] (wCons (wC (.str "grounds")) wNil)) (wCons (wCall (fun ds P R => ds.length = 1 ∧ F_is_name ds P R) [] (wCons (wC (.str "a")) wNil)) (wCons (wCall (fun ds P R => ds.length = 1 ∧ F_is_name ds P R) [] (wCons (wC (.str "abcdefgh")) wNil)) wNil))))) (wCons (wOp rdMul (wLst (wCons (wC (.bl true)) wNil)) (wC (.int 4))) wNil)))))
section
variable {P : Program} {w : World} {K : PySem.W.Frag} {mg : Str → Option Value} {base : Heap}
theorem ok_law {k : Nat} (hk : 1 ≤ k) (T : Txt K mg) {k_is_name : Nat} (h_is_name : k_is_name ≤ k) {k_law_draw : Nat} (h_law_draw : k_law_draw ≤ k) {k_law_of : Nat} (h_law_of : k_law_of ≤ k) {k_law_same : Nat} (h_law_same : k_law_same ≤ k) {F_is_name : FT} (G_is_name : FnOk P w K mg base (L2.CX P w) k_is_name T.f_is_name T.fd_is_name ps_is_name (spP K mg 1 F_is_name)) {F_law_draw : FT} (G_law_draw : FnOk P w K mg base (L2.CX P w) k_law_draw T.f_law_draw T.fd_law_draw ps_law_draw (spP K mg 2 F_law_draw)) {F_law_of : FT} (G_law_of : FnOk P w K mg base (L2.CX P w) k_law_of T.f_law_of T.fd_law_of ps_law_of (spP K mg 2 F_law_of)) {F_law_same : FT} (G_law_same : FnOk P w K mg base (L2.CX P w) k_law_same T.f_law_same T.fd_law_same ps_law_same (spP K mg 2 F_law_same))
    (pure : w_law F_is_name F_law_draw F_law_of F_law_same (lawE 9) { nx := fun _ => False, rt := fun d => d = .bl true, ex := fun _ _ => False }) :
    FnOk P w K mg base (L2.CX P w) (k + 1) T.f_law T.fd_law ps_law (spLaw K) := by
  have G_bag : FnOk P w K mg base (L2.CX P w) 1 T.f_law_bag T.fd_law_bag ps_law_bag (spBag K) := ok_law_bag T
  refine law_ok T.fn_law sc_law rfl (by decide) fun cdv A outer s H E hr => ⟨_, _, w_law F_is_name F_law_draw F_law_of F_law_same, rfl, ?_, ?_, pure⟩
  · exact ps_set (i := 1) sc_law.nd rfl (by first | exact Or.inl rfl | exact Or.inr rfl) (pe_call G_bag (hr.mono hk) (by rfl) T.g_law_bag T.fn_law_bag.kp T.bd_law_bag .nil passL (pa_cons (pv 0) pa_nil))
  have tk := takes_of (X := (cxOf (L2.CX P w) P w K mg base N_law "law" (defScope s_law) T.f_law cdv A outer s H E)) rfl rfl rfl rfl
  have po := passes_of (X := (cxOf (L2.CX P w) P w K mg base N_law "law" (defScope s_law) T.f_law cdv A outer s H E)) rfl
  have hc : (cxOf (L2.CX P w) P w K mg base N_law "law" (defScope s_law) T.f_law cdv A outer s H E).calm = true := rfl
  have hu := hr.units
  exact (pb_cons (ps_for' po hc (pi_rng1 (by rfl) T.b_range px_int) (pg_name' (pg_name (i := 2) sc_law.nd rfl (by first | exact Or.inl rfl | exact Or.inr rfl))) (pb_cons (ps_set' (i := 3) sc_law.nd rfl (by first | exact Or.inl rfl | exact Or.inr rfl) (px_join px_str (px_lc (own := [("_law_k", 4)]) [4] hc sc_law.nd (pi_rng1 (by rfl) T.b_range (px_call' G_law_draw (hr.mono (by omega)) (by rfl) T.g_law_draw T.fn_law_draw.kp T.bd_law_draw tk (pa_cons' (px_var 1 (pv 1)) (pa_cons' px_int pa_nil')) rfl)) (blkOk_by (own := [("_law_k", 4)]) (N := N_law) (sc := defScope s_law) (by decide +kernel)) (fun _ _ _ _ _ => (pg_name' (pg_name (i := 4) sc_law.nd rfl (by first | exact Or.inl rfl | exact Or.inr rfl)))) (fun _ _ _ _ _ => pts_nil') (fun _ _ _ _ _ => (px_call' G_law_of (hr.mono (by omega)) (by rfl) T.g_law_of T.fn_law_of.kp T.bd_law_of takes0 (pa_cons' (px_var 1 (pv 1)) (pa_cons' (px_callTy (pc_list hc) (by rfl) T.b_list (by decide +kernel) (pa_cons' px_str pa_nil')) pa_nil')) rfl)))))
    (pb_cons (ps_set' (i := 5) sc_law.nd rfl (by first | exact Or.inl rfl | exact Or.inr rfl) (px_call' G_law_draw (hr.mono (by omega)) (by rfl) T.g_law_draw T.fn_law_draw.kp T.bd_law_draw tk (pa_cons' (px_var 1 (pv 1)) (pa_cons' (px_op pr_add (px_callB pc_len (by rfl) T.b_len (by decide +kernel) (pa_cons' (px_var 3 (pv 3)) pa_nil')) px_int) pa_nil')) rfl))
    (pb_cons (ps_set' (i := 6) sc_law.nd rfl (by first | exact Or.inl rfl | exact Or.inr rfl) (px_op pr_add (px_op pr_add (px_slice (px_var 3 (pv 3)) po_none' (po_some' (px_var 5 (pv 5)))) (px_call' G_law_of (hr.mono (by omega)) (by rfl) T.g_law_of T.fn_law_of.kp T.bd_law_of tk (pa_cons' (px_var 1 (pv 1)) (pa_cons' (px_callTy (pc_list hc) (by rfl) T.b_list (by decide +kernel) (pa_cons' px_str pa_nil')) pa_nil')) rfl)) (px_slice (px_var 3 (pv 3)) (po_some' (px_var 5 (pv 5))) po_none')))
    (pb_cons (ps_set' (i := 7) sc_law.nd rfl (by first | exact Or.inl rfl | exact Or.inr rfl) (px_call' G_law_of (hr.mono (by omega)) (by rfl) T.g_law_of T.fn_law_of.kp T.bd_law_of tk (pa_cons' (px_var 1 (pv 1)) (pa_cons' (px_lst (pa_cons' px_non (pa_cons' px_bl (pa_cons' px_int (pa_cons' (px_tup (pa_cons' px_str pa_nil')) (pa_cons' (px_lst (pa_cons' px_str pa_nil')) (pa_cons' px_str (pa_cons' px_str (pa_cons' px_str (pa_cons' px_str pa_nil')))))))))) pa_nil')) rfl))
    (pb_cons (ps_set' (i := 8) sc_law.nd rfl (by first | exact Or.inl rfl | exact Or.inr rfl) (px_lst (pa_cons' (px_call' G_is_name (hr.mono (by omega)) (by rfl) T.g_is_name T.fn_is_name.kp T.bd_is_name tk (pa_cons' (px_var 3 (pv 3)) pa_nil') rfl) (pa_cons' (px_call' G_is_name (hr.mono (by omega)) (by rfl) T.g_is_name T.fn_is_name.kp T.bd_is_name tk (pa_cons' (px_var 6 (pv 6)) pa_nil') rfl) (pa_cons' (px_callK0 G_is_name (hr.mono (by omega)) (by rfl) T.g_is_name T.fn_is_name.kp T.kb_is_name (fun _ _ _ _ r => r) (pk_cons' (px_var 7 (pv 7)) pk_nil')) pa_nil')))))
    (pb_one (ps_if' (pt_not' (pt_bool (px_call' G_law_same (hr.mono (by omega)) (by rfl) T.g_law_same T.fn_law_same.kp T.bd_law_same tk (pa_cons' (px_var 8 (pv 8)) (pa_cons' (px_lst (pa_cons' (px_and (px_chain pr_le pr_le px_int (px_callB pc_len (by rfl) T.b_len (by decide +kernel) (pa_cons' (px_var 3 (pv 3)) pa_nil')) px_int) (px_one (px_cmp (pr_ne hu) (px_var 3 (pv 3)) px_str))) (pa_cons' px_bl (pa_cons' px_bl pa_nil')))) pa_nil')) rfl))) (pb_one (ps_ret' px_bl)) pb_nil))))))))
    (pb_one (ps_ret' (px_call' G_law_same (hr.mono (by omega)) (by rfl) T.g_law_same T.fn_law_same.kp T.bd_law_same tk (pa_cons' (px_lst (pa_cons' (px_call' G_is_name (hr.mono (by omega)) (by rfl) T.g_is_name T.fn_is_name.kp T.bd_is_name tk (pa_cons' px_str pa_nil') rfl) (pa_cons' (px_call' G_is_name (hr.mono (by omega)) (by rfl) T.g_is_name T.fn_is_name.kp T.bd_is_name tk (pa_cons' px_str pa_nil') rfl) (pa_cons' (px_call' G_is_name (hr.mono (by omega)) (by rfl) T.g_is_name T.fn_is_name.kp T.bd_is_name tk (pa_cons' px_str pa_nil') rfl) (pa_cons' (px_call' G_is_name (hr.mono (by omega)) (by rfl) T.g_is_name T.fn_is_name.kp T.bd_is_name tk (pa_cons' px_str pa_nil') rfl) pa_nil'))))) (pa_cons' (px_op pr_mul (px_lst (pa_cons' px_bl pa_nil')) px_int) pa_nil')) rfl))))
end
end Pu
namespace Pu
open PySem L2 PySem.Spec PyProof.Rows
def oddS : Str := "AZ09 _-*/.;\n"
/-- texts of one sign each -/
theorem strsOf_signs : ∀ {l : List D} {Q : Nat → Prop}, (∀ d ∈ l, ∃ c, Q c ∧ d = .str ⟨#[c]⟩) → ∃ cs : List Nat, (∀ c ∈ cs, Q c) ∧ cs.length = l.length ∧ strsOf l = some (cs.map fun c => ⟨#[c]⟩)
  | [], Q, _ => ⟨[], fun _ h => (by cases h), rfl, rfl⟩
  | x :: l, Q, h => by
    obtain ⟨c, hc, rfl⟩ := h x List.mem_cons_self
    obtain ⟨cs, h1, h2, h3⟩ := strsOf_signs (l := l) fun d hd => h d (List.mem_cons_of_mem _ hd)
    refine ⟨c :: cs, fun y hy => ?_, by rw [List.length_cons, List.length_cons, h2], ?_⟩
    · rcases List.mem_cons.mp hy with z | z
      · rw [z]; exact hc
      · exact h1 y z
    · show (strsOf l).map (_ :: ·) = _
      rw [h3]
      rfl
theorem join_signs (cs : List Nat) : (Txt.join (Str.ofString "") (cs.map fun c => ⟨#[c]⟩)).cps.toList = cs := by
  rw [TL.join_eq]
  have e := TL.tl_join (Str.ofString "") (cs.map fun c => ⟨#[c]⟩)
  have e2 : TL.tl (Str.ofString "") = [] := by decide
  rw [e2, List.map_map] at e
  refine Eq.trans e ?_
  have key : ∀ l : List Nat, TL.joinL [] (l.map fun c => [c]) = l := by
    intro l
    induction l with
    | nil => rfl
    | cons c l ih =>
      cases l with
      | nil => rfl
      | cons d l =>
        show [c] ++ ([] ++ TL.joinL [] (List.map (fun c => [c]) (d :: l))) = _
        rw [ih]
        rfl
  exact key cs
theorem sum_ones (cs : List Nat) : ((cs.map fun c => (⟨#[c]⟩ : Str)).map (·.length)).sum = cs.length := by
  induction cs with
  | nil => rfl
  | cons c cs ih =>
    rw [List.map_cons, List.map_cons, List.sum_cons, ih, List.length_cons]
    show 1 + _ = _
    omega
abbrev isB (d : D) : Prop := d = .bl true ∨ d = .bl false
theorem word_ok (cs : List Nat) (h : ∀ c ∈ cs, c ∈ smallS.cps.toList) (word : Str) (hw : word.cps.toList = cs) : isName word = ((decide (1 ≤ word.length) && decide (word.length ≤ 8)) && !decide (word = groundS)) := by
  unfold isName
  rw [hw, List.all_eq_true.mpr fun c hc => decide_eq_true (h c hc), Bool.and_true]
theorem odd_bad (s : Str) (c : Nat) (h : c ∈ s.cps.toList) (hc : ¬ c ∈ smallS.cps.toList) : isName s = false := by
  unfold isName
  have : (s.cps.toList.all fun c => decide (c ∈ smallS.cps.toList)) = false := by
    rw [List.all_eq_false]
    exact ⟨c, h, by rw [decide_eq_false hc]; simp⟩
  rw [this, Bool.and_false]
set_option maxHeartbeats 1000000 in
theorem pure_law : w_law F_is_name F_draw F_of (F_same 2) (lawE 9) { nx := fun _ => False, rt := fun d => d = .bl true, ex := fun _ _ => False } := by
  unfold w_law
  refine ⟨by decide, ?_⟩
  refine forL_inv (fun env => ∃ x0 x2 x3 x5 x6 x7 x8, env = [x0, .v .bag, x2, x3, .no, x5, x6, x7, x8]) _ _ ?_ ?_ ?_
  · intro x _ env he Kn hk
    obtain ⟨x0, x2, x3, x5, x6, x7, x8, rfl⟩ := he
    -- the word
    refine st_set (fun d => ∃ (word : Str) (cs : List Nat), d = .str word ∧ word.cps.toList = cs ∧ cs.length ≤ 10 ∧ ∀ c ∈ cs, c ∈ smallS.cps.toList) (fun Pk hPk => ?_) (fun d hd => ?_)
    · dsimp only [wsSeq, wsIf, wOr, wNot, wAnd, wTest, wIsi, wIsi2, wVar, wChain, wC, wCB, wCons, wNil, rdLen, rdLe, rdLt, rdGt, rdGe, rdI, rdSub, rdMod, rdFdiv, rdPow, wOp, startE, isTD, wsRet, wsNext, wIt, rdIt, rdAll, rdAny, wsSet, wsPar, wsAsg, wsDrop, wCall, wCallK, wLst, wTup, wRng1, wRng2, wSl, wNoPart, wPart, rdSl, wM1, rdJoin, rdAdd, rdMul, wAndV, wOrV, wNotV, wIf, wNeg, wsFor, wZip, wEnum, rdList, rdTuple, rdStr, rdInt, rdAbs, wgTup2, wgName, List.map, List.append, List.replicate, List.length, List.set, List.getElem?_cons_zero, List.getElem?_cons_succ, List.cons_append, List.nil_append, Bool.not_true, Bool.not_false]
      refine wLc_in (fun ds => ds.length ≤ 10) (fun _ d => ∃ c, c ∈ smallS.cps.toList ∧ d = .str ⟨#[c]⟩) (fun Pk2 hPk2 => ?_) (fun ds h => by omega) (fun ds h y hy Pk2 hPk2 => ?_) (fun ds out h ho => ?_)
      · refine ⟨rfl, 11, rfl, by decide, by decide, fun n h0 h1 => ⟨⟨by omega, by omega⟩, hPk2 _ ?_⟩⟩
        unfold rangeD
        rw [List.length_map, List.length_range]
        omega
      · refine ⟨by decide, rfl, signsD smallS, .inl rfl, by decide, by decide, fun d hd => ?_⟩
        unfold signsD at hd
        obtain ⟨c, hc, rfl⟩ := List.mem_map.mp hd
        exact hPk2 _ _ ⟨c, hc, rfl⟩ rfl
      · obtain ⟨cs, c1, c2, c3⟩ := strsOf_signs (Q := fun c => c ∈ smallS.cps.toList) fun d hd => by
          obtain ⟨_, _, h⟩ := ho.mem hd
          exact h
        have hl : cs.length ≤ 10 := by rw [c2, ho.length]; exact h
        refine ⟨_, c3, by rw [sum_ones, List.length_map]; show cs.length + cs.length * 0 ≤ _; omega, ?_⟩
        exact hPk _ ⟨_, cs, rfl, join_signs cs, hl, c1⟩
    obtain ⟨word, cs, rfl, hwc, hl, hcs⟩ := hd
    have hwl : word.length = cs.length := by rw [← hwc]; exact Array.length_toList.symm
    -- the spot
    refine st_set (fun d => ∃ i : Int, d = .int i ∧ 0 ≤ i ∧ i ≤ word.length) (fun Pk hPk => ?_) (fun d hd => ?_)
    · refine ⟨by show word.length ≤ sizeLine; rw [hwl]; exact Nat.le_trans hl (by decide), rfl, (word.length : Int) + 1, rfl, by omega, ?_, fun spot p0 p1 => hPk _ ⟨spot, rfl, p0, by omega⟩⟩
      have := log_small (n := word.length + 1) (by omega)
      exact this
    obtain ⟨spot, rfl, p0, p1⟩ := hd
    -- the odd word
    refine st_set (fun d => ∃ (odd : Str) (c : Nat), d = .str odd ∧ odd.length ≤ 11 ∧ c ∈ odd.cps.toList ∧ ¬ c ∈ smallS.cps.toList) (fun Pk hPk => ?_) (fun d hd => ?_)
    · have hsz : (100 : Nat) ≤ sizeLine := by decide
      have hws : word.length ≤ 10 := by omega
      refine ⟨by show word.length ≤ sizeLine; omega, by decide, rfl, signsD oddS, .inl rfl, by decide, by decide, fun c hc => ?_⟩
      unfold signsD at hc
      obtain ⟨c, hc0, rfl⟩ := List.mem_map.mp hc
      have l1 : (cutS word none (some spot)).length ≤ 10 := by
        rw [TL.len_tl]
        show (List.take _ (List.drop _ word.cps.toList)).length ≤ 10
        rw [List.length_take, List.length_drop, hwc]
        omega
      have l2 : (cutS word (some spot) none).length ≤ 10 := by
        rw [TL.len_tl]
        show (List.take _ (List.drop _ word.cps.toList)).length ≤ 10
        rw [List.length_take, List.length_drop, hwc]
        omega
      have l0 : (⟨#[c]⟩ : Str).length = 1 := rfl
      have e1 : ∀ a b : Str, (a ++ b).length = a.length + b.length := fun a b => by
        rw [TL.len_tl, TL.len_tl, TL.len_tl, TL.tl_append, List.length_append]
      have l3 : (cutS word none (some spot) ++ ⟨#[c]⟩).length ≤ 11 := by rw [e1]; omega
      refine ⟨by omega, by show word.length ≤ sizeLine; omega, by omega, hPk _ ⟨_, c, rfl, ?_, ?_, ?_⟩⟩
      · rw [e1, e1, l0, TL.len_tl, TL.len_tl]
        show (List.take _ (List.drop _ word.cps.toList)).length + 1 + (List.take _ (List.drop _ word.cps.toList)).length ≤ 11
        have q1 : HT.sIx word.length 0 none = 0 := rfl
        have q2 : HT.sIx word.length word.length (some spot) = spot.toNat := by
          show (if spot < 0 then (spot + word.length).toNat else min spot.toNat word.length) = _
          rw [if_neg (by omega)]
          omega
        have q3 : HT.sIx word.length 0 (some spot) = spot.toNat := by
          show (if spot < 0 then (spot + word.length).toNat else min spot.toNat word.length) = _
          rw [if_neg (by omega)]
          omega
        rw [q1, q2, q3, List.length_take, List.length_drop, List.length_take, List.length_drop, hwc]
        omega
      · show c ∈ TL.tl _
        rw [TL.tl_append, TL.tl_append]
        simp [TL.tl]
      · have : ∀ c ∈ oddS.cps.toList, ¬ c ∈ smallS.cps.toList := by decide
        exact this c hc0
    obtain ⟨odd, oc, rfl, ol, o1, o2⟩ := hd
    refine st_set (fun d => isNameD d = some false) (fun Pk hPk => ?_) (fun far hfar => ?_)
    · refine ⟨by decide, by decide, by decide, rfl, _, .inl rfl, by simp, (by show (9 : Nat) < 2 ^ 60; decide), fun d hd => hPk d ?_⟩
      simp only [List.mem_cons, List.not_mem_nil, or_false] at hd
      rcases hd with rfl | rfl | rfl | rfl | rfl | rfl | rfl | rfl | rfl
      all_goals first | rfl | decide +kernel
    refine st_set (fun d => d = .lst [.bl (isName word), .bl false, .bl false]) (fun Pk hPk => ?_) (fun d hd => ?_)
    · refine ⟨rfl, .str word, isName word, rfl, ?_, rfl, .str odd, false, rfl, ?_, rfl, far, false, rfl, hfar, (by show (3 : Nat) ≤ sizeLine; decide), hPk _ rfl⟩
      · exact if_pos (by rw [hwl]; exact Nat.le_trans hl (by decide))
      · show (if odd.length ≤ sizeLine then some (isName odd) else none) = _
        rw [if_pos (Nat.le_trans ol (by decide)), odd_bad odd oc o1 o2]
    subst hd
    refine st_if1 false (fun Pk hPk => ?_) (fun h => nomatch h) (fun _ => hk _ ⟨_, _, _, _, _, _, _, rfl⟩)
    have hw8 : isName word = ((decide (1 ≤ word.length) && decide (word.length ≤ 8)) && !decide (word = groundS)) := word_ok cs hcs word hwc
    have key : ∀ (z : Sl) (Pq : D → En → Prop), Pq (.bl (isName word)) ([x0, Sl.v D.bag, Sl.v x, Sl.v (.str word), .no, Sl.v (.int spot), Sl.v (.str odd), Sl.v far, z]) →
        wAndV (wChain rdLe rdLe (wC (.int 1)) (wCB rdLen (wCons (wVar 3) wNil)) (wC (.int 8))) (wOp rdNe (wVar 3) (wC (.str "ground"))) [x0, Sl.v D.bag, Sl.v x, Sl.v (.str word), .no, Sl.v (.int spot), Sl.v (.str odd), Sl.v far, z] Pq (fun _ _ => False) := by
      intro z Pq hq
      dsimp only [wsSeq, wsIf, wOr, wNot, wAnd, wTest, wIsi, wIsi2, wVar, wChain, wC, wCB, wCons, wNil, rdLen, rdLe, rdLt, rdGt, rdGe, rdI, rdSub, rdMod, rdFdiv, rdPow, wOp, startE, isTD, wsRet, wsNext, wIt, rdIt, rdAll, rdAny, wsSet, wsPar, wsAsg, wsDrop, wCall, wCallK, wLst, wTup, wRng1, wRng2, wSl, wNoPart, wPart, rdSl, wM1, rdJoin, rdAdd, rdMul, wAndV, wOrV, wNotV, wIf, wNeg, wsFor, wZip, wEnum, rdList, rdTuple, rdStr, rdInt, rdAbs, wgTup2, wgName, List.map, List.append, List.replicate, List.length, List.set, List.getElem?_cons_zero, List.getElem?_cons_succ, List.cons_append, List.nil_append, Bool.not_true, Bool.not_false]
      refine ⟨by show word.length ≤ sizeLine; rw [hwl]; exact Nat.le_trans hl (by decide), trivial, ?_⟩
      by_cases h1 : (1 : Int) ≤ word.length
      · rw [decide_eq_true h1]
        refine ⟨trivial, ?_⟩
        by_cases h8 : (word.length : Int) ≤ 8
        · rw [decide_eq_true h8]
          show Pq (.bl (!decide (word = groundS))) _
          rw [hw8, decide_eq_true (show 1 ≤ word.length by omega), decide_eq_true (show word.length ≤ 8 by omega)] at hq
          exact hq
        · rw [decide_eq_false h8]
          rw [hw8, decide_eq_false (show ¬ word.length ≤ 8 by omega), Bool.and_false, Bool.false_and] at hq
          exact hq
      · rw [decide_eq_false h1]
        rw [hw8, decide_eq_false (show ¬ 1 ≤ word.length by omega), Bool.false_and, Bool.false_and] at hq
        exact hq
    refine key _ _ ⟨(by show (3 : Nat) ≤ sizeLine; decide), rfl, .lst [.bl (isName word), .bl false, .bl false], rfl, rfl, hPk⟩
  · exact ⟨_, _, _, _, _, _, _, rfl⟩
  · rintro e ⟨x0, x2, x3, x5, x6, x7, x8, rfl⟩
    refine ⟨rfl, _, true, rfl, by decide +kernel, rfl, _, true, rfl, by decide +kernel, rfl, _, true, rfl, by decide +kernel, rfl, _, true, rfl, by decide +kernel, (by show (4 : Nat) ≤ sizeLine; decide), (by show (1 : Nat) ≤ sizeLine; decide), by decide, by decide, (by show 1 * 4 ≤ sizeLine; decide), rfl, .lst [.bl true, .bl true, .bl true, .bl true], rfl, rfl, rfl⟩
end Pu
namespace Pu
open PySem L2 PySem.Spec PyProof.Rows
section
variable {P : Program} {w : World} {K : PySem.W.Frag} {mg : Str → Option Value} {base : Heap}
theorem all_same (T : Txt K mg) : ∀ n : Nat, FnOk P w K mg base (L2.CX P w) (n + 1) T.f_law_same T.fd_law_same ps_law_same (spP K mg 2 (F_same n))
  | 0 => ok_law_same T (Nat.le_refl 0) fn_false (pure_law_same 0 _ (fun m h => nomatch h))
  | n + 1 => ok_law_same T (Nat.le_refl (n + 1)) (all_same T n) (pure_law_same (n + 1) _ (fun m h => by cases h; rfl))
theorem all_ok (T : Txt K mg) : FnOk P w K mg base (L2.CX P w) 40 T.f_law T.fd_law ps_law (spLaw K) := by
  have Gd : FnOk P w K mg base (L2.CX P w) 1 T.f_law_draw T.fd_law_draw ps_law_draw (spP K mg 2 F_draw) := ok_law_draw T
  have Go : FnOk P w K mg base (L2.CX P w) 2 T.f_law_of T.fd_law_of ps_law_of (spP K mg 2 F_of) := ok_law_of T (Nat.le_refl 1) Gd pure_law_of
  have Gs := all_same (P := P) (w := w) (base := base) T 2
  have Gn : FnOk P w K mg base (L2.CX P w) 1 T.f_is_name T.fd_is_name ps_is_name (spP K mg 1 F_is_name) := ok_is_name T pure_is_name
  exact ok_law (k := 39) (by decide) T (k_is_name := 1) (by decide) (k_law_draw := 1) (by decide) (k_law_of := 2) (by decide) (k_law_same := 3) (by decide) Gn Gd Go Gs pure_law
end
theorem txt_mk {K : PySem.W.Frag} {h : Heap} {mg : Str → Option Value} {fa : Addr} (X : K.In h) (G : h.Ns mainGlobals mg) (hfa : mg "law" = some (.ref fa))
    {od0 an0 : Option Addr} {sl0 : Array (Option Value)} {oc0 kV0 dc0 pm0 cd0 ct0 : Value} {f0 : Addr}
    {od1 an1 : Option Addr} {sl1 : Array (Option Value)} {oc1 kV1 dc1 pm1 cd1 ct1 : Value} {f1 : Addr}
    {od2 an2 : Option Addr} {sl2 : Array (Option Value)} {oc2 kV2 dc2 pm2 cd2 ct2 : Value} {f2 : Addr}
    {od3 an3 : Option Addr} {sl3 : Array (Option Value)} {oc3 kV3 dc3 pm3 cd3 ct3 : Value} {f3 : Addr}
    {od4 an4 : Option Addr} {sl4 : Array (Option Value)} {oc4 kV4 dc4 pm4 cd4 ct4 : Value} {f4 : Addr}
    {od5 an5 : Option Addr} {sl5 : Array (Option Value)} {oc5 kV5 dc5 pm5 cd5 ct5 : Value} {f5 : Addr}
    (a0 : PySem.W.nsIn K mainGlobals "_law_bag" = some (some (.ref f0))) (l0 : K.lookup f0 = some ⟨oc0, od0, .func (PySem.W.fnOf "_law_bag" "_law_bag" (defArgs s_law_bag) (defBody s_law_bag) (defScope s_law_bag) .none kV0 dc0 pm0 an0 cd0 ct0), sl0⟩) (c0 : PySem.W.codeIn K cd0 "_law_bag" = true) (k0 : PySem.W.keepIn K (.ref f0) = true)
    (a1 : PySem.W.nsIn K mainGlobals "_law_draw" = some (some (.ref f1))) (l1 : K.lookup f1 = some ⟨oc1, od1, .func (PySem.W.fnOf "_law_draw" "_law_draw" (defArgs s_law_draw) (defBody s_law_draw) (defScope s_law_draw) .none kV1 dc1 pm1 an1 cd1 ct1), sl1⟩) (c1 : PySem.W.codeIn K cd1 "_law_draw" = true) (k1 : PySem.W.keepIn K (.ref f1) = true)
    (a2 : PySem.W.nsIn K mainGlobals "_law_of" = some (some (.ref f2))) (l2 : K.lookup f2 = some ⟨oc2, od2, .func (PySem.W.fnOf "_law_of" "_law_of" (defArgs s_law_of) (defBody s_law_of) (defScope s_law_of) .none kV2 dc2 pm2 an2 cd2 ct2), sl2⟩) (c2 : PySem.W.codeIn K cd2 "_law_of" = true) (k2 : PySem.W.keepIn K (.ref f2) = true)
    (a3 : PySem.W.nsIn K mainGlobals "_law_same" = some (some (.ref f3))) (l3 : K.lookup f3 = some ⟨oc3, od3, .func (PySem.W.fnOf "_law_same" "_law_same" (defArgs s_law_same) (defBody s_law_same) (defScope s_law_same) .none kV3 dc3 pm3 an3 cd3 ct3), sl3⟩) (c3 : PySem.W.codeIn K cd3 "_law_same" = true) (k3 : PySem.W.keepIn K (.ref f3) = true)
    (a4 : PySem.W.nsIn K mainGlobals "is_name" = some (some (.ref f4))) (l4 : K.lookup f4 = some ⟨oc4, od4, .func (PySem.W.fnOf "is_name" "is_name" (defArgs s_is_name) (defBody s_is_name) (defScope s_is_name) .none kV4 dc4 pm4 an4 cd4 ct4), sl4⟩) (c4 : PySem.W.codeIn K cd4 "is_name" = true) (k4 : PySem.W.keepIn K (.ref f4) = true)
    (a5 : PySem.W.nsIn K mainGlobals "law" = some (some (.ref f5))) (l5 : K.lookup f5 = some ⟨oc5, od5, .func (PySem.W.fnOf "law" "law" (defArgs s_law) (defBody s_law) (defScope s_law) .none kV5 dc5 pm5 an5 cd5 ct5), sl5⟩) (c5 : PySem.W.codeIn K cd5 "law" = true) (k5 : PySem.W.keepIn K (.ref f5) = true)
    (z_int : PySem.W.nsIn K mainGlobals "int" = some none)
    (z_list : PySem.W.nsIn K mainGlobals "list" = some none)
    (z_len : PySem.W.nsIn K mainGlobals "len" = some none)
    (z_isinstance : PySem.W.nsIn K mainGlobals "isinstance" = some none)
    (z_tuple : PySem.W.nsIn K mainGlobals "tuple" = some none)
    (z_zip : PySem.W.nsIn K mainGlobals "zip" = some none)
    (z_all : PySem.W.nsIn K mainGlobals "all" = some none)
    (z_bool : PySem.W.nsIn K mainGlobals "bool" = some none)
    (z_str : PySem.W.nsIn K mainGlobals "str" = some none)
    (z_range : PySem.W.nsIn K mainGlobals "range" = some none)
    {t_SMALL : Tok} (y_SMALL : PySem.W.nsIn K mainGlobals "SMALL" = some (some (.str "abcdefghijklmnopqrstuvwxyz" t_SMALL))) :
    ∃ T : Txt K mg, T.f_law = fa ∧ ∀ (s : Shared) (u : Value), BindsTo s T.fd_law ⟨[u], []⟩ [("_law_script", u)] := by
  have e := hfa.symm.trans (PySem.W.mg_of X G a5)
  cases e
  have F0 := fun_mk (st := s_law_bag) l0 c0 k0
  have F1 := fun_mk (st := s_law_draw) l1 c1 k1
  have F2 := fun_mk (st := s_law_of) l2 c2 k2
  have F3 := fun_mk (st := s_law_same) l3 c3 k3
  have F4 := fun_mk (st := s_is_name) l4 c4 k4
  have F5 := fun_mk (st := s_law) l5 c5 k5
  exact ⟨{ f_law_bag := _, fd_law_bag := _, fn_law_bag := F0, g_law_bag := PySem.W.mg_of X G a0, bd_law_bag := F0.binds (fun _ _ _ _ _ _ us hl => match us, hl with | [_], _ => rfl), f_law_draw := _, fd_law_draw := _, fn_law_draw := F1, g_law_draw := PySem.W.mg_of X G a1, bd_law_draw := F1.binds (fun _ _ _ _ _ _ us hl => match us, hl with | [_, _], _ => rfl), f_law_of := _, fd_law_of := _, fn_law_of := F2, g_law_of := PySem.W.mg_of X G a2, bd_law_of := F2.binds (fun _ _ _ _ _ _ us hl => match us, hl with | [_, _], _ => rfl), f_law_same := _, fd_law_same := _, fn_law_same := F3, g_law_same := PySem.W.mg_of X G a3, bd_law_same := F3.binds (fun _ _ _ _ _ _ us hl => match us, hl with | [_, _], _ => rfl), f_is_name := _, fd_is_name := _, fn_is_name := F4, g_is_name := PySem.W.mg_of X G a4, bd_is_name := F4.binds (fun _ _ _ _ _ _ us hl => match us, hl with | [_], _ => rfl), kb_is_name := kbinds_all (fun us ws hl => match us, ws, hl with | [], [_], _ => rfl | [_], [], _ => rfl), f_law := _, fd_law := _, fn_law := F5, g_law := PySem.W.mg_of X G a5, bd_law := F5.binds (fun _ _ _ _ _ _ us hl => match us, hl with | [_], _ => rfl), b_int := PySem.W.mg_none_of X G z_int, b_list := PySem.W.mg_none_of X G z_list, b_len := PySem.W.mg_none_of X G z_len, b_isinstance := PySem.W.mg_none_of X G z_isinstance, b_tuple := PySem.W.mg_none_of X G z_tuple, b_zip := PySem.W.mg_none_of X G z_zip, b_all := PySem.W.mg_none_of X G z_all, b_bool := PySem.W.mg_none_of X G z_bool, b_str := PySem.W.mg_none_of X G z_str, b_range := PySem.W.mg_none_of X G z_range, c_SMALL := ⟨_, PySem.W.mg_of X G y_SMALL, ⟨_, rfl⟩⟩ }, rfl, fun s u => .of_eq rfl⟩
end Pu
open PySem PySem.W PyProof.Rows in
set_option maxRecDepth 100000 in
set_option maxHeartbeats 0 in
theorem PySem.Challenge.cw_partswing_k06_names_known_holds : PySem.Challenge.rw_partswing_k06_names_known.Holds := by
  w_on; o_law; k_head; (case hw => w_witness2)
  k_fill
  refine L2.walk_ofB (n := 63) (k := 40) (x := "_law_script") (CX := fun w => L2.CX (PySem.Challenge.rw_partswing_k06_names_known).prog w) (sp := fun w => Pu.spLaw _) rfl (by decide) rfl ⟨rfl, by decide, by decide⟩ (fun w h Y => PySem.W.kIn_of Y) ?F (fun _ _ a ns hl _ _ hS => ⟨a, ns, rfl, hS, fun _ => rfl⟩) (fun w H s e s' z => Pu.hd_law H s e s' z)
  case F =>
    intro w mg fa h KX G hmg
    obtain ⟨T, e, hb⟩ : ∃ T : Pu.Txt _ mg, T.f_law = fa ∧ ∀ (s : Shared) (u : Value), BindsTo s T.fd_law ⟨[u], []⟩ [("_law_script", u)] := by
      refine' Pu.txt_mk KX G hmg ?a0 ?l0 ?c0 ?k0 ?a1 ?l1 ?c1 ?k1 ?a2 ?l2 ?c2 ?k2 ?a3 ?l3 ?c3 ?k3 ?a4 ?l4 ?c4 ?k4 ?a5 ?l5 ?c5 ?k5 ?z_int ?z_list ?z_len ?z_isinstance ?z_tuple ?z_zip ?z_all ?z_bool ?z_str ?z_range ?y_SMALL
      (case a0 => k_is)
      (case l0 => k_is)
      (case c0 => k_is)
      (case k0 => k_is)
      (case a1 => k_is)
      (case l1 => k_is)
      (case c1 => k_is)
      (case k1 => k_is)
      (case a2 => k_is)
      (case l2 => k_is)
      (case c2 => k_is)
      (case k2 => k_is)
      (case a3 => k_is)
      (case l3 => k_is)
      (case c3 => k_is)
      (case k3 => k_is)
      (case a4 => k_is)
      (case l4 => k_is)
      (case c4 => k_is)
      (case k4 => k_is)
      (case a5 => k_is)
      (case l5 => k_is)
      (case c5 => k_is)
      (case k5 => k_is)
      (case z_int => k_is)
      (case z_list => k_is)
      (case z_len => k_is)
      (case z_isinstance => k_is)
      (case z_tuple => k_is)
      (case z_zip => k_is)
      (case z_all => k_is)
      (case z_bool => k_is)
      (case z_str => k_is)
      (case z_range => k_is)
      (case y_SMALL => k_is)
    subst e
    exact ⟨T.fd_law, hb, fun base _ _ => Pu.all_ok T⟩
#print axioms PySem.Challenge.cw_partswing_k06_names_known_holds
