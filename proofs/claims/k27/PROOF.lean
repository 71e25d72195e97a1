import PyProof.Rows.All
import Wide.All
import OpenK.AllK
import Wide.FinOn
import HandS.ForMost
import HandS.Exc
import HandS.TryOnly
import HandS.ExcOwn
import HandS.WordsExc
import HandS.CallSlots
import HandS.IsInst
import HandS.Wide
import HandS.EndBits
import HandS.Zip
import HandS.Conv
import HandS.TupAny
import HandS.Walk
import HandS.Codes
import PyProof.ListStr
import HandS.More
import PySem.Challenge.RW_partswing_k27_texts_of_parts
set_option Elab.async false
set_option linter.all false
set_option maxRecDepth 100000
/-! The pure layer: what a piece of the text does, told over plain data (D) in place of the heap. -/
namespace Pu
open PySem L2

/-! ### plain data and how the heap bears it -/
inductive D where
  | non | bl (b : Bool) | int (i : Int) | str (s : Str)
  | lst (l : List D) | tup (l : List D) | bag
  | ins (c : Str) (fs : List (Str × D))

structure Wd where
  K : PySem.W.Frag
  mg : Str → Option Value
  b : Option Addr

mutual
inductive Rep (w : Wd) (G : Hp) : V → D → Prop
  | non : Rep w G .non .non
  | bl {k} : Rep w G (.bl k) (.bl k)
  | int {i} : Rep w G (.int i) (.int i)
  | str {s} : Rep w G (.str s) (.str s)
  | lst {a vs ds} : G a = some (.lst vs) → Reps w G vs ds → Rep w G (.ref a) (.lst ds)
  | tup {a vs ds} : SqT w.K G a vs → Reps w G vs ds → Rep w G (.ref a) (.tup ds)
  | bag {a} : w.b = some a → Rep w G (.ref a) .bag
  | ins {c C a dx fv fs} : w.mg c = some (.ref C) → G a = some (.ins C dx fv) → RepF w G fv fs → Rep w G (.ref a) (.ins c fs)
inductive Reps (w : Wd) (G : Hp) : List V → List D → Prop
  | nil : Reps w G [] []
  | cons {v d vs ds} : Rep w G v d → Reps w G vs ds → Reps w G (v :: vs) (d :: ds)
inductive RepF (w : Wd) (G : Hp) : List (Str × V) → List (Str × D) → Prop
  | nil : RepF w G [] []
  | cons {x v d vs ds} : Rep w G v d → RepF w G vs ds → RepF w G ((x, v) :: vs) ((x, d) :: ds)
end

def Ex (H H' : Hp) : Prop := ∀ a o, H a = some o → H' a = some o
theorem Ex.refl (H : Hp) : Ex H H := fun _ _ h => h
theorem Ex.trans {H H1 H2 : Hp} (a : Ex H H1) (b : Ex H1 H2) : Ex H H2 := fun x o h => b x o (a x o h)
theorem Ex.rd {H H' : Hp} {a : Addr} {u : HO} (e : Ex H H') (h : Rd H a u) : Rd H' a u := by
  rcases h with h | ⟨o, h⟩
  · exact Or.inl (e a _ h)
  · exact Or.inr ⟨o, e a _ h⟩
theorem Ex.l {K : PySem.W.Frag} {H H' : Hp} {a : Addr} {xs : List V} (e : Ex H H') (h : SqL K H a xs) : SqL K H' a xs := by
  rcases h with h | h
  · exact Or.inl (e.rd h)
  · exact Or.inr h
theorem Ex.t {K : PySem.W.Frag} {H H' : Hp} {a : Addr} {xs : List V} (e : Ex H H') (h : SqT K H a xs) : SqT K H' a xs := by
  rcases h with h | h
  · exact Or.inl (e.rd h)
  · exact Or.inr h
theorem Ex.back {H H' : Hp} {p : Addr} (e : Ex H H') (h : H' p = none) : H p = none := by
  cases h1 : H p with
  | none => rfl
  | some o =>
    rw [e p o h1] at h
    cases h

mutual
theorem Rep.mono {w : Wd} {G G' : Hp} (e : Ex G G') : ∀ {v : V} {d : D}, Rep w G v d → Rep w G' v d
  | _, _, .non => .non
  | _, _, .bl => .bl
  | _, _, .int => .int
  | _, _, .str => .str
  | _, _, .lst h r => .lst (e _ _ h) (Reps.mono e r)
  | _, _, .tup h r => .tup (e.t h) (Reps.mono e r)
  | _, _, .bag h => .bag h
  | _, _, .ins h1 h2 r => .ins h1 (e _ _ h2) (RepF.mono e r)
theorem Reps.mono {w : Wd} {G G' : Hp} (e : Ex G G') : ∀ {v : List V} {d : List D}, Reps w G v d → Reps w G' v d
  | _, _, .nil => .nil
  | _, _, .cons h r => .cons (Rep.mono e h) (Reps.mono e r)
theorem RepF.mono {w : Wd} {G G' : Hp} (e : Ex G G') : ∀ {v : List (Str × V)} {d : List (Str × D)}, RepF w G v d → RepF w G' v d
  | _, _, .nil => .nil
  | _, _, .cons h r => .cons (Rep.mono e h) (RepF.mono e r)
end
theorem Reps.length {w : Wd} {G : Hp} : ∀ {vs : List V} {ds : List D}, Reps w G vs ds → vs.length = ds.length
  | _, _, .nil => rfl
  | _, _, .cons _ r => congrArg Nat.succ r.length
theorem Reps.get {w : Wd} {G : Hp} : ∀ {vs : List V} {ds : List D} {i : Nat} {v : V}, Reps w G vs ds → vs[i]? = some v → ∃ d, ds[i]? = some d ∧ Rep w G v d
  | _, _, i, v, .nil, h => by simp at h
  | _, _, 0, v, .cons r _, h => by
    simp at h
    subst h
    exact ⟨_, rfl, r⟩
  | _, _, i + 1, v, .cons _ r, h => by
    simp at h
    simpa using r.get h
theorem Reps.getD {w : Wd} {G : Hp} : ∀ {vs : List V} {ds : List D} {i : Nat} {d : D}, Reps w G vs ds → ds[i]? = some d → ∃ v, vs[i]? = some v ∧ Rep w G v d
  | _, _, i, v, .nil, h => by simp at h
  | _, _, 0, v, .cons r _, h => by
    simp at h
    subst h
    exact ⟨_, rfl, r⟩
  | _, _, i + 1, v, .cons _ r, h => by
    simp at h
    simpa using r.getD h
theorem Reps.append {w : Wd} {G : Hp} : ∀ {vs us : List V} {ds es : List D}, Reps w G vs ds → Reps w G us es → Reps w G (vs ++ us) (ds ++ es)
  | _, _, _, _, .nil, h => h
  | _, _, _, _, .cons r t, h => .cons r (t.append h)
theorem Reps.ints {w : Wd} {G : Hp} : ∀ (ns : List Int), Reps w G (ns.map V.int) (ns.map D.int)
  | [] => .nil
  | _ :: r => .cons .int (Reps.ints r)

/-! ### the drawing bag: a list of five, its cells' list stands -/
structure Bag (K : PySem.W.Frag) (G H : Hp) (b : Addr) : Prop where
  ex : ∃ (c : Addr) (ns : List Int) (i r m n : Int), H b = some (.lst [.ref c, .int i, .int r, .int m, .int n]) ∧ SqL K G c (ns.map V.int) ∧ 0 ≤ i ∧ 0 ≤ r ∧ 0 ≤ m ∧ m < 2147483648

/-- what stands behind a piece of a run: G the settled part of the heap, H the heap -/
structure Post (w : Wd) (G H G' H' : Hp) : Prop where
  ex : Ex G G'
  exG : Ex G' H'
  keep : ∀ a o, w.b ≠ some a → H a = some o → H' a = some o
  new : ∀ a, G' a ≠ none → G a ≠ none ∨ H a = none
  bag : ∀ β, w.b = some β → G' β = none ∧ H' β ≠ none ∧ Bag w.K G' H' β
structure Pre (w : Wd) (G H : Hp) : Prop where
  exG : Ex G H
  bag : ∀ β, w.b = some β → G β = none ∧ H β ≠ none ∧ Bag w.K G H β
theorem Bag.mono {K : PySem.W.Frag} {G G' H H' : Hp} {b : Addr} (h : Bag K G H b) (e : Ex G G') (k : H' b = H b) : Bag K G' H' b := by
  obtain ⟨c, ns, i, r, m, n, h1, h2, h3⟩ := h.ex
  exact ⟨c, ns, i, r, m, n, by rw [k]; exact h1, e.l h2, h3⟩
theorem Post.refl {w : Wd} {G H : Hp} (p : Pre w G H) : Post w G H G H := ⟨Ex.refl _, p.exG, fun _ _ _ h => h, fun _ h => .inl h, p.bag⟩
theorem Post.pre {w : Wd} {G H G' H' : Hp} (p : Post w G H G' H') : Pre w G' H' := ⟨p.exG, p.bag⟩
theorem Post.trans {w : Wd} {G H G1 H1 G2 H2 : Hp} (p : Post w G H G1 H1) (q : Post w G1 H1 G2 H2) : Post w G H G2 H2 := by
  refine ⟨p.ex.trans q.ex, q.exG, fun a o n h => q.keep a o n (p.keep a o n h), fun a h => ?_, q.bag⟩
  rcases q.new a h with h1 | h1
  · exact p.new a h1
  · refine .inr ?_
    cases e : H a with
    | none => rfl
    | some o =>
      by_cases hb : w.b = some a
      · exact absurd h1 (p.bag a hb).2.1
      · rw [p.keep a o hb e] at h1
        cases h1
theorem Post.new1 {w : Wd} {G H : Hp} {a : Addr} {o : HO} (p : Pre w G H) (hn : H a = none) : Post w G H (upd G a o) (upd H a o) := by
  have gn : G a = none := p.exG.back hn
  have e1 : Ex G (upd G a o) := fun x u h => by
    rw [upd_ne (ne_of_none h gn)]
    exact h
  refine ⟨e1, fun x u h => ?_, fun x u _ h => ?_, fun x h => ?_, fun β hβ => ?_⟩
  · by_cases e : x = a
    · subst e
      rw [upd_same] at h ⊢
      exact h
    · rw [upd_ne e] at h ⊢
      exact p.exG _ _ h
  · rw [upd_ne (ne_of_none h hn)]
    exact h
  · by_cases e : x = a
    · exact .inr (by rw [e]; exact hn)
    · rw [upd_ne e] at h
      exact .inl h
  · obtain ⟨h1, h2, h3⟩ := p.bag β hβ
    have ne : β ≠ a := fun e => by
      subst e
      exact h2 hn
    refine ⟨by rw [upd_ne ne]; exact h1, by rw [upd_ne ne]; exact h2, h3.mono e1 (by rw [upd_ne ne])⟩

/-! ### the frame: its slots as data -/
inductive Sl where
  | no | v (d : D) | ol (l : List D)
abbrev En := List Sl
structure Fc where
  wd : Wd
  G0 : Hp
  H0 : Hp
  pins : List (Addr × HO) := []
/-- slot i holds s at σ; own: a list of the frame's own, at a -/
def SlOk (F : Fc) (G H : Hp) (s : Sl) (x : Option (Option V)) : Prop := match s with
  | .no => True
  | .v d => ∃ v, x = some (some v) ∧ Rep F.wd G v d
  | .ol l => ∃ a vs, x = some (some (.ref a)) ∧ F.H0 a = none ∧ G a = none ∧ H a = some (.lst vs) ∧ Reps F.wd G vs l
structure SI (F : Fc) (env : En) (σ : L2.St) (G H : Hp) : Prop where
  pre0 : Pre F.wd F.G0 F.H0
  post : Post F.wd F.G0 F.H0 G H
  len : env.length = σ.length
  sl : ∀ (i : Nat) (s : Sl), env[i]? = some s → SlOk F G H s (σ[i]?)
  ap : ∀ (i j : Nat) (l l' : List D) (a : Addr), i ≠ j → env[i]? = some (.ol l) → env[j]? = some (.ol l') → σ[i]? = some (some (.ref a)) → σ[j]? ≠ some (some (.ref a))
  pin : ∀ p ∈ F.pins, H p.1 = some p.2 ∧ G p.1 = none ∧ F.H0 p.1 = none ∧ ∀ (i : Nat) (l : List D), env[i]? = some (.ol l) → σ[i]? ≠ some (some (.ref p.1))
theorem SI.exG {F : Fc} {env : En} {σ : L2.St} {G H : Hp} (h : SI F env σ G H) : Ex G H := h.post.exG
theorem SI.pre {F : Fc} {env : En} {σ : L2.St} {G H : Hp} (h : SI F env σ G H) : Pre F.wd G H := h.post.pre
theorem SI.step {F : Fc} {env : En} {σ : L2.St} {G H G' H' : Hp} (h : SI F env σ G H) (p : Post F.wd G H G' H') : SI F env σ G' H' := by
  have kp : ∀ a o, F.H0 a = none → G a = none → H a = some o → H' a = some o ∧ G' a = none := fun a o h2 h3 h4 => by
    have nb : F.wd.b ≠ some a := fun z => (h.pre0.bag a z).2.1 h2
    refine ⟨p.keep a _ nb h4, ?_⟩
    cases e : G' a with
    | none => rfl
    | some o =>
      rcases p.new a (by rw [e]; simp) with z | z
      · exact absurd h3 z
      · rw [h4] at z
        cases z
  refine ⟨h.pre0, h.post.trans p, h.len, fun i s e => ?_, h.ap, fun q hq => ?_⟩
  · have q := h.sl i s e
    cases s with
    | no => trivial
    | v d =>
      obtain ⟨v, h1, h2⟩ := q
      exact ⟨v, h1, h2.mono p.ex⟩
    | ol l =>
      obtain ⟨a, vs, h1, h2, h3, h4, h5⟩ := q
      obtain ⟨k1, k2⟩ := kp a _ h2 h3 h4
      exact ⟨a, vs, h1, h2, k2, k1, h5.mono p.ex⟩
  · obtain ⟨h1, h2, h3, h4⟩ := h.pin q hq
    obtain ⟨k1, k2⟩ := kp _ _ h3 h2 h1
    exact ⟨k1, k2, h3, h4⟩
theorem set_ol {env : En} {i j : Nat} {s : Sl} {l : List D} (hs : ∀ l, s ≠ .ol l) (e : (env.set i s)[j]? = some (.ol l)) : i ≠ j ∧ env[j]? = some (.ol l) := by
  have hij : i ≠ j := fun z => by
    subst z
    rw [List.getElem?_set, if_pos rfl] at e
    split at e
    · exact hs l (Option.some.inj e)
    · cases e
  rw [List.getElem?_set_ne hij] at e
  exact ⟨hij, e⟩
theorem SI.set {F : Fc} {env : En} {σ : L2.St} {G H : Hp} {i : Nat} {v : V} {d : D} (h : SI F env σ G H) (r : Rep F.wd G v d) : SI F (env.set i (.v d)) (σ.set i (some v)) G H := by
  have hs : ∀ l, Sl.v d ≠ .ol l := fun l z => nomatch z
  refine ⟨h.pre0, h.post, by rw [List.length_set, List.length_set]; exact h.len, fun j s e => ?_, fun j k l l' a hjk e1 e2 e3 => ?_, fun q hq => ?_⟩
  · by_cases hij : i = j
    · subst hij
      rw [List.getElem?_set] at e ⊢
      rw [if_pos rfl] at e ⊢
      by_cases hl : i < env.length
      · rw [if_pos hl] at e
        cases e
        rw [if_pos (by rw [← h.len]; exact hl)]
        exact ⟨v, rfl, r⟩
      · rw [if_neg hl] at e
        cases e
    · rw [List.getElem?_set_ne hij] at e ⊢
      exact h.sl j s e
  · obtain ⟨hij, e1⟩ := set_ol hs e1
    obtain ⟨hik, e2⟩ := set_ol hs e2
    rw [List.getElem?_set_ne hij] at e3
    rw [List.getElem?_set_ne hik]
    exact h.ap j k l l' a hjk e1 e2 e3
  · obtain ⟨h1, h2, h3, h4⟩ := h.pin q hq
    refine ⟨h1, h2, h3, fun j l e => ?_⟩
    obtain ⟨hij, e⟩ := set_ol hs e
    rw [List.getElem?_set_ne hij]
    exact h4 j l e
/-- a slot is forgotten -/
theorem SI.forget {F : Fc} {env : En} {σ : L2.St} {G H : Hp} {i : Nat} {x : Option V} (h : SI F env σ G H) : SI F (env.set i .no) (σ.set i x) G H := by
  have hs : ∀ l, Sl.no ≠ .ol l := fun l z => nomatch z
  refine ⟨h.pre0, h.post, by rw [List.length_set, List.length_set]; exact h.len, fun j s e => ?_, fun j k l l' a hjk e1 e2 e3 => ?_, fun q hq => ?_⟩
  · by_cases hij : i = j
    · subst hij
      rw [List.getElem?_set] at e
      rw [if_pos rfl] at e
      split at e
      · cases e
        trivial
      · cases e
    · rw [List.getElem?_set_ne hij] at e ⊢
      exact h.sl j s e
  · obtain ⟨hij, e1⟩ := set_ol hs e1
    obtain ⟨hik, e2⟩ := set_ol hs e2
    rw [List.getElem?_set_ne hij] at e3
    rw [List.getElem?_set_ne hik]
    exact h.ap j k l l' a hjk e1 e2 e3
  · obtain ⟨h1, h2, h3, h4⟩ := h.pin q hq
    refine ⟨h1, h2, h3, fun j l e => ?_⟩
    obtain ⟨hij, e⟩ := set_ol hs e
    rw [List.getElem?_set_ne hij]
    exact h4 j l e

/-! ### exceptions as data -/
structure DX where
  c : Str
  fs : List (Str × D)
structure RX (w : Wd) (G : Hp) (x : DX) (cls : Value) (d : Option Addr) : Prop where
  ex : ∃ C a fv, cls = .ref C ∧ w.mg x.c = some (.ref C) ∧ d = some a ∧ G a = some (.xd fv) ∧ RepF w G fv x.fs

/-! ### judgements -/
abbrev QX := DX → En → Prop
abbrev WE := En → (D → En → Prop) → QX → Prop
abbrev WT := En → (Bool → En → Prop) → QX → Prop
abbrev WA := En → (List D → En → Prop) → QX → Prop
structure EnD where
  nx : En → Prop
  rt : D → Prop
  ex : QX
  bk : En → Prop := fun _ => False
  ct : En → Prop := fun _ => False
abbrev WS := En → EnD → Prop

def XOk (X : Cx) (F : Fc) : Prop := F.wd.K = X.K ∧ F.wd.mg = X.mg
def XK' (F : Fc) (W : WX) (σ : L2.St) (R : QX) : Prop := ∀ x env' cls dct G' H', R x env' → SI F env' σ G' H' → RX F.wd G' x cls dct → W cls dct σ H'
structure PX (X : Cx) (W : WX) (e : Expr) (w : WE) : Prop where
  ex : ∃ t, PE X e t ∧ ∀ (F : Fc) (env : En) (σ : L2.St) (G H : Hp) (P : D → En → Prop) (R : QX) (Q : VK), XOk X F → SI F env σ G H → w env P R →
    (∀ d env' v G' H', P d env' → SI F env' σ G' H' → Ex G G' → Rep F.wd G' v d → Q v H') → XK' F W σ R → t σ H Q
structure PXT (X : Cx) (W : WX) (e : Expr) (w : WT) : Prop where
  ex : ∃ t, PT X e t ∧ ∀ (F : Fc) (env : En) (σ : L2.St) (G H : Hp) (P : Bool → En → Prop) (R : QX) (Q : Bool → Hp → Prop), XOk X F → SI F env σ G H → w env P R →
    (∀ d env' G' H', P d env' → SI F env' σ G' H' → Ex G G' → Q d H') → XK' F W σ R → t σ H Q
/-- for and, or -/
structure PXW (X : Cx) (W : WX) (e : Expr) (w : WT) : Prop where
  ex : ∃ t, PW X e t ∧ ∀ (F : Fc) (env : En) (σ : L2.St) (G H : Hp) (P : Bool → En → Prop) (R : QX) (Q : Bool → Hp → Prop), XOk X F → SI F env σ G H → w env P R →
    (∀ d env' G' H', P d env' → SI F env' σ G' H' → Ex G G' → Q d H') → XK' F W σ R → t σ H Q
structure PXA (X : Cx) (W : WX) (es : List Expr) (w : WA) : Prop where
  ex : ∃ t, PA X es t ∧ ∀ (F : Fc) (env : En) (σ : L2.St) (G H : Hp) (P : List D → En → Prop) (R : QX) (Q : List V → Hp → Prop), XOk X F → SI F env σ G H → w env P R →
    (∀ ds env' vs G' H', P ds env' → SI F env' σ G' H' → Ex G G' → Reps F.wd G' vs ds → Q vs H') → XK' F W σ R → t σ H Q
/-- the ends of a statement, over the heap and over data -/
structure EnOk (F : Fc) (W : WX) (G : Hp) (P : EnD) (Q : Ends) : Prop where
  nx : ∀ env' σ' G' H', P.nx env' → SI F env' σ' G' H' → Ex G G' → Q.nx σ' H'
  rt : ∀ d v env' σ' G' H', P.rt d → SI F env' σ' G' H' → Rep F.wd G' v d → Q.rt v H'
  bk : ∀ env' σ' G' H', P.bk env' → SI F env' σ' G' H' → Ex G G' → Q.bk σ' H'
  ct : ∀ env' σ' G' H', P.ct env' → SI F env' σ' G' H' → Ex G G' → Q.ct σ' H'
  ex : ∀ σ', XK' F W σ' P.ex
structure PXS (X : Cx) (W : WX) (st : Stmt) (w : WS) : Prop where
  ex : ∃ t, PS X st t ∧ ∀ (F : Fc) (env : En) (σ : L2.St) (G H : Hp) (P : EnD) (Q : Ends), XOk X F → SI F env σ G H → w env P → EnOk F W G P Q → t Q σ H
structure PXB (X : Cx) (W : WX) (st : List Stmt) (w : WS) : Prop where
  ex : ∃ t, PSs X st t ∧ ∀ (F : Fc) (env : En) (σ : L2.St) (G H : Hp) (P : EnD) (Q : Ends), XOk X F → SI F env σ G H → w env P → EnOk F W G P Q → t Q σ H
theorem EnOk.mono {F : Fc} {W : WX} {G G' : Hp} {P : EnD} {Q : Ends} (h : EnOk F W G P Q) (e : Ex G G') : EnOk F W G' P Q :=
  ⟨fun a b c d p s x => h.nx a b c d p s (e.trans x), h.rt, fun a b c d p s x => h.bk a b c d p s (e.trans x), fun a b c d p s x => h.ct a b c d p s (e.trans x), h.ex⟩
end Pu
set_option maxRecDepth 100000
/-! Rules of the pure layer: expressions -/
namespace Pu
open PySem L2

/-! ### freezing an own list -/
theorem SI.freeze {F : Fc} {env : En} {σ : L2.St} {G H : Hp} {i : Nat} {l : List D} (h : SI F env σ G H) (e : env[i]? = some (.ol l)) :
    ∃ a G', σ[i]? = some (some (.ref a)) ∧ Ex G G' ∧ SI F (env.set i (.v (.lst l))) σ G' H ∧ Rep F.wd G' (.ref a) (.lst l) := by
  obtain ⟨a, vs, h1, h2, h3, h4, h5⟩ := h.sl i _ e
  have e1 : Ex G (upd G a (.lst vs)) := fun x u hx => by
    rw [upd_ne (ne_of_none hx h3)]
    exact hx
  have rr : Rep F.wd (upd G a (.lst vs)) (.ref a) (.lst l) := .lst upd_same (h5.mono e1)
  refine ⟨a, upd G a (.lst vs), h1, e1, ⟨h.pre0, ⟨h.post.ex.trans e1, fun x u hx => ?_, h.post.keep, fun x hx => ?_, fun β hβ => ?_⟩, by rw [List.length_set]; exact h.len, fun j s es => ?_, fun j k l1 l2 b hjk e2 e3 e4 => ?_, fun q hq => ?_⟩, rr⟩
  · by_cases z : x = a
    · subst z
      rw [upd_same] at hx
      cases hx
      exact h4
    · rw [upd_ne z] at hx
      exact h.exG _ _ hx
  · by_cases z : x = a
    · exact .inr (by rw [z]; exact h2)
    · rw [upd_ne z] at hx
      exact h.post.new x hx
  · obtain ⟨b1, b2, b3⟩ := h.post.bag β hβ
    have ne : β ≠ a := fun z => by
      subst z
      exact (h.pre0.bag _ hβ).2.1 h2
    exact ⟨by rw [upd_ne ne]; exact b1, b2, b3.mono e1 rfl⟩
  · by_cases hij : i = j
    · subst hij
      have hl : i < env.length := (List.getElem?_eq_some_iff.mp e).1
      rw [List.getElem?_set, if_pos rfl, if_pos hl] at es
      cases es
      exact ⟨_, h1, rr⟩
    · rw [List.getElem?_set_ne hij] at es
      have q := h.sl j s es
      cases s with
      | no => trivial
      | v d =>
        obtain ⟨v, q1, q2⟩ := q
        exact ⟨v, q1, q2.mono e1⟩
      | ol l' =>
        obtain ⟨b, ws, q1, q2, q3, q4, q5⟩ := q
        have ne : b ≠ a := fun z => by
          subst z
          exact h.ap i j _ _ _ hij e es h1 q1
        exact ⟨b, ws, q1, q2, by rw [upd_ne ne]; exact q3, q4, q5.mono e1⟩
  · have hij : i ≠ j := fun z => by
      subst z
      rw [List.getElem?_set, if_pos rfl] at e2
      split at e2 <;> cases e2
    have hik : i ≠ k := fun z => by
      subst z
      rw [List.getElem?_set, if_pos rfl] at e3
      split at e3 <;> cases e3
    rw [List.getElem?_set_ne hij] at e2
    rw [List.getElem?_set_ne hik] at e3
    exact h.ap j k _ _ b hjk e2 e3 e4
  · obtain ⟨q1, q2, q3, q4⟩ := h.pin q hq
    refine ⟨q1, ?_, q3, fun j l' ej => ?_⟩
    · have ne : q.1 ≠ a := fun z => by
        have y := q4 i l e
        rw [z] at y
        exact y h1
      rw [upd_ne ne]
      exact q2
    · obtain ⟨_, ej⟩ := set_ol (s := .v (.lst l)) (fun l z => Sl.noConfusion z) ej
      exact q4 j l' ej

/-! ### names, constants -/
def wVar (i : Nat) : WE := fun env P _ => match env[i]? with
  | some (.v d) => P d env
  | some (.ol l) => P (.lst l) (env.set i (.v (.lst l)))
  | _ => False
def wC (d : D) : WE := fun env P _ => P d env
section
variable {X : Cx} {W : WX}
theorem px_var (i : Nat) {x : Str} {pos : Pos} (h : PE X (.Name x pos) (tVar i)) : PX X W (.Name x pos) (wVar i) := by
  refine ⟨⟨_, h, fun F env σ G H P R Q hx hs hw hq hr => ?_⟩⟩
  unfold wVar at hw
  cases e : env[i]? with
  | none => rw [e] at hw; exact hw.elim
  | some s =>
    rw [e] at hw
    cases s with
    | no => exact hw.elim
    | v d =>
      obtain ⟨v, h1, h2⟩ := hs.sl i _ e
      exact ⟨v, h1, hq d env v G H hw hs (Ex.refl _) h2⟩
    | ol l =>
      obtain ⟨a, G', h1, e1, h2, h3⟩ := hs.freeze e
      exact ⟨_, h1, hq _ _ _ G' H hw h2 e1 h3⟩
theorem px_c {e : Expr} {v : V} {d : D} (h : PE X e (tC v)) (hr : ∀ w G, Rep w G v d) : PX X W e (wC d) :=
  ⟨⟨_, h, fun F env σ G H P R Q hx hs hw hq hr' => hq d env v G H hw hs (Ex.refl _) (hr _ _)⟩⟩
theorem px_int {i j pos} : PX X W (.Constant (.int i) j pos) (wC (.int i)) := px_c pe_int fun _ _ => .int
theorem px_bl {b j pos} : PX X W (.Constant (.bool b) j pos) (wC (.bl b)) := px_c pe_bl fun _ _ => .bl
theorem px_non {j pos} : PX X W (.Constant .none j pos) (wC .non) := px_c pe_non fun _ _ => .non
theorem px_str {x j pos} : PX X W (.Constant (.str x) j pos) (wC (.str x)) := px_c pe_str fun _ _ => .str
/-- a module's scalar constant -/
theorem px_glob {x : Str} {v : V} {d : D} {u : Value} {pos : Pos} (hg : Gl X x) (hm : X.mg x = some u) (r : RelV v u) (hr : ∀ w G, Rep w G v d) (hd : (x == ("__debug__" : Str)) = false := by decide) : PX X W (.Name x pos) (wC d) :=
  px_c (pe_glob hg hm r hd) hr
end

/-! ### operators over data -/
abbrev RD2 := D → D → (D → Prop) → Prop
def wOp (r : RD2) (wa wb : WE) : WE := fun env P R => wa env (fun x e1 => wb e1 (fun y e2 => r x y fun z => P z e2) R) R
/-- an operator's reading over data: what it wants of values stands -/
def ROk (X : Cx) (r0 : R2) (r : RD2) : Prop := ∀ (w : Wd) (G H : Hp) (x y : D) (vx vy : V) (P : D → Prop) (Q : VK), w.K = X.K → w.mg = X.mg → Pre w G H → Rep w G vx x → Rep w G vy y → r x y P →
  (∀ z v G' H', P z → Post w G H G' H' → Rep w G' v z → Q v H') → r0 vx vy H Q
def PR2 (X : Cx) (f : Value → Value → Sem Value) (r : RD2) : Prop := ∃ r0, OpR X f r0 ∧ ROk X r0 r
theorem OpR.or {X : Cx} {f : Value → Value → Sem Value} {r r' : R2} (h : OpR X f r) (h' : OpR X f r') : OpR X f (fun x y H Q => r x y H Q ∨ r' x y H Q) := by
  intro pins s σ H x y v u Q I rx ry q
  rcases q with q | q
  · exact h pins s σ H x y v u Q I rx ry q
  · exact h' pins s σ H x y v u Q I rx ry q
section
variable {X : Cx} {W : WX} {a b : Expr} {wa wb : WE} {pos : Pos}
theorem run2 {r0 : R2} {r : RD2} (hr : ROk X r0 r) {ta tb : TE}
    (ha : ∀ (F : Fc) (env : En) (σ : L2.St) (G H : Hp) (P : D → En → Prop) (R : QX) (Q : VK), XOk X F → SI F env σ G H → wa env P R → (∀ d env' v G' H', P d env' → SI F env' σ G' H' → Ex G G' → Rep F.wd G' v d → Q v H') → XK' F W σ R → ta σ H Q)
    (hb : ∀ (F : Fc) (env : En) (σ : L2.St) (G H : Hp) (P : D → En → Prop) (R : QX) (Q : VK), XOk X F → SI F env σ G H → wb env P R → (∀ d env' v G' H', P d env' → SI F env' σ G' H' → Ex G G' → Rep F.wd G' v d → Q v H') → XK' F W σ R → tb σ H Q)
    (F : Fc) (env : En) (σ : L2.St) (G H : Hp) (P : D → En → Prop) (R : QX) (Q : VK) (hx : XOk X F) (hs : SI F env σ G H) (hw : wOp r wa wb env P R) (hq : ∀ d env' v G' H', P d env' → SI F env' σ G' H' → Ex G G' → Rep F.wd G' v d → Q v H') (hk : XK' F W σ R) : tOp r0 ta tb σ H Q := by
  refine ha F env σ G H _ R _ hx hs hw (fun x e1 vx G1 H1 p1 s1 x1 r1 => ?_) hk
  refine hb F e1 σ G1 H1 _ R _ hx s1 p1 (fun y e2 vy G2 H2 p2 s2 x2 r2 => ?_) hk
  exact hr F.wd G2 H2 x y vx vy _ Q hx.1 hx.2 s2.pre (r1.mono x2) r2 p2 fun z v G' H' p po rz => hq z e2 v G' H' p (s2.step po) ((x1.trans x2).trans po.ex) rz
theorem px_op {op : Operator} {r : RD2} (ho : PR2 X (binaryOp op) r) (ha : PX X W a wa) (hb : PX X W b wb) : PX X W (.BinOp a op b pos) (wOp r wa wb) := by
  obtain ⟨r0, h1, h2⟩ := ho
  obtain ⟨ta, a1, a2⟩ := ha.ex
  obtain ⟨tb, b1, b2⟩ := hb.ex
  exact ⟨⟨_, pe_op h1 a1 b1, run2 h2 a2 b2⟩⟩
theorem px_cmp {op : CmpOp} {r : RD2} (ho : PR2 X (compareOp op) r) (ha : PX X W a wa) (hb : PX X W b wb) (hm : behindInMarks op b = false := by first | exact nobehind _ (by decide) (by decide) | rfl) : PX X W (.Compare a [op] [b] pos) (wOp r wa wb) := by
  obtain ⟨r0, h1, h2⟩ := ho
  obtain ⟨ta, a1, a2⟩ := ha.ex
  obtain ⟨tb, b1, b2⟩ := hb.ex
  exact ⟨⟨_, pe_cmpR h1 a1 b1 hm, run2 h2 a2 b2⟩⟩
def wTest (w : WE) : WT := fun env P R => w env (fun d e1 => match d with | .bl k => P k e1 | _ => False) R
theorem pt_cmp' {op : CmpOp} {r : RD2} (ho : PR2 X (compareOp op) r) (ha : PX X W a wa) (hb : PX X W b wb) (hm : behindInMarks op b = false := by first | exact nobehind _ (by decide) (by decide) | rfl) : PXT X W (.Compare a [op] [b] pos) (wTest (wOp r wa wb)) := by
  obtain ⟨r0, h1, h2⟩ := ho
  obtain ⟨ta, a1, a2⟩ := ha.ex
  obtain ⟨tb, b1, b2⟩ := hb.ex
  refine ⟨⟨_, pt_cmpR h1 a1 b1 hm, fun F env σ G H P R Q hx hs hw hq hk => run2 h2 a2 b2 F env σ G H _ R _ hx hs hw (fun d e1 v G1 H1 p s1 x1 r1 => ?_) hk⟩⟩
  cases d with
  | bl k =>
    cases r1
    exact ⟨k, rfl, hq k e1 G1 H1 p s1 x1⟩
  | _ => exact p.elim
/-- a op b op2 c -/
def wChain (r r' : RD2) (wa wb wc : WE) : WE := fun env P R => wa env (fun x e1 => wb e1 (fun y e2 => r x y fun z => match z with
  | .bl true => wc e2 (fun u e3 => r' y u fun z' => P z' e3) R
  | .bl false => P (.bl false) e2
  | _ => False) R) R
theorem runC {r0 r0' : R2} {r r' : RD2} {c : Expr} {wc : WE} (hr : ROk X r0 r) (hr' : ROk X r0' r') {ta tb tc : TE}
    (ha : ∀ (F : Fc) (env : En) (σ : L2.St) (G H : Hp) (P : D → En → Prop) (R : QX) (Q : VK), XOk X F → SI F env σ G H → wa env P R → (∀ d env' v G' H', P d env' → SI F env' σ G' H' → Ex G G' → Rep F.wd G' v d → Q v H') → XK' F W σ R → ta σ H Q)
    (hb : ∀ (F : Fc) (env : En) (σ : L2.St) (G H : Hp) (P : D → En → Prop) (R : QX) (Q : VK), XOk X F → SI F env σ G H → wb env P R → (∀ d env' v G' H', P d env' → SI F env' σ G' H' → Ex G G' → Rep F.wd G' v d → Q v H') → XK' F W σ R → tb σ H Q)
    (hc : ∀ (F : Fc) (env : En) (σ : L2.St) (G H : Hp) (P : D → En → Prop) (R : QX) (Q : VK), XOk X F → SI F env σ G H → wc env P R → (∀ d env' v G' H', P d env' → SI F env' σ G' H' → Ex G G' → Rep F.wd G' v d → Q v H') → XK' F W σ R → tc σ H Q)
    (F : Fc) (env : En) (σ : L2.St) (G H : Hp) (P : D → En → Prop) (R : QX) (Q : VK) (hx : XOk X F) (hs : SI F env σ G H) (hw : wChain r r' wa wb wc env P R) (hq : ∀ d env' v G' H', P d env' → SI F env' σ G' H' → Ex G G' → Rep F.wd G' v d → Q v H') (hk : XK' F W σ R) : tChain r0 r0' ta tb tc σ H Q := by
  refine ha F env σ G H _ R _ hx hs hw (fun x e1 vx G1 H1 p1 s1 x1 r1 => ?_) hk
  refine hb F e1 σ G1 H1 _ R _ hx s1 p1 (fun y e2 vy G2 H2 p2 s2 x2 r2 => ?_) hk
  refine hr F.wd G2 H2 x y vx vy _ _ hx.1 hx.2 s2.pre (r1.mono x2) r2 p2 fun z v G3 H3 p po rz => ?_
  have s3 := s2.step po
  cases z with
  | bl k =>
    cases rz
    cases k with
    | false =>
      refine ⟨false, rfl, ?_⟩
      rw [if_neg Bool.false_ne_true]
      exact hq _ e2 _ G3 H3 p s3 ((x1.trans x2).trans po.ex) .bl
    | true =>
      refine ⟨true, rfl, ?_⟩
      rw [if_pos rfl]
      refine hc F e2 σ G3 H3 _ R _ hx s3 p (fun u e3 vu G4 H4 p4 s4 x4 r4 => ?_) hk
      exact hr' F.wd G4 H4 y u vy vu _ Q hx.1 hx.2 s4.pre ((r2.mono po.ex).mono x4) r4 p4 fun z v G' H' p po' rz => hq z e3 v G' H' p (s4.step po') ((((x1.trans x2).trans po.ex).trans x4).trans po'.ex) rz
  | _ => exact p.elim
theorem px_chain {op op' : CmpOp} {r r' : RD2} {c : Expr} {wc : WE} (ho : PR2 X (compareOp op) r) (ho' : PR2 X (compareOp op') r') (ha : PX X W a wa) (hb : PX X W b wb) (hc : PX X W c wc)
    (hm : lastMarks [op, op'] [b, c] = false := by with_unfolding_all rfl) : PX X W (.Compare a [op, op'] [b, c] pos) (wChain r r' wa wb wc) := by
  obtain ⟨r0, h1, h2⟩ := ho
  obtain ⟨r1, h3, h4⟩ := ho'
  obtain ⟨ta, a1, a2⟩ := ha.ex
  obtain ⟨tb, b1, b2⟩ := hb.ex
  obtain ⟨tc, c1, c2⟩ := hc.ex
  exact ⟨⟨_, pe_chain h1 h3 a1 b1 c1 hm, runC (c := c) h2 h4 a2 b2 c2⟩⟩
theorem pt_chain' {op op' : CmpOp} {r r' : RD2} {c : Expr} {wc : WE} (ho : PR2 X (compareOp op) r) (ho' : PR2 X (compareOp op') r') (ha : PX X W a wa) (hb : PX X W b wb) (hc : PX X W c wc)
    (hm : lastMarks [op, op'] [b, c] = false := by with_unfolding_all rfl) : PXT X W (.Compare a [op, op'] [b, c] pos) (wTest (wChain r r' wa wb wc)) := by
  obtain ⟨r0, h1, h2⟩ := ho
  obtain ⟨r1, h3, h4⟩ := ho'
  obtain ⟨ta, a1, a2⟩ := ha.ex
  obtain ⟨tb, b1, b2⟩ := hb.ex
  obtain ⟨tc, c1, c2⟩ := hc.ex
  refine ⟨⟨_, pt_chain h1 h3 a1 b1 c1 hm, fun F env σ G H P R Q hx hs hw hq hk => runC (c := c) h2 h4 a2 b2 c2 F env σ G H _ R _ hx hs hw (fun d e1 v G1 H1 p s1 x1 r1 => ?_) hk⟩⟩
  cases d with
  | bl k =>
    cases r1
    exact ⟨k, rfl, hq k e1 G1 H1 p s1 x1⟩
  | _ => exact p.elim
/-- an expression as a test: a bool -/
theorem pt_bool (h : PX X W a wa) (he : ∀ whole, isTrue a X.env whole = (do let v ← whole; standAt a.pos; holding [v] (truthy v)) := by intro _; rfl) : PXT X W a (wTest wa) := by
  obtain ⟨ta, a1, a2⟩ := h.ex
  refine ⟨⟨_, pt_val a1 he, fun F env σ G H P R Q hx hs hw hq hk => a2 F env σ G H _ R _ hx hs hw (fun d e1 v G1 H1 p s1 x1 r1 => ?_) hk⟩⟩
  cases d with
  | bl k =>
    cases r1
    exact ⟨k, rfl, hq k e1 G1 H1 p s1 x1⟩
  | _ => exact p.elim
/-! ### and, or, not, if -/
def wNot (w : WT) : WT := fun env P R => w env (fun k e => P (!k) e) R
def wAnd (w u : WT) : WT := fun env P R => w env (fun k e => match k with | true => u e P R | false => P false e) R
def wOr (w u : WT) : WT := fun env P R => w env (fun k e => match k with | true => P true e | false => u e P R) R
theorem pt_not' {w : WT} (h : PXT X W a w) : PXT X W (.UnaryOp .Not a pos) (wNot w) := by
  obtain ⟨t, a1, a2⟩ := h.ex
  exact ⟨⟨_, pt_not a1, fun F env σ G H P R Q hx hs hw hq hk => a2 F env σ G H _ R _ hx hs hw (fun d e1 G1 H1 p s1 x1 => hq _ e1 G1 H1 p s1 x1) hk⟩⟩
theorem pw_pt {w : WT} (h : PXW X W a w) : PXT X W a w := by
  obtain ⟨t, a1, a2⟩ := h.ex
  exact ⟨⟨_, a1.pt, a2⟩⟩
theorem pw_and1' {w : WT} (h : PXT X W a w) : PXW X W (.BoolOp .And [a] pos) w := by
  obtain ⟨t, a1, a2⟩ := h.ex
  exact ⟨⟨_, pw_and1 a1, a2⟩⟩
theorem pw_or1' {w : WT} (h : PXT X W a w) : PXW X W (.BoolOp .Or [a] pos) w := by
  obtain ⟨t, a1, a2⟩ := h.ex
  exact ⟨⟨_, pw_or1 a1, a2⟩⟩
theorem pw_and' {w u : WT} {rest : List Expr} (h : PXT X W a w) (g : PXW X W (.BoolOp .And (b :: rest) pos) u) : PXW X W (.BoolOp .And (a :: b :: rest) pos) (wAnd w u) := by
  obtain ⟨t, a1, a2⟩ := h.ex
  obtain ⟨t', b1, b2⟩ := g.ex
  refine ⟨⟨_, pw_and a1 b1, fun F env σ G H P R Q hx hs hw hq hk => a2 F env σ G H _ R _ hx hs hw (fun d e1 G1 H1 p s1 x1 => ?_) hk⟩⟩
  cases d with
  | true =>
    rw [if_pos rfl]
    exact b2 F e1 σ G1 H1 _ R _ hx s1 p (fun d' e2 G2 H2 p2 s2 x2 => hq d' e2 G2 H2 p2 s2 (x1.trans x2)) hk
  | false =>
    rw [if_neg Bool.false_ne_true]
    exact hq _ e1 G1 H1 p s1 x1
theorem pw_or' {w u : WT} {rest : List Expr} (h : PXT X W a w) (g : PXW X W (.BoolOp .Or (b :: rest) pos) u) : PXW X W (.BoolOp .Or (a :: b :: rest) pos) (wOr w u) := by
  obtain ⟨t, a1, a2⟩ := h.ex
  obtain ⟨t', b1, b2⟩ := g.ex
  refine ⟨⟨_, pw_or a1 b1, fun F env σ G H P R Q hx hs hw hq hk => a2 F env σ G H _ R _ hx hs hw (fun d e1 G1 H1 p s1 x1 => ?_) hk⟩⟩
  cases d with
  | false =>
    rw [if_neg Bool.false_ne_true]
    exact b2 F e1 σ G1 H1 _ R _ hx s1 p (fun d' e2 G2 H2 p2 s2 x2 => hq d' e2 G2 H2 p2 s2 (x1.trans x2)) hk
  | true =>
    rw [if_pos rfl]
    exact hq _ e1 G1 H1 p s1 x1
/-- as values (bools) -/
def wNotV (w : WE) : WE := fun env P R => w env (fun d e => match d with | .bl k => P (.bl (!k)) e | _ => False) R
def wAndV (w u : WE) : WE := fun env P R => w env (fun d e => match d with | .bl true => u e P R | .bl false => P (.bl false) e | _ => False) R
def wOrV (w u : WE) : WE := fun env P R => w env (fun d e => match d with | .bl true => P (.bl true) e | .bl false => u e P R | _ => False) R
theorem px_not (h : PX X W a wa) : PX X W (.UnaryOp .Not a pos) (wNotV wa) := by
  obtain ⟨t, a1, a2⟩ := h.ex
  refine ⟨⟨_, pe_not a1, fun F env σ G H P R Q hx hs hw hq hk => a2 F env σ G H _ R _ hx hs hw (fun d e1 v G1 H1 p s1 x1 r1 => ?_) hk⟩⟩
  cases d with
  | bl k =>
    cases r1
    exact ⟨k, rfl, hq _ e1 _ G1 H1 p s1 x1 .bl⟩
  | _ => exact p.elim
theorem px_one {op : BoolOp} (h : PX X W a wa) : PX X W (.BoolOp op [a] pos) wa := by
  obtain ⟨t, a1, a2⟩ := h.ex
  exact ⟨⟨_, pe_one a1, a2⟩⟩
theorem px_and {rest : List Expr} (h : PX X W a wa) (g : PX X W (.BoolOp .And (b :: rest) pos) wb) : PX X W (.BoolOp .And (a :: b :: rest) pos) (wAndV wa wb) := by
  obtain ⟨t, a1, a2⟩ := h.ex
  obtain ⟨t', b1, b2⟩ := g.ex
  refine ⟨⟨_, pe_and a1 b1, fun F env σ G H P R Q hx hs hw hq hk => a2 F env σ G H _ R _ hx hs hw (fun d e1 v G1 H1 p s1 x1 r1 => ?_) hk⟩⟩
  cases d with
  | bl k =>
    cases r1
    refine ⟨k, rfl, ?_⟩
    cases k with
    | true =>
      rw [if_pos rfl]
      exact b2 F e1 σ G1 H1 _ R _ hx s1 p (fun d' e2 v2 G2 H2 p2 s2 x2 => hq d' e2 v2 G2 H2 p2 s2 (x1.trans x2)) hk
    | false =>
      rw [if_neg Bool.false_ne_true]
      exact hq _ e1 _ G1 H1 p s1 x1 .bl
  | _ => exact p.elim
theorem px_or {rest : List Expr} (h : PX X W a wa) (g : PX X W (.BoolOp .Or (b :: rest) pos) wb) : PX X W (.BoolOp .Or (a :: b :: rest) pos) (wOrV wa wb) := by
  obtain ⟨t, a1, a2⟩ := h.ex
  obtain ⟨t', b1, b2⟩ := g.ex
  refine ⟨⟨_, pe_or a1 b1, fun F env σ G H P R Q hx hs hw hq hk => a2 F env σ G H _ R _ hx hs hw (fun d e1 v G1 H1 p s1 x1 r1 => ?_) hk⟩⟩
  cases d with
  | bl k =>
    cases r1
    refine ⟨k, rfl, ?_⟩
    cases k with
    | false =>
      rw [if_neg Bool.false_ne_true]
      exact b2 F e1 σ G1 H1 _ R _ hx s1 p (fun d' e2 v2 G2 H2 p2 s2 x2 => hq d' e2 v2 G2 H2 p2 s2 (x1.trans x2)) hk
    | true =>
      rw [if_pos rfl]
      exact hq _ e1 _ G1 H1 p s1 x1 .bl
  | _ => exact p.elim
def wIf (t : WT) (u v : WE) : WE := fun env P R => t env (fun k e => match k with | true => u e P R | false => v e P R) R
theorem px_if {c : Expr} {wt : WT} (hc : PXT X W c wt) (ha : PX X W a wa) (hb : PX X W b wb) : PX X W (.IfExp c a b pos) (wIf wt wa wb) := by
  obtain ⟨t, c1, c2⟩ := hc.ex
  obtain ⟨ta, a1, a2⟩ := ha.ex
  obtain ⟨tb, b1, b2⟩ := hb.ex
  refine ⟨⟨_, pe_ifExp c1 a1 b1, fun F env σ G H P R Q hx hs hw hq hk => c2 F env σ G H _ R _ hx hs hw (fun d e1 G1 H1 p s1 x1 => ?_) hk⟩⟩
  cases d with
  | true =>
    rw [if_pos rfl]
    exact a2 F e1 σ G1 H1 _ R _ hx s1 p (fun d' e2 v2 G2 H2 p2 s2 x2 => hq d' e2 v2 G2 H2 p2 s2 (x1.trans x2)) hk
  | false =>
    rw [if_neg Bool.false_ne_true]
    exact b2 F e1 σ G1 H1 _ R _ hx s1 p (fun d' e2 v2 G2 H2 p2 s2 x2 => hq d' e2 v2 G2 H2 p2 s2 (x1.trans x2)) hk
/-! ### argument lists, displays, calls of built-ins -/
def wNil : WA := fun env P _ => P [] env
def wCons (w : WE) (u : WA) : WA := fun env P R => w env (fun d e => u e (fun ds e2 => P (d :: ds) e2) R) R
theorem pa_nil' : PXA X W [] wNil := ⟨⟨_, pa_nil, fun F env σ G H P R Q hx hs hw hq hk => hq [] env [] G H hw hs (Ex.refl _) .nil⟩⟩
theorem pa_cons' {es : List Expr} {u : WA} (h : PX X W a wa) (g : PXA X W es u) (hs : starEach (a :: es) X.env = (false, eval a X.env) :: starEach es X.env := by rfl) : PXA X W (a :: es) (wCons wa u) := by
  obtain ⟨t, a1, a2⟩ := h.ex
  obtain ⟨t', b1, b2⟩ := g.ex
  refine ⟨⟨_, pa_cons a1 b1 hs, fun F env σ G H P R Q hx hs hw hq hk => a2 F env σ G H _ R _ hx hs hw (fun d e1 v G1 H1 p s1 x1 r1 => ?_) hk⟩⟩
  exact b2 F e1 σ G1 H1 _ R _ hx s1 p (fun ds e2 vs G2 H2 p2 s2 x2 r2 => hq (d :: ds) e2 (v :: vs) G2 H2 p2 s2 (x1.trans x2) (.cons (r1.mono x2) r2)) hk
def wLst (u : WA) : WE := fun env P R => u env (fun ds e => ds.length ≤ sizeLine ∧ P (.lst ds) e) R
def wTup (u : WA) : WE := fun env P R => u env (fun ds e => ds.length ≤ sizeLine ∧ P (.tup ds) e) R
theorem px_lst {es : List Expr} {u : WA} (h : PXA X W es u) : PX X W (.List es pos) (wLst u) := by
  obtain ⟨t, a1, a2⟩ := h.ex
  refine ⟨⟨_, pe_lst a1, fun F env σ G H P R Q hx hs hw hq hk => a2 F env σ G H _ R _ hx hs hw (fun ds e1 vs G1 H1 p s1 x1 r1 => ⟨by rw [r1.length]; exact p.1, fun l hl => ?_⟩) hk⟩⟩
  have po := Post.new1 (o := .lst vs) s1.pre hl
  exact hq _ e1 _ _ _ p.2 (s1.step po) (x1.trans po.ex) (.lst upd_same (r1.mono po.ex))
theorem px_tup {es : List Expr} {u : WA} {x1} (h : PXA X W es u) : PX X W (.Tuple es x1 pos) (wTup u) := by
  obtain ⟨t, a1, a2⟩ := h.ex
  refine ⟨⟨_, pe_tup a1, fun F env σ G H P R Q hx hs hw hq hk => a2 F env σ G H _ R _ hx hs hw (fun ds e1 vs G1 H1 p s1 x1 r1 => ⟨by rw [r1.length]; exact p.1, fun l hl => ?_⟩) hk⟩⟩
  have po := Post.new1 (o := .tup vs) s1.pre hl
  exact hq _ e1 _ _ _ p.2 (s1.step po) (x1.trans po.ex) (.tup (.inl (.inl upd_same)) (r1.mono po.ex))
/-- a built-in call over data -/
abbrev RDA := List D → (D → Prop) → Prop
def RAOk (X : Cx) (r0 : List V → Hp → VK → Prop) (r : RDA) : Prop := ∀ (w : Wd) (G H : Hp) (ds : List D) (vs : List V) (P : D → Prop) (Q : VK), w.K = X.K → w.mg = X.mg → Pre w G H → Reps w G vs ds → r ds P →
  (∀ z v G' H', P z → Post w G H G' H' → Rep w G' v z → Q v H') → r0 vs H Q
def PRA (X : Cx) (f : Value) (r : RDA) : Prop := ∃ r0, CallR X f r0 ∧ RAOk X r0 r
def wCB (r : RDA) (u : WA) : WE := fun env P R => u env (fun ds e => r ds fun z => P z e) R
theorem runA {r0 : List V → Hp → VK → Prop} {r : RDA} (hr : RAOk X r0 r) {t : TA} {u : WA}
    (a2 : ∀ (F : Fc) (env : En) (σ : L2.St) (G H : Hp) (P : List D → En → Prop) (R : QX) (Q : List V → Hp → Prop), XOk X F → SI F env σ G H → u env P R → (∀ ds env' vs G' H', P ds env' → SI F env' σ G' H' → Ex G G' → Reps F.wd G' vs ds → Q vs H') → XK' F W σ R → t σ H Q)
    (F : Fc) (env : En) (σ : L2.St) (G H : Hp) (P : D → En → Prop) (R : QX) (Q : VK) (hx : XOk X F) (hs : SI F env σ G H) (hw : wCB r u env P R) (hq : ∀ d env' v G' H', P d env' → SI F env' σ G' H' → Ex G G' → Rep F.wd G' v d → Q v H') (hk : XK' F W σ R) : tCB r0 t σ H Q :=
  a2 F env σ G H _ R _ hx hs hw (fun ds e1 vs G1 H1 p s1 x1 r1 => hr F.wd G1 H1 ds vs _ Q hx.1 hx.2 s1.pre r1 p fun z v G' H' p' po rz => hq z e1 v G' H' p' (s1.step po) (x1.trans po.ex) rz) hk
theorem px_callB {id : String} {r : RDA} {x : Str} {p : Pos} {e : Expr} {es : List Expr} {u : WA} (hc : PRA X (.builtin id) r) (hg : Gl X x) (hm : X.mg x = none) (hv : bootBuiltins x = some (.builtin id)) (ha : PXA X W (e :: es) u) (hn : x ≠ "__name__" := by decide) (hdb : (x == ("__debug__" : Str)) = false := by decide)
    (he : starEach (e :: es) X.env = (false, eval e X.env) :: starEach es X.env := by rfl) (hpl : (backTo pos (starEach es X.env)).any (·.1) = false := by rfl) : PX X W (.Call (.Name x p) (e :: es) [] pos) (wCB r u) := by
  obtain ⟨r0, h1, h2⟩ := hc
  obtain ⟨t, a1, a2⟩ := ha.ex
  exact ⟨⟨_, pe_callB h1 hg hm hv a1 hn hdb he hpl, runA h2 a2⟩⟩
theorem px_callTy {T : String} {r : RDA} {x : Str} {p : Pos} {e : Expr} {es : List Expr} {u : WA} (hc : PRA X (.type T) r) (hg : Gl X x) (hm : X.mg x = none) (hv : bootBuiltins x = some (.type T)) (ha : PXA X W (e :: es) u) (hn : x ≠ "__name__" := by decide) (hdb : (x == ("__debug__" : Str)) = false := by decide)
    (he : starEach (e :: es) X.env = (false, eval e X.env) :: starEach es X.env := by rfl) (hpl : (backTo pos (starEach es X.env)).any (·.1) = false := by rfl) : PX X W (.Call (.Name x p) (e :: es) [] pos) (wCB r u) := by
  obtain ⟨r0, h1, h2⟩ := hc
  obtain ⟨t, a1, a2⟩ := ha.ex
  exact ⟨⟨_, pe_callTy h1 hg hm hv a1 hn hdb he hpl, runA h2 a2⟩⟩
end
end Pu
set_option maxRecDepth 100000
/-! Rules of the pure layer: operators, built-ins, subscripts over data -/
namespace Pu
open PySem L2

theorem Rep.asInt {w : Wd} {G : Hp} {v : V} {i : Int} (h : Rep w G v (.int i)) : v = .int i := by cases h; rfl
theorem Rep.asStr {w : Wd} {G : Hp} {v : V} {i : Str} (h : Rep w G v (.str i)) : v = .str i := by cases h; rfl
theorem Rep.asBl {w : Wd} {G : Hp} {v : V} {i : Bool} (h : Rep w G v (.bl i)) : v = .bl i := by cases h; rfl
theorem Rep.asNon {w : Wd} {G : Hp} {v : V} (h : Rep w G v .non) : v = .non := by cases h; rfl
theorem Rep.asLst {w : Wd} {G : Hp} {v : V} {l : List D} (h : Rep w G v (.lst l)) : ∃ a vs, v = .ref a ∧ G a = some (.lst vs) ∧ Reps w G vs l := by
  cases h with
  | lst h1 h2 => exact ⟨_, _, rfl, h1, h2⟩
theorem Rep.asTup {w : Wd} {G : Hp} {v : V} {l : List D} (h : Rep w G v (.tup l)) : ∃ a vs, v = .ref a ∧ SqT w.K G a vs ∧ Reps w G vs l := by
  cases h with
  | tup h1 h2 => exact ⟨_, _, rfl, h1, h2⟩

/-! ### arithmetic -/
def rdI (C : Int → Int → Prop) (g : Int → Int → D) : RD2 := fun x y P => match x, y with
  | .int i, .int j => C i j ∧ P (g i j)
  | _, _ => False
theorem rok_I {X : Cx} {C : Int → Int → Prop} {g : Int → Int → Int} : ROk X (rI C fun i j => .int (g i j)) (rdI C fun i j => .int (g i j)) := by
  intro w G H x y vx vy P Q hK hm hp rx ry h hq
  cases x <;> first | exact h.elim | skip
  cases y <;> first | exact h.elim | skip
  cases rx
  cases ry
  exact ⟨_, _, rfl, rfl, h.1, hq _ _ G H h.2 (Post.refl hp) .int⟩
theorem rok_B {X : Cx} {g : Int → Int → Bool} : ROk X (rI0 fun i j => .bl (g i j)) (rdI (fun _ _ => True) fun i j => .bl (g i j)) := by
  intro w G H x y vx vy P Q hK hm hp rx ry h hq
  cases x <;> first | exact h.elim | skip
  cases y <;> first | exact h.elim | skip
  cases rx
  cases ry
  exact ⟨_, _, rfl, rfl, hq _ _ G H h.2 (Post.refl hp) .bl⟩
def rdAdd : RD2 := fun x y P => match x, y with
  | .int i, .int j => P (.int (i + j))
  | .str s, .str t => s.length + t.length ≤ sizeLine ∧ P (.str (s ++ t))
  | .lst a, .lst b => a.length + b.length ≤ sizeLine ∧ P (.lst (a ++ b))
  | .tup a, .tup b => a.length + b.length ≤ sizeLine ∧ P (.tup (a ++ b))
  | _, _ => False
theorem pr_add {X : Cx} : PR2 X (binaryOp .Add) rdAdd := by
  refine ⟨_, OpR.or op_add (OpR.or op_add_str (OpR.or op_cat op_catA)), ?_⟩
  intro w G H x y vx vy P Q hK hm hp rx ry h hq
  cases x <;> first | exact h.elim | skip
  · cases y <;> first | exact h.elim | skip
    cases rx
    cases ry
    exact .inl ⟨_, _, rfl, rfl, hq _ _ G H h (Post.refl hp) .int⟩
  · cases y <;> first | exact h.elim | skip
    cases rx
    cases ry
    exact .inr (.inl ⟨_, _, rfl, rfl, h.1, hq _ _ G H h.2 (Post.refl hp) .str⟩)
  · cases y <;> first | exact h.elim | skip
    cases rx with
    | lst h1 r1 =>
    cases ry with
    | lst h2 r2 =>
    refine .inr (.inr (.inl ⟨_, _, _, _, rfl, rfl, hp.exG _ _ h1, hp.exG _ _ h2, by rw [r1.length, r2.length]; exact h.1, fun p hn => ?_⟩))
    exact hq _ _ _ _ h.2 (Post.new1 hp hn) (.lst upd_same ((r1.append r2).mono (Post.new1 hp hn).ex))
  · cases y <;> first | exact h.elim | skip
    cases rx with
    | tup h1 r1 =>
    cases ry with
    | tup h2 r2 =>
    refine .inr (.inr (.inr ⟨_, _, _, _, rfl, rfl, by rw [← hK]; exact hp.exG.t h1, by rw [← hK]; exact hp.exG.t h2, by rw [r1.length, r2.length]; exact h.1, fun e => ?_, fun _ e => ?_, fun _ _ p hn => ?_⟩))
    · subst e
      cases r1
      exact hq _ _ G H h.2 (Post.refl hp) (.tup h2 r2)
    · subst e
      cases r2
      exact hq _ _ G H h.2 (Post.refl hp) (.tup h1 (by rw [List.append_nil]; exact r1))
    · exact hq _ _ _ _ h.2 (Post.new1 hp hn) (.tup (.inl (.inl upd_same)) ((r1.append r2).mono (Post.new1 hp hn).ex))
theorem pr_sub {X : Cx} : PR2 X (binaryOp .Sub) (rdI (fun _ _ => True) fun i j => .int (i - j)) := by
  refine ⟨_, op_sub, ?_⟩
  intro w G H x y vx vy P Q hK hm hp rx ry h hq
  cases x <;> first | exact h.elim | skip
  cases y <;> first | exact h.elim | skip
  cases rx
  cases ry
  exact ⟨_, _, rfl, rfl, hq _ _ G H h.2 (Post.refl hp) .int⟩
def rdMul : RD2 := fun x y P => match x, y with
  | .int i, .int j => IntMulOk i j ∧ P (.int (i * j))
  | .lst a, .int k => -(2 ^ 63) ≤ k ∧ k < 2 ^ 63 ∧ a.length * k.toNat ≤ sizeLine ∧ P (.lst (List.replicate k.toNat a).flatten)
  | _, _ => False
theorem op_mulF {X : Cx} : OpR X (binaryOp .Mult) (rI IntMulOk fun i j => .int (i * j)) := opI fun _ _ _ _ _ _ _ hc q => PyProof.Rows.mul_int q hc
theorem Reps.rep {w : Wd} {G : Hp} {vs : List V} {ds : List D} (h : Reps w G vs ds) : ∀ k : Nat, Reps w G (List.replicate k vs).flatten (List.replicate k ds).flatten
  | 0 => .nil
  | k + 1 => by
    rw [List.replicate_succ, List.replicate_succ, List.flatten_cons, List.flatten_cons]
    exact h.append (h.rep k)
theorem pr_mul {X : Cx} : PR2 X (binaryOp .Mult) rdMul := by
  refine ⟨_, OpR.or op_mulF op_rep, ?_⟩
  intro w G H x y vx vy P Q hK hm hp rx ry h hq
  cases x <;> first | exact h.elim | skip
  · cases y <;> first | exact h.elim | skip
    cases rx
    cases ry
    exact .inl ⟨_, _, rfl, rfl, h.1, hq _ _ G H h.2 (Post.refl hp) .int⟩
  · cases y <;> first | exact h.elim | skip
    cases rx with
    | lst h1 r1 =>
    cases ry
    refine .inr ⟨_, _, _, rfl, rfl, hp.exG _ _ h1, h.1, h.2.1, by rw [r1.length]; exact h.2.2.1, fun p hn => ?_⟩
    exact hq _ _ _ _ h.2.2.2 (Post.new1 hp hn) (.lst upd_same ((r1.rep _).mono (Post.new1 hp hn).ex))
theorem pr_fdiv {X : Cx} : PR2 X (binaryOp .FloorDiv) (rdI CDivW fun i j => .int (i / j)) := ⟨_, op_fdivW, rok_I⟩
theorem pr_mod {X : Cx} : PR2 X (binaryOp .Mod) (rdI (fun _ j => 0 < j) fun i j => .int (i % j)) := ⟨_, op_mod, rok_I⟩
theorem pr_pow {X : Cx} : PR2 X (binaryOp .Pow) (rdI CPow fun i j => .int (i ^ j.toNat)) := ⟨_, op_pow, rok_I⟩
theorem pr_lt {X : Cx} : PR2 X (compareOp .Lt) (rdI (fun _ _ => True) fun i j => .bl (decide (i < j))) := ⟨_, op_lt, rok_B⟩
theorem pr_le {X : Cx} : PR2 X (compareOp .LtE) (rdI (fun _ _ => True) fun i j => .bl (decide (i ≤ j))) := ⟨_, op_le, rok_B⟩
theorem pr_gt {X : Cx} : PR2 X (compareOp .Gt) (rdI (fun _ _ => True) fun i j => .bl (decide (j < i))) := ⟨_, op_gt, rok_B⟩
theorem pr_ge {X : Cx} : PR2 X (compareOp .GtE) (rdI (fun _ _ => True) fun i j => .bl (decide (j ≤ i))) := ⟨_, op_ge, rok_B⟩

/-! ### == -/
mutual
def toP : D → Option PyData
  | .non => some .none
  | .bl b => some (.bool b)
  | .int i => some (.int i)
  | .str s => some (.str s)
  | .lst l => (toPs l).map .list
  | .tup l => (toPs l).map .tuple
  | _ => none
def toPs : List D → Option (List PyData)
  | [] => some []
  | d :: ds => match toP d, toPs ds with
    | some p, some ps => some (p :: ps)
    | _, _ => none
end
mutual
theorem Rep.dp {w : Wd} {G : Hp} : ∀ {v : V} {d : D} {p : PyData}, Rep w G v d → toP d = some p → Dp w.K G v p
  | _, _, _, .non, e => by cases e; exact .non
  | _, _, _, .bl, e => by cases e; exact .bl _
  | _, _, _, .int, e => by cases e; exact .int _
  | _, _, _, .str, e => by cases e; exact .str _
  | _, .lst l, p, .lst h r, e => by
    unfold toP at e
    cases e2 : toPs l with
    | none => rw [e2] at e; cases e
    | some ps =>
      rw [e2] at e
      cases e
      exact .lst (SqL.of h) (Reps.dp r e2)
  | _, .tup l, p, .tup h r, e => by
    unfold toP at e
    cases e2 : toPs l with
    | none => rw [e2] at e; cases e
    | some ps =>
      rw [e2] at e
      cases e
      exact .tup h (Reps.dp r e2)
  | _, _, _, .bag _, e => by unfold toP at e; cases e
  | _, _, _, .ins _ _ _, e => by unfold toP at e; cases e
theorem Reps.dp {w : Wd} {G : Hp} : ∀ {v : List V} {d : List D} {p : List PyData}, Reps w G v d → toPs d = some p → DpAll w.K G v p
  | _, _, _, .nil, e => by
    unfold toPs at e
    cases e
    exact .nil
  | _, d :: ds, p, .cons h r, e => by
    unfold toPs at e
    cases e1 : toP d with
    | none => rw [e1] at e; cases e
    | some q =>
      cases e2 : toPs ds with
      | none => rw [e1, e2] at e; cases e
      | some qs =>
        rw [e1, e2] at e
        cases e
        exact .cons (Rep.dp h e1) (Reps.dp r e2)
end
mutual
theorem dp_mono {K : PySem.W.Frag} {G H : Hp} (e : Ex G H) : ∀ {v : V} {p : PyData}, Dp K G v p → Dp K H v p
  | _, _, .non => .non
  | _, _, .bl b => .bl b
  | _, _, .int i => .int i
  | _, _, .str s => .str s
  | _, _, .lst h r => .lst (e.l h) (dps_mono e r)
  | _, _, .tup h r => .tup (e.t h) (dps_mono e r)
theorem dps_mono {K : PySem.W.Frag} {G H : Hp} (e : Ex G H) : ∀ {v : List V} {p : List PyData}, DpAll K G v p → DpAll K H v p
  | _, _, .nil => .nil
  | _, _, .cons h r => .cons (dp_mono e h) (dps_mono e r)
end
/-- == of scalars -/
def eqS : D → D → Option Bool
  | .non, .non => some true
  | .non, .int _ => some false | .int _, .non => some false | .non, .bl _ => some false | .bl _, .non => some false | .non, .str _ => some false | .str _, .non => some false
  | .int i, .int j => some (decide (i = j))
  | .bl a, .bl b => some (decide (a = b))
  | .str s, .str t => some (decide (s = t))
  | .int _, .str _ => some false | .str _, .int _ => some false | .bl _, .str _ => some false | .str _, .bl _ => some false
  | _, _ => none
/-- a list or a tuple beside a scalar -/
def seqH (K : PySem.W.Frag) (H : Hp) (v : V) : Prop := ∃ a xs, v = .ref a ∧ (SqL K H a xs ∨ SqT K H a xs)
def scV : V → Bool
  | .non => true | .bl _ => true | .int _ => true | .str _ => true
  | _ => false
def rMx (k : Bool) (K : PySem.W.Frag) : R2 := fun x y H Q => ((seqH K H x ∧ scV y = true) ∨ (scV x = true ∧ seqH K H y)) ∧ Q (.bl k) H
theorem op_eqM {X : Cx} (hu : X.A.units < cLine) : OpR X (compareOp .Eq) (rMx false X.K) := by
  intro pins s σ H x y v u Q I rx ry h
  obtain ⟨h | h, q⟩ := h
  · obtain ⟨⟨a, xs, rfl, hs⟩, hy⟩ := h
    cases rx
    rcases hs with hs | hs
    · obtain ⟨its, rv, ⟨o, n, ho, hc, _, hd⟩, _⟩ := I.list hs
      cases y <;> first | cases hy | skip
      · cases ry; exact PySem.EqBoolInt.of_rc (SeqAt.RcAt.list_none ⟨o, ho, hc, n, hd⟩ hu) ⟨.bl _, H, I, rfl, q⟩
      · cases ry; exact PySem.EqBoolInt.of_rc (SeqAt.RcAt.list_bool _ ⟨o, ho, hc, n, hd⟩ hu) ⟨.bl _, H, I, rfl, q⟩
      · obtain ⟨t, rfl⟩ := ry; exact PySem.EqBoolInt.of_rc (SeqAt.RcAt.list_int _ _ ⟨o, ho, hc, n, hd⟩ hu) ⟨.bl _, H, I, rfl, q⟩
      · obtain ⟨t, rfl⟩ := ry; exact PySem.EqBoolInt.of_rc (SeqAt.RcAt.list_str _ _ ⟨o, ho, hc, n, hd⟩ hu) ⟨.bl _, H, I, rfl, q⟩
    · obtain ⟨its, rv, ⟨o, ho, hc, n, hd⟩, _⟩ := I.tuple hs
      cases y <;> first | cases hy | skip
      · cases ry; exact PySem.EqBoolInt.of_rc (SeqAt.RcAt.tuple_none ⟨o, ho, hc, n, hd⟩ hu) ⟨.bl _, H, I, rfl, q⟩
      · cases ry; exact PySem.EqBoolInt.of_rc (SeqAt.RcAt.tuple_bool _ ⟨o, ho, hc, n, hd⟩ hu) ⟨.bl _, H, I, rfl, q⟩
      · obtain ⟨t, rfl⟩ := ry; exact PySem.EqBoolInt.of_rc (SeqAt.RcAt.tuple_int _ _ ⟨o, ho, hc, n, hd⟩ hu) ⟨.bl _, H, I, rfl, q⟩
      · obtain ⟨t, rfl⟩ := ry; exact PySem.EqBoolInt.of_rc (SeqAt.RcAt.tuple_str _ _ ⟨o, ho, hc, n, hd⟩ hu) ⟨.bl _, H, I, rfl, q⟩
  · obtain ⟨hx, a, xs, rfl, hs⟩ := h
    cases ry
    rcases hs with hs | hs
    · obtain ⟨its, rv, ⟨o, n, ho, hc, _, hd⟩, _⟩ := I.list hs
      cases x <;> first | cases hx | skip
      · cases rx; exact PySem.EqBoolInt.of_rc (SeqAt.RcAt.none_list ⟨o, ho, hc, n, hd⟩ hu) ⟨.bl _, H, I, rfl, q⟩
      · cases rx; exact PySem.EqBoolInt.of_rc (SeqAt.RcAt.bool_list _ ⟨o, ho, hc, n, hd⟩ hu) ⟨.bl _, H, I, rfl, q⟩
      · obtain ⟨t, rfl⟩ := rx; exact PySem.EqBoolInt.of_rc (SeqAt.RcAt.int_list _ _ ⟨o, ho, hc, n, hd⟩ hu) ⟨.bl _, H, I, rfl, q⟩
      · obtain ⟨t, rfl⟩ := rx; exact PySem.EqBoolInt.of_rc (SeqAt.RcAt.str_list _ _ ⟨o, ho, hc, n, hd⟩ hu) ⟨.bl _, H, I, rfl, q⟩
    · obtain ⟨its, rv, ⟨o, ho, hc, n, hd⟩, _⟩ := I.tuple hs
      cases x <;> first | cases hx | skip
      · cases rx; exact PySem.EqBoolInt.of_rc (SeqAt.RcAt.none_tuple ⟨o, ho, hc, n, hd⟩ hu) ⟨.bl _, H, I, rfl, q⟩
      · cases rx; exact PySem.EqBoolInt.of_rc (SeqAt.RcAt.bool_tuple _ ⟨o, ho, hc, n, hd⟩ hu) ⟨.bl _, H, I, rfl, q⟩
      · obtain ⟨t, rfl⟩ := rx; exact PySem.EqBoolInt.of_rc (SeqAt.RcAt.int_tuple _ _ ⟨o, ho, hc, n, hd⟩ hu) ⟨.bl _, H, I, rfl, q⟩
      · obtain ⟨t, rfl⟩ := rx; exact PySem.EqBoolInt.of_rc (SeqAt.RcAt.str_tuple _ _ ⟨o, ho, hc, n, hd⟩ hu) ⟨.bl _, H, I, rfl, q⟩
theorem op_neM {X : Cx} (hu : X.A.units < cLine) : OpR X (compareOp .NotEq) (rMx true X.K) := by
  intro pins s σ H x y v u Q I rx ry h
  obtain ⟨h | h, q⟩ := h
  · obtain ⟨⟨a, xs, rfl, hs⟩, hy⟩ := h
    cases rx
    rcases hs with hs | hs
    · obtain ⟨its, rv, ⟨o, n, ho, hc, _, hd⟩, _⟩ := I.list hs
      cases y <;> first | cases hy | skip
      · cases ry; exact PySem.EqBoolInt.of_rcne (SeqAt.RcNeAt.list_none ⟨o, ho, hc, n, hd⟩ hu) ⟨.bl _, H, I, rfl, q⟩
      · cases ry; exact PySem.EqBoolInt.of_rcne (SeqAt.RcNeAt.list_bool _ ⟨o, ho, hc, n, hd⟩ hu) ⟨.bl _, H, I, rfl, q⟩
      · obtain ⟨t, rfl⟩ := ry; exact PySem.EqBoolInt.of_rcne (SeqAt.RcNeAt.list_int _ _ ⟨o, ho, hc, n, hd⟩ hu) ⟨.bl _, H, I, rfl, q⟩
      · obtain ⟨t, rfl⟩ := ry; exact PySem.EqBoolInt.of_rcne (SeqAt.RcNeAt.list_str _ _ ⟨o, ho, hc, n, hd⟩ hu) ⟨.bl _, H, I, rfl, q⟩
    · obtain ⟨its, rv, ⟨o, ho, hc, n, hd⟩, _⟩ := I.tuple hs
      cases y <;> first | cases hy | skip
      · cases ry; exact PySem.EqBoolInt.of_rcne (SeqAt.RcNeAt.tuple_none ⟨o, ho, hc, n, hd⟩ hu) ⟨.bl _, H, I, rfl, q⟩
      · cases ry; exact PySem.EqBoolInt.of_rcne (SeqAt.RcNeAt.tuple_bool _ ⟨o, ho, hc, n, hd⟩ hu) ⟨.bl _, H, I, rfl, q⟩
      · obtain ⟨t, rfl⟩ := ry; exact PySem.EqBoolInt.of_rcne (SeqAt.RcNeAt.tuple_int _ _ ⟨o, ho, hc, n, hd⟩ hu) ⟨.bl _, H, I, rfl, q⟩
      · obtain ⟨t, rfl⟩ := ry; exact PySem.EqBoolInt.of_rcne (SeqAt.RcNeAt.tuple_str _ _ ⟨o, ho, hc, n, hd⟩ hu) ⟨.bl _, H, I, rfl, q⟩
  · obtain ⟨hx, a, xs, rfl, hs⟩ := h
    cases ry
    rcases hs with hs | hs
    · obtain ⟨its, rv, ⟨o, n, ho, hc, _, hd⟩, _⟩ := I.list hs
      cases x <;> first | cases hx | skip
      · cases rx; exact PySem.EqBoolInt.of_rcne (SeqAt.RcNeAt.none_list ⟨o, ho, hc, n, hd⟩ hu) ⟨.bl _, H, I, rfl, q⟩
      · cases rx; exact PySem.EqBoolInt.of_rcne (SeqAt.RcNeAt.bool_list _ ⟨o, ho, hc, n, hd⟩ hu) ⟨.bl _, H, I, rfl, q⟩
      · obtain ⟨t, rfl⟩ := rx; exact PySem.EqBoolInt.of_rcne (SeqAt.RcNeAt.int_list _ _ ⟨o, ho, hc, n, hd⟩ hu) ⟨.bl _, H, I, rfl, q⟩
      · obtain ⟨t, rfl⟩ := rx; exact PySem.EqBoolInt.of_rcne (SeqAt.RcNeAt.str_list _ _ ⟨o, ho, hc, n, hd⟩ hu) ⟨.bl _, H, I, rfl, q⟩
    · obtain ⟨its, rv, ⟨o, ho, hc, n, hd⟩, _⟩ := I.tuple hs
      cases x <;> first | cases hx | skip
      · cases rx; exact PySem.EqBoolInt.of_rcne (SeqAt.RcNeAt.none_tuple ⟨o, ho, hc, n, hd⟩ hu) ⟨.bl _, H, I, rfl, q⟩
      · cases rx; exact PySem.EqBoolInt.of_rcne (SeqAt.RcNeAt.bool_tuple _ ⟨o, ho, hc, n, hd⟩ hu) ⟨.bl _, H, I, rfl, q⟩
      · obtain ⟨t, rfl⟩ := rx; exact PySem.EqBoolInt.of_rcne (SeqAt.RcNeAt.int_tuple _ _ ⟨o, ho, hc, n, hd⟩ hu) ⟨.bl _, H, I, rfl, q⟩
      · obtain ⟨t, rfl⟩ := rx; exact PySem.EqBoolInt.of_rcne (SeqAt.RcNeAt.str_tuple _ _ ⟨o, ho, hc, n, hd⟩ hu) ⟨.bl _, H, I, rfl, q⟩
def scD : D → Bool
  | .non => true | .bl _ => true | .int _ => true | .str _ => true
  | _ => false
def sqD : D → Bool
  | .lst _ => true | .tup _ => true
  | _ => false
def mixS (x y : D) : Bool := (sqD x && scD y) || (scD x && sqD y)
theorem sqD_ok {w : Wd} {G H : Hp} {x : D} {vx : V} (rx : Rep w G vx x) (e : Ex G H) (h : sqD x = true) : seqH w.K H vx := by
  cases rx with
  | lst a r => exact ⟨_, _, rfl, .inl (e.l (SqL.of a))⟩
  | tup a r => exact ⟨_, _, rfl, .inr (e.t a)⟩
  | _ => cases h
theorem scD_ok {w : Wd} {G : Hp} {x : D} {vx : V} (rx : Rep w G vx x) (h : scD x = true) : scV vx = true := by
  cases rx <;> first | rfl | cases h
theorem mixS_ok {w : Wd} {G H : Hp} {x y : D} {vx vy : V} (rx : Rep w G vx x) (ry : Rep w G vy y) (e : Ex G H) (h : mixS x y = true) : (seqH w.K H vx ∧ scV vy = true) ∨ (scV vx = true ∧ seqH w.K H vy) := by
  unfold mixS at h
  rw [Bool.or_eq_true, Bool.and_eq_true, Bool.and_eq_true] at h
  rcases h with h | h
  · exact .inl ⟨sqD_ok rx e h.1, scD_ok ry h.2⟩
  · exact .inr ⟨scD_ok rx h.1, sqD_ok ry e h.2⟩
def rdEq : RD2 := fun x y P => match eqS x y with
  | some k => P (.bl k)
  | none => match mixS x y with
    | true => P (.bl false)
    | false => ∃ p q, toP x = some p ∧ toP y = some q ∧ SeqAt.shaped p = true ∧ SeqAt.shaped q = true ∧ P (.bl (PyData.eqv p q))
def rdNe : RD2 := fun x y P => match eqS x y with
  | some k => P (.bl (!k))
  | none => match mixS x y with
    | true => P (.bl true)
    | false => ∃ p q, toP x = some p ∧ toP y = some q ∧ SeqAt.shaped p = true ∧ SeqAt.shaped q = true ∧ P (.bl (!PyData.eqv p q))
theorem eqS_ok {w : Wd} {G : Hp} {x y : D} {vx vy : V} {k : Bool} (rx : Rep w G vx x) (ry : Rep w G vy y) (e : eqS x y = some k) : scal vx vy = true ∧ decide (vx = vy) = k := by
  cases rx <;> cases ry <;> unfold eqS at e <;> first | cases e | skip
  all_goals first
    | exact ⟨rfl, by simp⟩
    | (cases e; exact ⟨rfl, by simp⟩)
    | (cases e; refine ⟨rfl, ?_⟩; simp)
theorem pr_eq {X : Cx} (hu : X.A.units + 64 < cLine) : PR2 X (compareOp .Eq) rdEq := by
  refine ⟨_, OpR.or op_eq (OpR.or (op_eqD hu) (op_eqM (Nat.lt_of_le_of_lt (Nat.le_add_right _ _) hu))), ?_⟩
  intro w G H x y vx vy P Q hK hm hp rx ry h hq
  unfold rdEq at h
  cases e : eqS x y with
  | some k =>
    rw [e] at h
    obtain ⟨s, d⟩ := eqS_ok rx ry e
    exact .inl ⟨s, by rw [d]; exact hq _ _ G H h (Post.refl hp) .bl⟩
  | none =>
    rw [e] at h
    cases em : mixS x y with
    | true =>
      rw [em] at h
      refine .inr (.inr ⟨?_, hq _ _ G H h (Post.refl hp) .bl⟩)
      rw [← hK]
      exact mixS_ok rx ry hp.exG em
    | false =>
    rw [em] at h
    obtain ⟨p, q, e1, e2, s1, s2, h⟩ := h
    refine .inr (.inl ⟨p, q, ?_, ?_, s1, s2, hq _ _ G H h (Post.refl hp) .bl⟩)
    · rw [← hK]
      exact dp_mono hp.exG (rx.dp e1)
    · rw [← hK]
      exact dp_mono hp.exG (ry.dp e2)
theorem pr_ne {X : Cx} (hu : X.A.units + 64 < cLine) : PR2 X (compareOp .NotEq) rdNe := by
  refine ⟨_, OpR.or op_ne (OpR.or (op_neD hu) (op_neM (Nat.lt_of_le_of_lt (Nat.le_add_right _ _) hu))), ?_⟩
  intro w G H x y vx vy P Q hK hm hp rx ry h hq
  unfold rdNe at h
  cases e : eqS x y with
  | some k =>
    rw [e] at h
    obtain ⟨s, d⟩ := eqS_ok rx ry e
    exact .inl ⟨s, by rw [d]; exact hq _ _ G H h (Post.refl hp) .bl⟩
  | none =>
    rw [e] at h
    cases em : mixS x y with
    | true =>
      rw [em] at h
      refine .inr (.inr ⟨?_, hq _ _ G H h (Post.refl hp) .bl⟩)
      rw [← hK]
      exact mixS_ok rx ry hp.exG em
    | false =>
    rw [em] at h
    obtain ⟨p, q, e1, e2, s1, s2, h⟩ := h
    refine .inr (.inl ⟨p, q, ?_, ?_, s1, s2, hq _ _ G H h (Post.refl hp) .bl⟩)
    · rw [← hK]
      exact dp_mono hp.exG (rx.dp e1)
    · rw [← hK]
      exact dp_mono hp.exG (ry.dp e2)
/-! ### is None -/
def isNon : D → Bool
  | .non => true
  | _ => false
def rdIs : RD2 := fun x y P => match y with
  | .non => P (.bl (isNon x))
  | _ => False
def rdIsNot : RD2 := fun x y P => match y with
  | .non => P (.bl (!isNon x))
  | _ => False
theorem isNon_ok {w : Wd} {G : Hp} {x : D} {vx : V} (rx : Rep w G vx x) : decide (vx = .non) = isNon x := by
  cases rx <;> first | rfl | exact decide_eq_true rfl | exact decide_eq_false (fun z => nomatch z)
theorem pr_is {X : Cx} : PR2 X (compareOp .Is) rdIs := by
  refine ⟨_, op_isN, ?_⟩
  intro w G H x y vx vy P Q hK hm hp rx ry h hq
  cases y <;> first | exact h.elim | skip
  cases ry
  exact ⟨rfl, by rw [isNon_ok rx]; exact hq _ _ G H h (Post.refl hp) .bl⟩
theorem pr_isNot {X : Cx} : PR2 X (compareOp .IsNot) rdIsNot := by
  refine ⟨_, op_notN, ?_⟩
  intro w G H x y vx vy P Q hK hm hp rx ry h hq
  cases y <;> first | exact h.elim | skip
  cases ry
  exact ⟨rfl, by rw [isNon_ok rx]; exact hq _ _ G H h (Post.refl hp) .bl⟩
/-! ### in -/
def flatD : D → Bool
  | .non => true
  | .bl _ => true
  | .int _ => true
  | .str _ => true
  | _ => false
def eqF : D → D → Bool
  | .non, .non => true
  | .bl a, .bl b => a == b
  | .bl a, .int b => (if a then 1 else 0) == b
  | .int a, .bl b => a == (if b then 1 else 0)
  | .int a, .int b => a == b
  | .str a, .str b => a == b
  | _, _ => false
def inD (x : D) (l : List D) : Bool := l.any fun y => eqF y x
theorem flat_ok {w : Wd} {G : Hp} {x : D} {vx : V} (rx : Rep w G vx x) (h : flatD x = true) : flatV vx = true := by
  cases rx <;> first | rfl | cases h
theorem eqF_ok {w : Wd} {G : Hp} {x y : D} {vx vy : V} (rx : Rep w G vx x) (ry : Rep w G vy y) (h1 : flatD x = true) (h2 : flatD y = true) : eqV vx vy = eqF x y := by
  cases rx <;> first | cases h1 | skip
  all_goals (cases ry <;> first | rfl | cases h2)
theorem flats_ok {w : Wd} {G : Hp} : ∀ {l : List D} {vs : List V}, Reps w G vs l → l.all flatD = true → vs.all flatV = true
  | _, _, .nil, _ => rfl
  | _, _, .cons r t, h => by
    rw [List.all_cons, Bool.and_eq_true] at h ⊢
    exact ⟨flat_ok r h.1, flats_ok t h.2⟩
theorem inD_ok {w : Wd} {G : Hp} {x : D} {vx : V} (rx : Rep w G vx x) (h : flatD x = true) : ∀ {l : List D} {vs : List V}, Reps w G vs l → l.all flatD = true → inV vx vs = inD x l
  | _, _, .nil, _ => rfl
  | _, _, .cons r t, hl => by
    rw [List.all_cons, Bool.and_eq_true] at hl
    have e := inD_ok rx h t hl.2
    unfold inV inD at e ⊢
    rw [List.any_cons, List.any_cons, e, eqF_ok r rx hl.1 h]
def rdIn (neg : Bool) : RD2 := fun x y P => match y with
  | .lst l => flatD x = true ∧ l.all flatD = true ∧ P (.bl (if neg then !inD x l else inD x l))
  | .tup l => flatD x = true ∧ l.all flatD = true ∧ P (.bl (if neg then !inD x l else inD x l))
  | .str z => match x with
    | .str ⟨#[c]⟩ => P (.bl (if neg then !decide (c ∈ z.cps.toList) else decide (c ∈ z.cps.toList)))
    | _ => False
  | _ => False
theorem pr_in {X : Cx} : PR2 X (compareOp .In) (rdIn false) := by
  refine ⟨_, OpR.or op_in_seq op_in_sign, ?_⟩
  intro w G H x y vx vy P Q hK hm hp rx ry h hq
  cases y <;> first | exact h.elim | skip
  · cases x <;> first | exact h.elim | skip
    rename_i z s
    obtain ⟨⟨l⟩⟩ := s
    unfold rdIn at h
    match l, h, rx with
    | [c], h, rx =>
      cases rx
      cases ry
      exact .inr ⟨c, z, rfl, rfl, hq _ _ G H h (Post.refl hp) .bl⟩
    | [], h, _ => exact h.elim
    | _ :: _ :: _, h, _ => exact h.elim
  · cases ry with
    | lst h1 r1 =>
    exact .inl ⟨_, _, rfl, .inl (SqL.of (hp.exG _ _ h1)), flat_ok rx h.1, flats_ok r1 h.2.1, by rw [inD_ok rx h.1 r1 h.2.1]; exact hq _ _ G H h.2.2 (Post.refl hp) .bl⟩
  · cases ry with
    | tup h1 r1 =>
    exact .inl ⟨_, _, rfl, .inr (by rw [← hK]; exact hp.exG.t h1), flat_ok rx h.1, flats_ok r1 h.2.1, by rw [inD_ok rx h.1 r1 h.2.1]; exact hq _ _ G H h.2.2 (Post.refl hp) .bl⟩
theorem pr_notIn {X : Cx} : PR2 X (compareOp .NotIn) (rdIn true) := by
  refine ⟨_, OpR.or op_notIn_seq op_notIn_sign, ?_⟩
  intro w G H x y vx vy P Q hK hm hp rx ry h hq
  cases y <;> first | exact h.elim | skip
  · cases x <;> first | exact h.elim | skip
    rename_i z s
    obtain ⟨⟨l⟩⟩ := s
    unfold rdIn at h
    match l, h, rx with
    | [c], h, rx =>
      cases rx
      cases ry
      exact .inr ⟨c, z, rfl, rfl, hq _ _ G H h (Post.refl hp) .bl⟩
    | [], h, _ => exact h.elim
    | _ :: _ :: _, h, _ => exact h.elim
  · cases ry with
    | lst h1 r1 =>
    exact .inl ⟨_, _, rfl, .inl (SqL.of (hp.exG _ _ h1)), flat_ok rx h.1, flats_ok r1 h.2.1, by rw [inD_ok rx h.1 r1 h.2.1]; exact hq _ _ G H h.2.2 (Post.refl hp) .bl⟩
  · cases ry with
    | tup h1 r1 =>
    exact .inl ⟨_, _, rfl, .inr (by rw [← hK]; exact hp.exG.t h1), flat_ok rx h.1, flats_ok r1 h.2.1, by rw [inD_ok rx h.1 r1 h.2.1]; exact hq _ _ G H h.2.2 (Post.refl hp) .bl⟩
/-! ### unary minus -/
def wNeg (w : WE) : WE := fun env P R => w env (fun d e => match d with | .int i => P (.int (-i)) e | _ => False) R
theorem px_neg {X : Cx} {W : WX} {a : Expr} {wa : WE} {pos : Pos} (h : PX X W a wa) : PX X W (.UnaryOp .USub a pos) (wNeg wa) := by
  obtain ⟨t, a1, a2⟩ := h.ex
  refine ⟨⟨_, pe_un un_neg a1, fun F env σ G H P R Q hx hs hw hq hk => a2 F env σ G H _ R _ hx hs hw (fun d e1 v G1 H1 p s1 x1 r1 => ?_) hk⟩⟩
  cases d <;> first | exact p.elim | skip
  cases r1
  exact ⟨_, rfl, hq _ e1 _ G1 H1 p s1 x1 .int⟩
/-! ### built-ins -/
section
variable {X : Cx}
theorem Reps.inv1 {w : Wd} {G : Hp} {vs : List V} {d : D} (h : Reps w G vs [d]) : ∃ v, vs = [v] ∧ Rep w G v d := by
  cases h with
  | cons r t => cases t; exact ⟨_, rfl, r⟩
theorem Reps.inv2 {w : Wd} {G : Hp} {vs : List V} {d e : D} (h : Reps w G vs [d, e]) : ∃ v u, vs = [v, u] ∧ Rep w G v d ∧ Rep w G u e := by
  cases h with
  | cons r t =>
    obtain ⟨u, rfl, r2⟩ := t.inv1
    exact ⟨_, _, rfl, r, r2⟩
def rdLen : RDA := fun ds P => match ds with
  | [.str s] => s.length ≤ sizeLine ∧ P (.int (s.length : Int))
  | [.lst l] => P (.int (l.length : Int))
  | [.tup l] => P (.int (l.length : Int))
  | _ => False
theorem pc_len : PRA X (.builtin "len") rdLen := by
  refine ⟨_, call_len, ?_⟩
  intro w G H ds vs P Q hK hm hp rs h hq
  unfold rdLen at h
  split at h
  · obtain ⟨v, rfl, r⟩ := rs.inv1
    cases r
    exact ⟨_, _, rfl, ⟨h.1, rfl⟩, hq _ _ G H h.2 (Post.refl hp) .int⟩
  · obtain ⟨v, rfl, r⟩ := rs.inv1
    cases r with
    | lst h1 r1 => exact ⟨_, _, rfl, .inl ⟨_, SqL.of (hp.exG _ _ h1), r1.length.symm⟩, hq _ _ G H h (Post.refl hp) .int⟩
  · obtain ⟨v, rfl, r⟩ := rs.inv1
    cases r with
    | tup h1 r1 => exact ⟨_, _, rfl, .inr ⟨_, by rw [← hK]; exact hp.exG.t h1, r1.length.symm⟩, hq _ _ G H h (Post.refl hp) .int⟩
  · exact h.elim
def rdAbs : RDA := fun ds P => match ds with
  | [.int i] => P (.int (if i < 0 then -i else i))
  | _ => False
theorem pc_abs : PRA X (.builtin "abs") rdAbs := by
  refine ⟨_, call_abs, ?_⟩
  intro w G H ds vs P Q hK hm hp rs h hq
  unfold rdAbs at h
  split at h
  · obtain ⟨v, rfl, r⟩ := rs.inv1
    cases r
    exact ⟨_, rfl, hq _ _ G H h (Post.refl hp) .int⟩
  · exact h.elim
theorem CallR.or {f : Value} {r r' : List V → Hp → VK → Prop} (h : CallR X f r) (h' : CallR X f r') : CallR X f (fun xs H Q => r xs H Q ∨ r' xs H Q) := by
  intro pins s σ H xs us Q I rx q
  rcases q with q | q
  · exact h pins s σ H xs us Q I rx q
  · exact h' pins s σ H xs us Q I rx q
def rdInt : RDA := fun ds P => match ds with
  | [.int i] => P (.int i)
  | [.bl k] => P (.int (if k then 1 else 0))
  | [.str s] => ∃ n, PySem.intText? s = some n ∧ s.length ≤ 640 ∧ P (.int n)
  | _ => False
theorem pc_int' : PRA X (.type "int") rdInt := by
  refine ⟨_, CallR.or call_int1 call_int_str, ?_⟩
  intro w G H ds vs P Q hK hm hp rs h hq
  unfold rdInt at h
  split at h
  · obtain ⟨v, rfl, r⟩ := rs.inv1
    cases r
    exact .inl (.inl ⟨_, rfl, hq _ _ G H h (Post.refl hp) .int⟩)
  · obtain ⟨v, rfl, r⟩ := rs.inv1
    cases r
    exact .inl (.inr ⟨_, rfl, hq _ _ G H h (Post.refl hp) .int⟩)
  · obtain ⟨v, rfl, r⟩ := rs.inv1
    cases r
    obtain ⟨n, h1, h2, h3⟩ := h
    exact .inr ⟨_, n, rfl, h1, h2, hq _ _ G H h3 (Post.refl hp) .int⟩
  · exact h.elim
def rdStr : RDA := fun ds P => match ds with
  | [.int i] => i.natAbs.log2 < 1920 ∧ P (.str (toString i))
  | _ => False
theorem pc_str : PRA X (.type "str") rdStr := by
  refine ⟨_, call_str_int, ?_⟩
  intro w G H ds vs P Q hK hm hp rs h hq
  unfold rdStr at h
  split at h
  · obtain ⟨v, rfl, r⟩ := rs.inv1
    cases r
    exact ⟨_, rfl, h.1, hq _ _ G H h.2 (Post.refl hp) .str⟩
  · exact h.elim
def signsD (s : Str) : List D := s.cps.toList.map fun c => .str ⟨#[c]⟩
theorem signs_rep {w : Wd} {G : Hp} : ∀ l : List Nat, Reps w G (l.map fun c => V.str ⟨#[c]⟩) (l.map fun c => D.str ⟨#[c]⟩)
  | [] => .nil
  | _ :: l => .cons .str (signs_rep l)
theorem vals_signs {xs : List V} {us : List Value} (hl : xs.length = us.length) (h : ∀ (i : Nat) (x : V) (u : Value), xs[i]? = some x → us[i]? = some u → RelV x u) : Vals xs us := by
  induction xs generalizing us with
  | nil =>
    cases us with
    | nil => exact .nil
    | cons _ _ => cases hl
  | cons x xs ih =>
    cases us with
    | nil => cases hl
    | cons u us => exact .cons (h 0 x u rfl rfl) (ih (by simpa using hl) fun i y z a b => h (i + 1) y z a b)
theorem call_list_str' (hc : X.calm = true) : CallR X (.type "list") (fun xs H Q => ∃ s, xs = [.str s] ∧ s.cps.size ≤ sizeLine ∧ ∀ l, H l = none → Q (.ref l) (upd H l (.lst (s.cps.toList.map fun c => V.str ⟨#[c]⟩)))) := by
  intro pins s σ H xs us Q I r h
  obtain ⟨z, rfl, hz, q⟩ := h
  obtain ⟨u, rfl, rx⟩ := vals1 r
  obtain ⟨t, rfl⟩ := rx
  refine call_list_str (hn := hz) (I.ok.hd hc) z t fun h' tk acc' c' hk hS' hacc => ?_
  have hn : H s.heap.objs.size = none := I.hok.fresh (Nat.le_refl _)
  refine ⟨.ref s.heap.objs.size, _, I.laid (t' := tk) hk (Nat.le_refl _) ?_, rfl, q _ hn⟩
  refine ⟨by rw [List.length_map]; simpa using hz, acc'.toList, c', vals_signs ?_ ?_, by simpa using hS'⟩
  · rw [List.length_map, Array.length_toList, Array.length_toList, hacc.1]
  · intro i x u e1 e2
    rw [List.getElem?_map] at e1
    cases e3 : z.cps.toList[i]? with
    | none => rw [e3] at e1; cases e1
    | some c =>
      rw [e3] at e1
      cases e1
      have e4 : acc'[i]? = some u := by rw [← Array.getElem?_toList]; exact e2
      obtain ⟨c2, tk2, e5, e6⟩ := hacc.2 i u e4
      rw [← Array.getElem?_toList, e3] at e5
      cases e5
      exact ⟨tk2, e6⟩
def rdList : RDA := fun ds P => match ds with
  | [.lst l] => P (.lst l)
  | [.tup l] => P (.lst l)
  | [.str s] => s.cps.size ≤ sizeLine ∧ P (.lst (signsD s))
  | _ => False
theorem pc_list (hc : X.calm = true) : PRA X (.type "list") rdList := by
  refine ⟨_, CallR.or call_list_of (call_list_str' hc), ?_⟩
  intro w G H ds vs P Q hK hm hp rs h hq
  unfold rdList at h
  split at h
  · obtain ⟨v, rfl, r⟩ := rs.inv1
    cases r with
    | lst h1 r1 =>
      refine .inl ⟨_, _, rfl, .inl (SqL.of (hp.exG _ _ h1)), fun l hl => ?_⟩
      exact hq _ _ _ _ h (Post.new1 hp hl) (.lst upd_same (r1.mono (Post.new1 hp hl).ex))
  · obtain ⟨v, rfl, r⟩ := rs.inv1
    cases r with
    | tup h1 r1 =>
      refine .inl ⟨_, _, rfl, .inr (by rw [← hK]; exact hp.exG.t h1), fun l hl => ?_⟩
      exact hq _ _ _ _ h (Post.new1 hp hl) (.lst upd_same (r1.mono (Post.new1 hp hl).ex))
  · obtain ⟨v, rfl, r⟩ := rs.inv1
    cases r
    refine .inr ⟨_, rfl, h.1, fun l hl => ?_⟩
    exact hq _ _ _ _ h.2 (Post.new1 hp hl) (.lst upd_same (signs_rep _))
  · exact h.elim
def rdTuple : RDA := fun ds P => match ds with
  | [.lst l] => P (.tup l)
  | [.tup l] => P (.tup l)
  | _ => False
theorem pc_tuple : PRA X (.type "tuple") rdTuple := by
  refine ⟨_, call_tuple_of, ?_⟩
  intro w G H ds vs P Q hK hm hp rs h hq
  unfold rdTuple at h
  split at h
  · obtain ⟨v, rfl, r⟩ := rs.inv1
    cases r with
    | lst h1 r1 =>
      refine ⟨_, _, rfl, .inl ⟨SqL.of (hp.exG _ _ h1), fun l hl => ?_⟩⟩
      exact hq _ _ _ _ h (Post.new1 hp hl) (.tup (.inl (.inl upd_same)) (r1.mono (Post.new1 hp hl).ex))
  · obtain ⟨v, rfl, r⟩ := rs.inv1
    cases r with
    | tup h1 r1 => exact ⟨_, _, rfl, .inr ⟨by rw [← hK]; exact hp.exG.t h1, hq _ _ G H h (Post.refl hp) (.tup h1 r1)⟩⟩
  · exact h.elim
/-- a list of bools -/
def bools : List D → Option (List Bool)
  | [] => some []
  | .bl b :: l => (bools l).map (b :: ·)
  | _ :: _ => none
theorem bools_ok {w : Wd} {G : Hp} : ∀ {vs : List V} {l : List D} {bs : List Bool}, Reps w G vs l → bools l = some bs → vs = bs.map V.bl
  | _, _, bs, .nil, e => by cases e; rfl
  | _, .bl b :: l, bs, .cons r t, e => by
    unfold bools at e
    cases e2 : bools l with
    | none => rw [e2] at e; cases e
    | some cs =>
      rw [e2] at e
      cases e
      cases r
      rw [bools_ok t e2]
      rfl
  | _, .non :: l, bs, .cons r t, e => by cases e
  | _, .int _ :: l, bs, .cons r t, e => by cases e
  | _, .str _ :: l, bs, .cons r t, e => by cases e
  | _, .lst _ :: l, bs, .cons r t, e => by cases e
  | _, .tup _ :: l, bs, .cons r t, e => by cases e
  | _, .bag :: l, bs, .cons r t, e => by cases e
  | _, .ins _ _ :: l, bs, .cons r t, e => by cases e
def rdAll : RDA := fun ds P => match ds with
  | [.lst l] => ∃ bs, bools l = some bs ∧ P (.bl (bs.all id))
  | _ => False
def rdAny : RDA := fun ds P => match ds with
  | [.lst l] => ∃ bs, bools l = some bs ∧ P (.bl (bs.any id))
  | _ => False
theorem pc_all (hc : X.calm = true) : PRA X (.builtin "all") rdAll := by
  refine ⟨_, cr_all hc, ?_⟩
  intro w G H ds vs P Q hK hm hp rs h hq
  unfold rdAll at h
  split at h
  · obtain ⟨v, rfl, r⟩ := rs.inv1
    obtain ⟨bs, e, h⟩ := h
    cases r with
    | lst h1 r1 =>
      have e2 := bools_ok r1 e
      subst e2
      exact ⟨_, bs, rfl, SqL.of (hp.exG _ _ h1), hq _ _ G H h (Post.refl hp) .bl⟩
  · exact h.elim
theorem pc_any (hc : X.calm = true) : PRA X (.builtin "any") rdAny := by
  refine ⟨_, cr_any hc, ?_⟩
  intro w G H ds vs P Q hK hm hp rs h hq
  unfold rdAny at h
  split at h
  · obtain ⟨v, rfl, r⟩ := rs.inv1
    obtain ⟨bs, e, h⟩ := h
    cases r with
    | lst h1 r1 =>
      have e2 := bools_ok r1 e
      subst e2
      exact ⟨_, bs, rfl, SqL.of (hp.exG _ _ h1), hq _ _ G H h (Post.refl hp) .bl⟩
  · exact h.elim
end
end Pu
set_option maxRecDepth 100000
/-! Rules of the pure layer: subscripts, walks, comprehensions, statements, calls, defs -/
namespace Pu
open PySem L2

/-! ### the canonical readings -/
def tE (K : PySem.W.Frag) (mg : Str → Option Value) (W : WX) (w : WE) : TE := fun σ H Q => ∃ (F : Fc) (env : En) (G : Hp) (P : D → En → Prop) (R : QX), (F.wd.K = K ∧ F.wd.mg = mg) ∧ SI F env σ G H ∧ w env P R ∧
  (∀ d env' v G' H', P d env' → SI F env' σ G' H' → Ex G G' → Rep F.wd G' v d → Q v H') ∧ XK' F W σ R
def tTs (K : PySem.W.Frag) (mg : Str → Option Value) (W : WX) (w : WT) : TT := fun σ H Q => ∃ (F : Fc) (env : En) (G : Hp) (P : Bool → En → Prop) (R : QX), (F.wd.K = K ∧ F.wd.mg = mg) ∧ SI F env σ G H ∧ w env P R ∧
  (∀ d env' G' H', P d env' → SI F env' σ G' H' → Ex G G' → Q d H') ∧ XK' F W σ R
theorem PX.can {X : Cx} {W : WX} {e : Expr} {w : WE} (h : PX X W e w) : PE X e (tE X.K X.mg W w) := by
  obtain ⟨t, h1, h2⟩ := h.ex
  refine ⟨fun pins s σ H Q I hq => ?_⟩
  obtain ⟨F, env, G, P, R, hx, hs, hw, hk, hr⟩ := hq
  exact h1.run pins s σ H Q I (h2 F env σ G H P R Q hx hs hw hk hr)
theorem PXT.can {X : Cx} {W : WX} {e : Expr} {w : WT} (h : PXT X W e w) : PT X e (tTs X.K X.mg W w) := by
  obtain ⟨t, h1, h2⟩ := h.ex
  refine ⟨fun pins s σ H Q I hq => ?_⟩
  obtain ⟨F, env, G, P, R, hx, hs, hw, hk, hr⟩ := hq
  exact h1.run pins s σ H Q I (h2 F env σ G H P R Q hx hs hw hk hr)

/-! ### subscripts, slices -/
def rdIx : RD2 := fun x i P => match x, i with
  | .lst l, .int k => ∃ d, atI l k = some d ∧ P d
  | .tup l, .int k => ∃ d, atI l k = some d ∧ P d
  | .str s, .int k => s.length ≤ sizeLine ∧ ∃ c, atI s.cps.toList k = some c ∧ P (.str ⟨#[c]⟩)
  | _, _ => False
theorem Reps.atI {w : Wd} {G : Hp} {vs : List V} {ds : List D} {k : Int} {d : D} (h : Reps w G vs ds) (e : atI ds k = some d) : ∃ v, atI vs k = some v ∧ Rep w G v d := by
  unfold L2.atI at e ⊢
  rw [h.length]
  cases e2 : ixN ds.length k with
  | none => rw [e2] at e; cases e
  | some j =>
    rw [e2] at e
    exact h.getD e
section
variable {X : Cx} {W : WX} {a b : Expr} {wa wb : WE} {pos : Pos}
theorem px_ix (ha : PX X W a wa) (hb : PX X W b wb) (hs : PlainIx b) : PX X W (.Subscript a b pos) (wOp rdIx wa wb) := by
  obtain ⟨ta, a1, a2⟩ := ha.ex
  obtain ⟨tb, b1, b2⟩ := hb.ex
  refine ⟨⟨_, pe_ix ix_seq a1 b1 hs, run2 ?_ a2 b2⟩⟩
  intro w G H x y vx vy P Q hK hm hp rx ry h hq
  cases x <;> first | exact h.elim | skip
  · cases y <;> first | exact h.elim | skip
    cases rx
    cases ry
    obtain ⟨h1, c, h2, h3⟩ := h
    exact .inr (.inr ⟨_, _, c, rfl, rfl, h1, h2, hq _ _ G H h3 (Post.refl hp) .str⟩)
  · cases y <;> first | exact h.elim | skip
    cases ry
    obtain ⟨d, h1, h2⟩ := h
    cases rx with
    | lst l1 r1 =>
      obtain ⟨v, e1, r2⟩ := r1.atI h1
      exact .inl ⟨_, _, _, v, rfl, rfl, SqL.of (hp.exG _ _ l1), e1, hq _ _ G H h2 (Post.refl hp) r2⟩
  · cases y <;> first | exact h.elim | skip
    cases ry
    obtain ⟨d, h1, h2⟩ := h
    cases rx with
    | tup l1 r1 =>
      obtain ⟨v, e1, r2⟩ := r1.atI h1
      exact .inr (.inl ⟨_, _, _, v, rfl, rfl, by rw [← hK]; exact hp.exG.t l1, e1, hq _ _ G H h2 (Post.refl hp) r2⟩)
abbrev WO := En → (Option Int → En → Prop) → QX → Prop
structure PXO (X : Cx) (W : WX) (e : Option Expr) (w : WO) : Prop where
  ex : ∃ t, PO X e t ∧ ∀ (F : Fc) (env : En) (σ : L2.St) (G H : Hp) (P : Option Int → En → Prop) (R : QX) (Q : Option Int → Hp → Prop), XOk X F → SI F env σ G H → w env P R →
    (∀ d env' G' H', P d env' → SI F env' σ G' H' → Ex G G' → Q d H') → XK' F W σ R → t σ H Q
def wNoPart : WO := fun env P _ => P none env
def wPart (w : WE) : WO := fun env P R => w env (fun d e => match d with | .int i => P (some i) e | _ => False) R
theorem po_none' : PXO X W none wNoPart := ⟨⟨_, po_none, fun F env σ G H P R Q hx hs hw hq hk => hq _ env G H hw hs (Ex.refl _)⟩⟩
theorem po_some' (h : PX X W a wa) : PXO X W (some a) (wPart wa) := by
  obtain ⟨t, a1, a2⟩ := h.ex
  refine ⟨⟨_, po_some a1, fun F env σ G H P R Q hx hs hw hq hk => a2 F env σ G H _ R _ hx hs hw (fun d e1 v G1 H1 p s1 x1 r1 => ?_) hk⟩⟩
  cases d <;> first | exact p.elim | skip
  cases r1
  exact ⟨_, rfl, hq _ e1 G1 H1 p s1 x1⟩
def cutD {α : Type} (xs : List α) (lo hi : Option Int) : List α := (xs.drop (HT.sIx xs.length 0 lo)).take (HT.sIx xs.length xs.length hi - HT.sIx xs.length 0 lo)
theorem Reps.drop {w : Wd} {G : Hp} : ∀ {vs : List V} {ds : List D} (n : Nat), Reps w G vs ds → Reps w G (vs.drop n) (ds.drop n)
  | _, _, 0, h => h
  | _, _, n + 1, .nil => .nil
  | _, _, n + 1, .cons _ t => t.drop n
theorem Reps.take {w : Wd} {G : Hp} : ∀ {vs : List V} {ds : List D} (n : Nat), Reps w G vs ds → Reps w G (vs.take n) (ds.take n)
  | _, _, 0, h => .nil
  | _, _, n + 1, .nil => .nil
  | _, _, n + 1, .cons r t => .cons r (t.take n)
theorem Reps.cut {w : Wd} {G : Hp} {vs : List V} {ds : List D} (h : Reps w G vs ds) (lo hi : Option Int) : Reps w G (cutV vs lo hi) (cutD ds lo hi) := by
  unfold cutV cutD
  rw [h.length]
  exact (h.drop _).take _
def rdSl (x : D) (lo hi : Option Int) (P : D → Prop) : Prop := match x with
  | .str s => s.length ≤ sizeLine ∧ P (.str (cutS s lo hi))
  | .lst l => P (.lst (cutD l lo hi))
  | .tup l => P (.tup (cutD l lo hi))
  | _ => False
def wSl (w : WE) (wl wh : WO) : WE := fun env P R => w env (fun d e => wl e (fun lo e1 => wh e1 (fun hi e2 => rdSl d lo hi fun z => P z e2) R) R) R
theorem sIx_whole {α : Type} (xs : List α) (lo hi : Option Int) (h : HT.sIx xs.length 0 lo = 0 ∧ HT.sIx xs.length xs.length hi = xs.length) : cutD xs lo hi = xs := by
  unfold cutD
  rw [h.1, h.2, List.drop_zero, Nat.sub_zero, List.take_length]
theorem px_slice {lo hi : Option Expr} {wl wh : WO} {p2 : Pos} (ha : PX X W a wa) (hl : PXO X W lo wl) (hh : PXO X W hi wh) : PX X W (.Subscript a (.Slice lo hi none p2) pos) (wSl wa wl wh) := by
  obtain ⟨ta, a1, a2⟩ := ha.ex
  obtain ⟨tl, l1, l2⟩ := hl.ex
  obtain ⟨th, h1, h2⟩ := hh.ex
  refine ⟨⟨_, pe_slice (sl_str.or (sl_list.or sl_tupA)) a1 l1 h1, fun F env σ G H P R Q hx hs hw hq hk => a2 F env σ G H _ R _ hx hs hw (fun d e1 v G1 H1 p1 s1 x1 r1 => ?_) hk⟩⟩
  refine l2 F e1 σ G1 H1 _ R _ hx s1 p1 (fun lo e2 G2 H2 p2 s2 x2 => h2 F e2 σ G2 H2 _ R _ hx s2 p2 (fun hi e3 G3 H3 p s3 x3 => ?_) hk) hk
  have r3 := r1.mono (x2.trans x3)
  have x0 := (x1.trans x2).trans x3
  unfold rdSl at p
  cases d <;> first | exact p.elim | skip
  · cases r3
    exact .inl ⟨_, rfl, p.1, hq _ e3 _ G3 H3 p.2 s3 x0 .str⟩
  · cases r3 with
    | lst q1 q2 =>
      exact .inr (.inl ⟨_, _, rfl, SqL.of (s3.exG _ _ q1), fun l hl => hq _ e3 _ _ _ p (s3.step (Post.new1 s3.pre hl)) (x0.trans (Post.new1 s3.pre hl).ex) (.lst upd_same ((q2.cut lo hi).mono (Post.new1 s3.pre hl).ex))⟩)
  · cases r3 with
    | tup q1 q2 =>
      refine .inr (.inr ⟨_, _, rfl, by rw [← hx.1]; exact s3.exG.t q1, fun hz => ?_, fun hz l hl => ?_⟩)
      · rw [q2.length] at hz
        have p' : P (.tup (cutD _ lo hi)) e3 := p
        rw [sIx_whole _ lo hi hz] at p'
        exact hq _ e3 _ G3 H3 p' s3 x0 (.tup q1 q2)
      · exact hq _ e3 _ _ _ p (s3.step (Post.new1 s3.pre hl)) (x0.trans (Post.new1 s3.pre hl).ex) (.tup (.inl (.inl upd_same)) ((q2.cut lo hi).mono (Post.new1 s3.pre hl).ex))
/-! ### isinstance -/
def kindD : D → Option String
  | .non => some "NoneType"
  | .bl _ => some "bool"
  | .int _ => some "int"
  | .str _ => some "str"
  | .lst _ => some "list"
  | .tup _ => some "tuple"
  | _ => none
theorem kind_ok {w : Wd} {G H : Hp} {v : V} {d : D} {k : String} (r : Rep w G v d) (e : Ex G H) (h : kindD d = some k) : TyX w.K H v (.type k) := by
  cases r <;> unfold kindD at h <;> first | cases h | skip
  all_goals first
    | exact .base .non
    | exact .base (.bl _)
    | exact .base (.int _)
    | exact .base (.str _)
    | (rename_i h1 _; exact .base (.lst (e _ _ h1)))
    | skip
  rename_i h1 _
  rcases h1 with (h1 | ⟨o, h1⟩) | ⟨o, its, n, h1, h2, _⟩
  · exact .base (.tup (e _ _ h1))
  · exact .fTuple (e _ _ h1)
  · exact .kTuple h1 h2
/-- the built-in types that isinstance asks for -/
inductive TyN where
  | str | int | bool | list | tuple | dict
def TyN.nm : TyN → String
  | .str => "str" | .int => "int" | .bool => "bool" | .list => "list" | .tuple => "tuple" | .dict => "dict"
def isTD : D → TyN → Option Bool
  | .non, _ => some false
  | .bl _, .bool => some true
  | .bl _, .int => some true
  | .bl _, _ => some false
  | .int _, .int => some true
  | .int _, _ => some false
  | .str _, .str => some true
  | .str _, _ => some false
  | .lst _, .list => some true
  | .lst _, _ => some false
  | .tup _, .tuple => some true
  | .tup _, _ => some false
  | _, _ => none
theorem isTD_ok {d : D} {T : TyN} {b : Bool} (h : isTD d T = some b) : ∃ k, kindD d = some k ∧ kitB k T.nm = some b := by
  cases d <;> cases T <;> first | (cases h; done) | skip
  all_goals
    cases h
    refine ⟨_, rfl, ?_⟩
    decide +kernel
/-- isinstance(e, T), T a built-in type -/
def wIsi (T : TyN) (w : WE) : WE := fun env P R => w env (fun d e => match isTD d T with
  | some b => P (.bl b) e
  | none => False) R
theorem px_isi (Tn : TyN) {T : Str} {p p2 : Pos} (hg : Gl X "isinstance") (hm : X.mg "isinstance" = none) (hgT : Gl X T) (hmT : X.mg T = none) (hvT : bootBuiltins T = some (.type Tn.nm)) (ha : PX X W a wa) (hnT : T ≠ "__name__" := by decide) (hdT : (T == ("__debug__" : Str)) = false := by decide)
    (he : starEach (a :: [.Name T p2]) X.env = (false, eval a X.env) :: starEach [.Name T p2] X.env := by rfl) (hpl : (backTo pos (starEach [.Name T p2] X.env)).any (·.1) = false := by rfl) (he2 : starEach [.Name T p2] X.env = (false, eval (.Name T p2) X.env) :: starEach [] X.env := by rfl) :
    PX X W (.Call (.Name "isinstance" p) [a, .Name T p2] [] pos) (wIsi Tn wa) := by
  obtain ⟨t, a1, a2⟩ := ha.ex
  have hT : PE X (.Name T p2) (tC (.ty Tn.nm)) := pe_bltn hgT hmT hvT rfl hnT hdT
  refine ⟨⟨_, pe_callB call_isi hg hm (by decide +kernel) (pa_cons a1 (pa_cons hT pa_nil he2) he) (by decide) (by decide) he hpl, fun F env σ G H P R Q hx hs hw hq hk => a2 F env σ G H _ R _ hx hs hw (fun d e1 v G1 H1 p s1 x1 r1 => ?_) hk⟩⟩
  cases e0 : isTD d Tn with
  | none => rw [e0] at p; exact p.elim
  | some bb =>
    rw [e0] at p
    obtain ⟨k, e, h1⟩ := isTD_ok e0
    have ty := kind_ok r1 s1.exG e
    rw [hx.1] at ty
    exact ⟨v, _, _, _, bb, rfl, .ty _, ty, kit_ty h1, hq _ e1 _ G1 H1 p s1 x1 .bl⟩
/-- isinstance(e, (T, U)) -/
def wIsi2 (T U : TyN) (w : WE) : WE := fun env P R => w env (fun d e => match isTD d T, isTD d U with
  | some b, some c => P (.bl (b || c)) e
  | _, _ => False) R
theorem px_isi2 (Tn Un : TyN) {T U : Str} {p p2 p3 p4 : Pos} {kk} (hg : Gl X "isinstance") (hm : X.mg "isinstance" = none) (hgT : Gl X T) (hmT : X.mg T = none) (hvT : bootBuiltins T = some (.type Tn.nm)) (hgU : Gl X U) (hmU : X.mg U = none) (hvU : bootBuiltins U = some (.type Un.nm)) (ha : PX X W a wa)
    (hnT : T ≠ "__name__" := by decide) (hdT : (T == ("__debug__" : Str)) = false := by decide) (hnU : U ≠ "__name__" := by decide) (hdU : (U == ("__debug__" : Str)) = false := by decide)
    (he : starEach (a :: [.Tuple [.Name T p2, .Name U p3] kk p4]) X.env = (false, eval a X.env) :: starEach [.Tuple [.Name T p2, .Name U p3] kk p4] X.env := by rfl) (hpl : (backTo pos (starEach [.Tuple [.Name T p2, .Name U p3] kk p4] X.env)).any (·.1) = false := by rfl) (he2 : starEach [.Tuple [.Name T p2, .Name U p3] kk p4] X.env = (false, eval (.Tuple [.Name T p2, .Name U p3] kk p4) X.env) :: starEach [] X.env := by rfl)
    (he3 : starEach [.Name T p2, .Name U p3] X.env = (false, eval (.Name T p2) X.env) :: starEach [.Name U p3] X.env := by rfl) (he4 : starEach [.Name U p3] X.env = (false, eval (.Name U p3) X.env) :: starEach [] X.env := by rfl) :
    PX X W (.Call (.Name "isinstance" p) [a, .Tuple [.Name T p2, .Name U p3] kk p4] [] pos) (wIsi2 Tn Un wa) := by
  obtain ⟨t, a1, a2⟩ := ha.ex
  have hT : PE X (.Name T p2) (tC (.ty Tn.nm)) := pe_bltn hgT hmT hvT rfl hnT hdT
  have hU : PE X (.Name U p3) (tC (.ty Un.nm)) := pe_bltn hgU hmU hvU rfl hnU hdU
  refine ⟨⟨_, pe_callB call_isiT hg hm (by decide +kernel) (pa_cons a1 (pa_cons (pe_tup (pa_cons hT (pa_cons hU pa_nil he4) he3)) pa_nil he2) he) (by decide) (by decide) he hpl, fun F env σ G H P R Q hx hs hw hq hk => a2 F env σ G H _ R _ hx hs hw (fun d e1 v G1 H1 p s1 x1 r1 => ?_) hk⟩⟩
  cases e0 : isTD d Tn with
  | none => rw [e0] at p; exact p.elim
  | some bb =>
    cases e2 : isTD d Un with
    | none => rw [e0, e2] at p; exact p.elim
    | some cc =>
    rw [e0, e2] at p
    obtain ⟨k, e, h1⟩ := isTD_ok e0
    obtain ⟨k', e', h3⟩ := isTD_ok e2
    rw [e] at e'
    cases e'
    refine ⟨by show 2 ≤ sizeLine; decide, fun l hl => ?_⟩
    have po := Post.new1 (o := .tup [.ty Tn.nm, .ty Un.nm]) s1.pre hl
    have s2 := s1.step po
    have ty := kind_ok (r1.mono po.ex) s2.exG e
    rw [hx.1] at ty
    refine ⟨v, l, _, _, [.type Tn.nm, .type Un.nm], bb || cc, rfl, upd_same, .cons (.ty _) (.cons (.ty _) .nil), ty, ?_, hq _ e1 _ _ _ p s2 (x1.trans po.ex) .bl⟩
    refine kitAny_cons (kit_ty h1) (fun z => ?_) (fun z => by rw [z]; rfl)
    subst z
    refine kitAny_cons (kit_ty h3) (fun z => ?_) (fun z => by rw [z]; rfl)
    subst z
    rfl
end

/-! ### what is walked -/
structure Wk (F : Fc) (G1 : Hp) (J : It) (ds : List D) : Prop where
  ex : ∃ (Gd : Hp → Prop) (Y : Nat → Hp → V → Hp → Prop), Walk J ds.length Gd Y ∧ (∀ G2 H2, Ex G1 G2 → Ex G2 H2 → Gd H2) ∧
    ∀ i H2 v H3 G2, Y i H2 v H3 → Pre F.wd G2 H2 → Ex G1 G2 → ∃ d G3, ds[i]? = some d ∧ Post F.wd G2 H2 G3 H3 ∧ Rep F.wd G3 v d
structure PXI (X : Cx) (W : WX) (tg iter : Expr) (w : WA) : Prop where
  ex : ∃ wi : TI, PI X tg iter wi ∧ ∀ (F : Fc) (env : En) (σ : L2.St) (G H : Hp) (P : List D → En → Prop) (R : QX) (Rq : It → Hp → Prop), XOk X F → SI F env σ G H → w env P R →
    (∀ ds env' J G' H', P ds env' → SI F env' σ G' H' → Ex G G' → Wk F G' J ds → Rq J H') → XK' F W σ R → wi σ H Rq
def iSeq (K : PySem.W.Frag) (tl : TE) : TI := fun σ H R => tl σ H fun x H1 => (∃ a, x = .ref a ∧ (∃ xs, SqL K H1 a xs) ∧ R (Itl K a) H1) ∨ (∃ a, x = .ref a ∧ (∃ xs, SqT K H1 a xs) ∧ R (Itt K a) H1) ∨ ∃ z, x = .str z ∧ R (Its z) H1
section
variable {X : Cx} {W : WX} {tg : Expr}
/-- an expression that stands for a value which has come -/
theorem pi_seq {l : Expr} {tl : TE} (hl : PE X l tl) : PI X tg l (iSeq X.K tl) := by
  refine ⟨fun pins s σ H R I h => ?_⟩
  refine thn (hl.run pins s σ H _ I h) fun v s1 ⟨x, H1, I1, r1, q1⟩ => ?_
  rcases q1 with ⟨a, e, ⟨xs, hq⟩, q⟩ | ⟨a, e, ⟨xs, hq⟩, q⟩ | ⟨z, e, q⟩
  · subst e
    cases r1
    obtain ⟨its, rv, p, hz⟩ := I1.list hq
    refine wpAny_pyIter_list p.isList ?_
    refine ⟨s1.heap.objs.size, [s1.heap.objs.size], _, _, H1, rfl, I1.kept (t' := s1.toks) fun b o e => Heap.get?_push_of_some _ e, turn_list a _, ⟨_, Heap.get?_push_size _ rfl, rfl, rfl⟩, fun b hb => ?_, q⟩
    have e : b = s1.heap.objs.size := by simpa using hb
    subst e
    exact I1.fpOk (Nat.le_refl _) (I1.hok.fresh (Nat.le_refl _))
  · subst e
    cases r1
    obtain ⟨its, rv, p, hz⟩ := I1.tuple hq
    refine wpAny_pyIter_tuple (show s1.heap.IsTuple a its.toArray from p) ?_
    refine ⟨s1.heap.objs.size, [s1.heap.objs.size], _, _, H1, rfl, I1.kept (t' := s1.toks) fun b o e => Heap.get?_push_of_some _ e, turn_tuple a _, ⟨_, Heap.get?_push_size _ rfl, rfl, rfl⟩, fun b hb => ?_, q⟩
    have e : b = s1.heap.objs.size := by simpa using hb
    subst e
    exact I1.fpOk (Nat.le_refl _) (I1.hok.fresh (Nat.le_refl _))
  · subst e
    obtain ⟨t, rfl⟩ := r1
    cases ha : z.cps.all (· < 128)
    · exact wpAny_pyIter_wide ha (pi_one (tk := s1.toks) I1 _ (turn_str _ z t "str_iterator" (.inr rfl)) ⟨_, Heap.get?_push_size _ rfl, rfl, rfl⟩ q)
    · exact wpAny_pyIter_ascii ha (pi_one (tk := s1.toks) I1 _ (turn_str _ z t "str_ascii_iterator" (.inl rfl)) ⟨_, Heap.get?_push_size _ rfl, rfl, rfl⟩ q)
def rdIt (d : D) (P : List D → Prop) : Prop := match d with
  | .lst l => P l
  | .tup l => P l
  | .str s => P (signsD s)
  | _ => False
def wIt (w : WE) : WA := fun env P R => w env (fun d e => rdIt d fun l => P l e) R
theorem pi_it {e : Expr} {w : WE} (h : PX X W e w) : PXI X W tg e (wIt w) := by
  obtain ⟨t, a1, a2⟩ := h.ex
  refine ⟨⟨_, pi_seq a1, fun F env σ G H P R Rq hx hs hw hq hk => a2 F env σ G H _ R _ hx hs hw (fun d e1 v G1 H1 p s1 x1 r1 => ?_) hk⟩⟩
  unfold rdIt at p
  cases d <;> first | exact p.elim | skip
  · cases r1
    rename_i z
    refine .inr (.inr ⟨z, rfl, hq _ e1 _ G1 H1 p s1 x1 ⟨⟨fun _ => True, fun i H v H' => H' = H ∧ ∃ c, z.cps[i]? = some c ∧ v = .str ⟨#[c]⟩, ?_, fun _ _ _ _ => trivial, fun i H2 v H3 G2 y hp _ => ?_⟩⟩⟩)
    · have q := walk_str (z := z)
      have e : (signsD z).length = z.cps.size := by unfold signsD; rw [List.length_map, Array.length_toList]
      rw [e]
      exact q
    · obtain ⟨rfl, c, hc, rfl⟩ := y
      refine ⟨_, G2, ?_, Post.refl hp, .str⟩
      unfold signsD
      rw [List.getElem?_map, Array.getElem?_toList, hc]
      rfl
  · cases r1 with
    | lst l1 l2 =>
      refine .inl ⟨_, rfl, ⟨_, SqL.of (s1.exG _ _ l1)⟩, hq _ e1 _ G1 H1 p s1 x1 ⟨⟨_, _, by rw [← l2.length]; exact walk_list, fun G2 H2 y1 y2 => SqL.of (y2 _ _ (y1 _ _ l1)), fun i H2 v H3 G2 y hp y1 => ?_⟩⟩⟩
      obtain ⟨rfl, e⟩ := y
      obtain ⟨d, e2, r⟩ := l2.get e
      exact ⟨d, G2, e2, Post.refl hp, r.mono y1⟩
  · cases r1 with
    | tup l1 l2 =>
      refine .inr (.inl ⟨_, rfl, ⟨_, by rw [← hx.1]; exact s1.exG.t l1⟩, hq _ e1 _ G1 H1 p s1 x1 ⟨⟨_, _, by rw [← l2.length]; exact walk_tup, fun G2 H2 y1 y2 => by rw [← hx.1]; exact y2.t (y1.t l1), fun i H2 v H3 G2 y hp y1 => ?_⟩⟩⟩)
      obtain ⟨rfl, e⟩ := y
      obtain ⟨d, e2, r⟩ := l2.get e
      exact ⟨d, G2, e2, Post.refl hp, r.mono y1⟩
def rangeD (lo : Int) (n : Nat) : List D := (List.range n).map fun (i : Nat) => D.int (lo + (i : Int))
theorem range_wk {F : Fc} {G1 : Hp} (lo : Int) (n : Nat) : Wk F G1 (Itr lo n) (rangeD lo n) := by
  have e : (rangeD lo n).length = n := by unfold rangeD; simp
  refine ⟨⟨fun _ => True, fun i H v H' => i < n ∧ H' = H ∧ v = .int (lo + i), ?_, fun _ _ _ _ => trivial, fun i H2 v H3 G2 y hp _ => ?_⟩⟩
  · rw [e]
    exact walk_range.mono (fun _ h => h) fun i H x H' hi _ y => ⟨hi, y⟩
  · obtain ⟨hi, rfl, rfl⟩ := y
    refine ⟨_, G2, ?_, Post.refl hp, .int⟩
    unfold rangeD
    rw [List.getElem?_map, List.getElem?_range hi]
    rfl
def wRng1 (w : WE) : WA := fun env P R => w env (fun d e => match d with | .int j => (-(2 ^ 62) ≤ j ∧ j < 2 ^ 62) ∧ P (rangeD 0 j.toNat) e | _ => False) R
theorem pi_rng1 {a : Expr} {w : WE} {p pos : Pos} (hg : Gl X "range") (hm : X.mg "range" = none) (h : PX X W a w) (hs : starEach [a] X.env = [(false, eval a X.env)] := by rfl) : PXI X W tg (.Call (.Name "range" p) [a] [] pos) (wRng1 w) := by
  obtain ⟨t, a1, a2⟩ := h.ex
  refine ⟨⟨_, pi_range1 hg hm (pa_cons a1 pa_nil hs) hs, fun F env σ G H P R Rq hx hs hw hq hk => a2 F env σ G H _ R _ hx hs hw (fun d e1 v G1 H1 p s1 x1 r1 => ?_) hk⟩⟩
  cases d <;> first | exact p.elim | skip
  cases r1
  exact ⟨_, rfl, p.1.1, p.1.2, hq _ e1 _ G1 H1 p.2 s1 x1 (range_wk 0 _)⟩
def wRng2 (w u : WE) : WA := fun env P R => w env (fun d e => u e (fun d2 e2 => match d, d2 with | .int i, .int j => (-(2 ^ 62) ≤ i ∧ i < 2 ^ 62 ∧ -(2 ^ 62) ≤ j ∧ j < 2 ^ 62) ∧ P (rangeD i (j - i).toNat) e2 | _, _ => False) R) R
theorem pi_rng2 {a b : Expr} {w u : WE} {p pos : Pos} (hg : Gl X "range") (hm : X.mg "range" = none) (h : PX X W a w) (h' : PX X W b u) (hs : starEach [a, b] X.env = [(false, eval a X.env), (false, eval b X.env)] := by rfl) (hs2 : starEach [b] X.env = [(false, eval b X.env)] := by rfl)
    (hs1 : starEach (a :: [b]) X.env = (false, eval a X.env) :: starEach [b] X.env := by rfl) : PXI X W tg (.Call (.Name "range" p) [a, b] [] pos) (wRng2 w u) := by
  obtain ⟨t, a1, a2⟩ := h.ex
  obtain ⟨t', b1, b2⟩ := h'.ex
  refine ⟨⟨_, pi_range2 hg hm (pa_cons a1 (pa_cons b1 pa_nil hs2) hs1) hs hs2, fun F env σ G H P R Rq hx hs hw hq hk => a2 F env σ G H _ R _ hx hs hw (fun d e1 v G1 H1 p s1 x1 r1 => b2 F e1 σ G1 H1 _ R _ hx s1 p (fun d2 e2 v2 G2 H2 p2 s2 x2 r2 => ?_) hk) hk⟩⟩
  cases d <;> first | exact p2.elim | skip
  cases d2 <;> first | exact p2.elim | skip
  cases r1
  cases r2
  exact ⟨_, _, rfl, p2.1, hq _ e2 _ G2 H2 p2.2 s2 (x1.trans x2) (range_wk _ _)⟩

/-! ### targets -/
abbrev WG := D → En → (En → Prop) → Prop
structure PXG (X : Cx) (tg : Expr) (own : List Nat) (w : WG) : Prop where
  ex : ∃ g : TG, PG X tg g ∧ ∀ (F : Fc) (env : En) (σ : L2.St) (G H : Hp) (v : V) (d : D) (P : En → Prop) (Q : L2.St → Hp → Prop), XOk X F → SI F env σ G H → Rep F.wd G v d → w d env P →
    (∀ env' σ', P env' → SI F env' σ' G H → (∀ vs : List Nat, (∀ i ∈ own, i ∈ vs) → wipe σ' vs = wipe σ vs) → Q σ' H) → g v σ H Q
def tG (K : PySem.W.Frag) (mg : Str → Option Value) (own : List Nat) (w : WG) : TG := fun v σ H Q => ∃ (F : Fc) (env : En) (G : Hp) (d : D) (P : En → Prop), (F.wd.K = K ∧ F.wd.mg = mg) ∧ SI F env σ G H ∧ Rep F.wd G v d ∧ w d env P ∧
  ∀ env' σ', P env' → SI F env' σ' G H → (∀ vs : List Nat, (∀ i ∈ own, i ∈ vs) → wipe σ' vs = wipe σ vs) → Q σ' H
theorem PXG.can {own : List Nat} {w : WG} (h : PXG X tg own w) : PG X tg (tG X.K X.mg own w) := by
  obtain ⟨g, h1, h2⟩ := h.ex
  refine ⟨fun pins s σ H v u Q I r hq => ?_⟩
  obtain ⟨F, env, G, d, P, hx, hs, hr, hw, hk⟩ := hq
  exact h1.run pins s σ H v u Q I r (h2 F env σ G H v d P Q hx hs hr hw hk)
theorem wipe_set {σ : L2.St} {i : Nat} {x : Option V} : ∀ {vs : List Nat}, i ∈ vs → wipe (σ.set i x) vs = wipe σ vs
  | [], h => by cases h
  | v :: vs, h => by
    unfold wipe
    by_cases hv : i ∈ vs
    · rw [wipe_set hv]
    · have e : i = v := by
        rcases List.mem_cons.mp h with z | z
        · exact z
        · exact absurd z hv
      subst e
      have cm : ∀ (us : List Nat), i ∉ us → wipe (σ.set i x) us = (wipe σ us).set i x := by
        intro us
        induction us with
        | nil => intro _; rfl
        | cons u us ih =>
          intro hu
          have hu1 : i ≠ u := fun z => hu (by rw [z]; exact List.mem_cons_self)
          have hu2 : i ∉ us := fun z => hu (List.mem_cons_of_mem _ z)
          unfold wipe
          rw [ih hu2, List.set_comm _ _ hu1]
      rw [cm vs hv, List.set_set]
def wgName (i : Nat) : WG := fun d env P => P (env.set i (.v d))
theorem pg_name' {i : Nat} {x : Str} {pos : Pos} (h : PG X (.Name x pos) (gName i)) : PXG X (.Name x pos) [i] (wgName i) :=
  ⟨⟨_, h, fun F env σ G H v d P Q hx hs hr hw hq => hq _ _ hw (hs.set hr) fun vs hvs => wipe_set (hvs i (by simp))⟩⟩
/-- a tuple of two names -/
def wgTup2 (g1 g2 : WG) : WG := fun d env P => match d with
  | .tup [d1, d2] => g1 d1 env fun e1 => g2 d2 e1 P
  | _ => False
theorem pg_tup2 {a b : Expr} {g1 g2 : WG} {o1 o2 : List Nat} {kk pos} (hc : X.calm = true) (h1 : PXG X a o1 g1) (h2 : PXG X b o2 g2) (hn : (assignEach [a, b] X.env).length = 2 := by rfl) (hst : (assignEach [a, b] X.env).findIdx? (·.1) = none := by rfl)
    (hs1 : (assignEach (a :: [b]) X.env).map (·.2) = assign a X.env :: (assignEach [b] X.env).map (·.2) := by rfl) (hs2 : (assignEach (b :: []) X.env).map (·.2) = assign b X.env :: (assignEach [] X.env).map (·.2) := by rfl) : PXG X (.Tuple [a, b] kk pos) (o1 ++ o2) (wgTup2 g1 g2) := by
  obtain ⟨t1, a1, a2⟩ := h1.ex
  obtain ⟨t2, b1, b2⟩ := h2.ex
  refine ⟨⟨_, pg_tup hc (pgs_cons a1 (pgs_cons b1 pgs_nil hs2) hs1) hn hst, fun F env σ G H v d P Q hx hs hr hw hq => ?_⟩⟩
  unfold wgTup2 at hw
  split at hw
  · rename_i d1 d2
    cases hr with
    | tup l1 l2 =>
      obtain ⟨v1, v2, rfl, r1, r2⟩ := l2.inv2
      refine ⟨_, _, rfl, by rw [← hx.1]; exact hs.exG.t l1, rfl, v1, _, rfl, ?_⟩
      refine a2 F env σ G H v1 d1 _ _ hx hs r1 hw fun e1 σ1 p1 s1 w1 => ⟨v2, _, rfl, ?_⟩
      refine b2 F e1 σ1 G H v2 d2 _ _ hx s1 r2 p1 fun e2 σ2 p2 s2 w2 => ⟨rfl, ?_⟩
      exact hq e2 σ2 p2 s2 fun vs hvs => by rw [w2 vs fun i hi => hvs i (List.mem_append_right _ hi), w1 vs fun i hi => hvs i (List.mem_append_left _ hi)]
  · exact hw.elim
end
end Pu
set_option maxRecDepth 100000
/-! Rules of the pure layer: comprehensions, statements, loops, calls, defs -/
namespace Pu
open PySem L2

/-! ### list comprehensions -/
def wipeE (env : En) : List Nat → En
  | [] => env
  | v :: vs => (wipeE env vs).set v .no
theorem SI.wipe {F : Fc} {env : En} {σ : L2.St} {G H : Hp} (h : SI F env σ G H) : ∀ vs : List Nat, SI F (wipeE env vs) (L2.wipe σ vs) G H
  | [] => h
  | v :: vs => (h.wipe vs).forget
/-- behind the block: the block's own names hold what they held (a value), or are forgotten -/
def backE (e0 e : En) : List Nat → En
  | [] => e
  | v :: vs => (backE e0 e vs).set v (match e0[v]? with | some (.v d) => .v d | _ => .no)
def wLcL (g : WG) (wt : WT) (we : WE) (own : List Nat) : List D → List D → En → (List D → En → Prop) → Prop
  | [], acc, env, P => P acc env
  | x :: xs, acc, env, P => g x (wipeE env own) fun e1 => wt e1 (fun k e2 => match k with
    | true => we e2 (fun d e3 => wLcL g wt we own xs (acc ++ [d]) e3 P) fun _ _ => False
    | false => wLcL g wt we own xs acc e2 P) fun _ _ => False
def wLc (own : List Nat) (wi : WA) (g : WG) (wt : WT) (we : WE) : WE := fun env P R => wi env (fun ds e1 => ds.length ≤ 100000 ∧ wLcL g wt we own ds [] e1 fun acc e2 => P (.lst acc) (backE e1 e2 own)) R
/-- no test -/
def wYes : WT := fun env P _ => P true env
structure PXTs (X : Cx) (ifs : List Expr) (w : WT) : Prop where
  ex : PTs X ifs (tTs X.K X.mg (fun _ _ _ _ => False) w)
abbrev W0 : WX := fun _ _ _ _ => False
section
variable {X : Cx} {W : WX}
theorem pts_nil' : PXTs X [] wYes := by
  refine ⟨⟨fun pins s σ H Q I hq => ?_⟩⟩
  obtain ⟨F, env, G, P, R, hx, hs, hw, hk, hr⟩ := hq
  exact (pts_nil (X := X)).run pins s σ H Q I (hk true env G H hw hs (Ex.refl _))
theorem pts_one' {c : Expr} {w : WT} (h : PXT X W0 c w) : PXTs X [c] w := ⟨pts_one h.can⟩

theorem SI.mkPin {F : Fc} {env : En} {σ : L2.St} {G H : Hp} {a : Addr} {o : HO} (h : SI F env σ G H) (hn : H a = none) : SI { F with pins := (a, o) :: F.pins } env σ G (upd H a o) := by
  have h0 : F.H0 a = none := by
    cases e : F.H0 a with
    | none => rfl
    | some u =>
      by_cases hb : F.wd.b = some a
      · exact absurd hn (h.post.bag a hb).2.1
      · rw [h.post.keep a u hb e] at hn
        cases hn
  have g0 : G a = none := h.exG.back hn
  refine ⟨h.pre0, ⟨h.post.ex, fun x u hx => ?_, fun x u nb hx => ?_, fun x hx => ?_, fun β hβ => ?_⟩, h.len, fun i s e => ?_, h.ap, fun p hp => ?_⟩
  · rw [upd_ne (ne_of_none hx g0)]
    exact h.exG _ _ hx
  · rw [upd_ne (ne_of_none hx h0)]
    exact h.post.keep _ _ nb hx
  · exact h.post.new x hx
  · obtain ⟨b1, b2, b3⟩ := h.post.bag β hβ
    have ne : β ≠ a := fun z => by
      rw [z] at b2
      exact b2 hn
    exact ⟨b1, by rw [upd_ne ne]; exact b2, b3.mono (Ex.refl _) (upd_ne ne)⟩
  · have q := h.sl i s e
    cases s with
    | no => trivial
    | v d => exact q
    | ol l =>
      obtain ⟨b, vs, h1, h2, h3, h4, h5⟩ := q
      exact ⟨b, vs, h1, h2, h3, by rw [upd_ne (ne_of_none h4 hn)]; exact h4, h5⟩
  · rcases List.mem_cons.mp hp with z | z
    · subst z
      refine ⟨upd_same, g0, h0, fun i l e q => ?_⟩
      obtain ⟨b, vs, h1, h2, h3, h4, h5⟩ := h.sl i _ e
      rw [q] at h1
      cases h1
      rw [h4] at hn
      cases hn
    · obtain ⟨h1, h2, h3, h4⟩ := h.pin p z
      exact ⟨by rw [upd_ne (ne_of_none h1 hn)]; exact h1, h2, h3, h4⟩
/-- the pinned object becomes another one -/
theorem SI.rePin {F : Fc} {env : En} {σ : L2.St} {G H : Hp} {a : Addr} {o o' : HO} (h : SI { F with pins := (a, o) :: F.pins } env σ G H) (hd : ∀ p ∈ F.pins, p.1 ≠ a) : SI { F with pins := (a, o') :: F.pins } env σ G (upd H a o') := by
  obtain ⟨q1, q2, q3, q4⟩ := h.pin (a, o) List.mem_cons_self
  have na : ∀ x u, G x = some u → x ≠ a := fun x u hx => ne_of_none hx q2
  refine ⟨h.pre0, ⟨h.post.ex, fun x u hx => ?_, fun x u nb hx => ?_, fun x hx => h.post.new x hx, fun β hβ => ?_⟩, h.len, fun i s e => ?_, h.ap, fun p hp => ?_⟩
  · rw [upd_ne (na x u hx)]
    exact h.exG _ _ hx
  · rw [upd_ne (ne_of_none hx q3)]
    exact h.post.keep _ _ nb hx
  · obtain ⟨b1, b2, b3⟩ := h.post.bag β hβ
    have ne : β ≠ a := fun z => by
      rw [z] at hβ
      exact (h.pre0.bag a hβ).2.1 q3
    exact ⟨b1, by rw [upd_ne ne]; exact b2, b3.mono (Ex.refl _) (upd_ne ne)⟩
  · have q := h.sl i s e
    cases s with
    | no => trivial
    | v d => exact q
    | ol l =>
      obtain ⟨b, vs, h1, h2, h3, h4, h5⟩ := q
      have ne : b ≠ a := fun z => by
        rw [z] at h1
        exact q4 i l e h1
      exact ⟨b, vs, h1, h2, h3, by rw [upd_ne ne]; exact h4, h5⟩
  · rcases List.mem_cons.mp hp with z | z
    · subst z
      exact ⟨upd_same, q2, q3, q4⟩
    · obtain ⟨h1, h2, h3, h4⟩ := h.pin p (List.mem_cons_of_mem _ z)
      exact ⟨by rw [upd_ne (hd p z)]; exact h1, h2, h3, h4⟩
/-- the pinned object is settled -/
theorem SI.unPin {F : Fc} {env : En} {σ : L2.St} {G H : Hp} {a : Addr} {o : HO} (h : SI { F with pins := (a, o) :: F.pins } env σ G H) (hd : ∀ p ∈ F.pins, p.1 ≠ a) : Ex G (upd G a o) ∧ SI F env σ (upd G a o) H := by
  obtain ⟨q1, q2, q3, q4⟩ := h.pin (a, o) List.mem_cons_self
  have e1 : Ex G (upd G a o) := fun x u hx => by
    rw [upd_ne (ne_of_none hx q2)]
    exact hx
  refine ⟨e1, h.pre0, ⟨h.post.ex.trans e1, fun x u hx => ?_, h.post.keep, fun x hx => ?_, fun β hβ => ?_⟩, h.len, fun i s e => ?_, h.ap, fun p hp => ?_⟩
  · by_cases z : x = a
    · subst z
      rw [upd_same] at hx
      cases hx
      exact q1
    · rw [upd_ne z] at hx
      exact h.exG _ _ hx
  · by_cases z : x = a
    · exact .inr (by rw [z]; exact q3)
    · rw [upd_ne z] at hx
      exact h.post.new x hx
  · obtain ⟨b1, b2, b3⟩ := h.post.bag β hβ
    have ne : β ≠ a := fun z => by
      rw [z] at hβ
      exact (h.pre0.bag a hβ).2.1 q3
    exact ⟨by rw [upd_ne ne]; exact b1, b2, b3.mono e1 rfl⟩
  · have q := h.sl i s e
    cases s with
    | no => trivial
    | v d =>
      obtain ⟨v, h1, h2⟩ := q
      exact ⟨v, h1, h2.mono e1⟩
    | ol l =>
      obtain ⟨b, vs, h1, h2, h3, h4, h5⟩ := q
      have ne : b ≠ a := fun z => by
        rw [z] at h1
        exact q4 i l e h1
      exact ⟨b, vs, h1, h2, by rw [upd_ne ne]; exact h3, h4, h5.mono e1⟩
  · obtain ⟨h1, h2, h3, h4⟩ := h.pin p (List.mem_cons_of_mem _ hp)
    exact ⟨h1, by rw [upd_ne (hd p hp)]; exact h2, h3, h4⟩
theorem back_si {F : Fc} {e0 e : En} {σ : L2.St} {G0 H0 G H : Hp} (h0 : SI F e0 σ G0 H0) (x : Ex G0 G) : ∀ {vs : List Nat}, SI F e (L2.wipe σ vs) G H → ∃ σ', (∀ i, i ∉ vs → σ'[i]? = (L2.wipe σ vs)[i]?) ∧ σ'.length = σ.length ∧ (∀ i ∈ vs, σ'[i]? = σ[i]?) ∧ SI F (backE e0 e vs) σ' G H := by
  intro vs h
  have main : ∀ us : List Nat, ∃ σ', (∀ i, i ∉ us → σ'[i]? = (L2.wipe σ vs)[i]?) ∧ σ'.length = σ.length ∧ (∀ i ∈ us, σ'[i]? = σ[i]?) ∧ SI F (backE e0 e us) σ' G H := by
    intro us
    induction us with
    | nil => exact ⟨L2.wipe σ vs, fun _ _ => rfl, wipe_length _ _, fun i hi => by (cases hi), h⟩
    | cons u us ih =>
      obtain ⟨σ', h1, h2, h3, h4⟩ := ih
      have hget : ∀ x : Option V, σ[u]? = some x → ∀ i ∈ u :: us, (σ'.set u x)[i]? = σ[i]? := fun x ex i hi => by
        by_cases z : u = i
        · subst z
          have hl : u < σ'.length := by rw [h2]; exact (List.getElem?_eq_some_iff.mp ex).1
          rw [List.getElem?_set, if_pos rfl, if_pos hl, ex]
        · rw [List.getElem?_set_ne z]
          exact h3 i (by rcases List.mem_cons.mp hi with q | q; · exact absurd q.symm z
                         · exact q)
      have hout : ∀ x : Option V, ∀ i, i ∉ u :: us → (σ'.set u x)[i]? = (L2.wipe σ vs)[i]? := fun x i hi => by
        have z1 : u ≠ i := fun z => hi (by rw [z]; exact List.mem_cons_self)
        have z2 : i ∉ us := fun z => hi (List.mem_cons_of_mem _ z)
        rw [List.getElem?_set_ne z1]
        exact h1 i z2
      cases eu : σ[u]? with
      | none =>
        have hl : ¬ u < σ.length := fun z => by
          rw [List.getElem?_eq_getElem z] at eu
          cases eu
        refine ⟨σ'.set u none, hout none, by rw [List.length_set]; exact h2, fun i hi => ?_, ?_⟩
        · by_cases z : u = i
          · subst z
            rw [List.getElem?_set, if_pos rfl, if_neg (by rw [h2]; exact hl), eu]
          · rw [List.getElem?_set_ne z]
            exact h3 i (by rcases List.mem_cons.mp hi with q | q; · exact absurd q.symm z
                           · exact q)
        · show SI F ((backE e0 e us).set u _) _ G H
          have e1 : e0[u]? = none := List.getElem?_eq_none (by rw [h0.len]; exact Nat.le_of_not_lt hl)
          rw [e1]
          exact h4.forget
      | some x =>
        refine ⟨σ'.set u x, hout x, by rw [List.length_set]; exact h2, hget x eu, ?_⟩
        show SI F ((backE e0 e us).set u _) _ G H
        cases ee : e0[u]? with
        | none => exact h4.forget
        | some s =>
          cases s with
          | no => exact h4.forget
          | ol l => exact h4.forget
          | v d =>
            obtain ⟨v, q1, q2⟩ := h0.sl u _ ee
            rw [eu] at q1
            cases q1
            exact h4.set (q2.mono x)
  exact main vs
theorem ext_get {σ σ' : L2.St} (h : ∀ i : Nat, σ[i]? = σ'[i]?) : σ = σ' := List.ext_getElem? h
theorem wipe_out' {σ : L2.St} {i : Nat} {vs : List Nat} (h : i ∉ vs) : (L2.wipe σ vs)[i]? = σ[i]? := wipe_out h

theorem wipeE_length (e : En) : ∀ us : List Nat, (wipeE e us).length = e.length
  | [] => rfl
  | u :: us => by unfold wipeE; rw [List.length_set, wipeE_length e us]
theorem wipeE_out (e : En) : ∀ (us : List Nat) (i : Nat), i ∉ us → (wipeE e us)[i]? = e[i]?
  | [], i, _ => rfl
  | u :: us, i, hi => by
    unfold wipeE
    rw [List.getElem?_set_ne (fun z => hi (by rw [z]; exact List.mem_cons_self))]
    exact wipeE_out e us i fun z => hi (List.mem_cons_of_mem _ z)
theorem set_get_idem {α : Type} {a : List α} {c : α} : ∀ {u : Nat}, (∀ s, a[u]? = some s → s = c) → a.set u c = a := fun {u} ha => by
  apply List.ext_getElem?
  intro i
  rw [List.getElem?_set]
  by_cases z : u = i
  · subst z
    rw [if_pos rfl]
    by_cases hl : u < a.length
    · rw [if_pos hl, List.getElem?_eq_getElem hl, ha _ (List.getElem?_eq_getElem hl)]
    · rw [if_neg hl, List.getElem?_eq_none (Nat.le_of_not_lt hl)]
  · rw [if_neg z]
theorem mem_tail {i u : Nat} {us : List Nat} (hi : i ∈ u :: us) (z : ¬ u = i) : i ∈ us := by
  rcases List.mem_cons.mp hi with q | q
  · exact absurd q.symm z
  · exact q
theorem wipeE_no (e : En) : ∀ (us : List Nat) (i : Nat), i ∈ us → ∀ s, (wipeE e us)[i]? = some s → s = .no
  | [], i, hi => by cases hi
  | u :: us, i, hi => fun s q => by
    unfold wipeE at q
    rw [List.getElem?_set] at q
    by_cases z : u = i
    · rw [if_pos z] at q
      split at q
      · exact (Option.some.inj q).symm
      · cases q
    · rw [if_neg z] at q
      exact wipeE_no e us i (mem_tail hi z) s q
theorem wipeE_fix : ∀ (us : List Nat) (a : En), (∀ i ∈ us, ∀ s, a[i]? = some s → s = .no) → wipeE a us = a
  | [], a, _ => rfl
  | u :: us, a, ha => by
    unfold wipeE
    rw [wipeE_fix us a fun i hi => ha i (List.mem_cons_of_mem _ hi)]
    exact set_get_idem (ha u List.mem_cons_self)
theorem wipeE_idem (e : En) (us : List Nat) : wipeE (wipeE e us) us = wipeE e us := wipeE_fix us _ (wipeE_no e us)
theorem wipe_no (e : L2.St) : ∀ (us : List Nat) (i : Nat), i ∈ us → ∀ s, (L2.wipe e us)[i]? = some s → s = none
  | [], i, hi => by cases hi
  | u :: us, i, hi => fun s q => by
    unfold L2.wipe at q
    rw [List.getElem?_set] at q
    by_cases z : u = i
    · rw [if_pos z] at q
      split at q
      · exact (Option.some.inj q).symm
      · cases q
    · rw [if_neg z] at q
      exact wipe_no e us i (mem_tail hi z) s q
theorem wipe_fix : ∀ (us : List Nat) (a : L2.St), (∀ i ∈ us, ∀ s, a[i]? = some s → s = none) → L2.wipe a us = a
  | [], a, _ => rfl
  | u :: us, a, ha => by
    unfold L2.wipe
    rw [wipe_fix us a fun i hi => ha i (List.mem_cons_of_mem _ hi)]
    exact set_get_idem (ha u List.mem_cons_self)
theorem wipe_idem (e : L2.St) (us : List Nat) : L2.wipe (L2.wipe e us) us = L2.wipe e us := wipe_fix us _ (wipe_no e us)
theorem backE_length (e1 a : En) : ∀ us : List Nat, (backE e1 a us).length = a.length
  | [] => rfl
  | u :: us => by unfold backE; rw [List.length_set, backE_length e1 a us]
theorem backE_out (e1 a : En) : ∀ (us : List Nat) (i : Nat), i ∉ us → (backE e1 a us)[i]? = a[i]?
  | [], i, _ => rfl
  | u :: us, i, hi => by
    unfold backE
    rw [List.getElem?_set_ne (fun z => hi (by rw [z]; exact List.mem_cons_self))]
    exact backE_out e1 a us i fun z => hi (List.mem_cons_of_mem _ z)
theorem backE_in (e1 a b : En) (hl : a.length = b.length) : ∀ (us : List Nat) (i : Nat), i ∈ us → (backE e1 a us)[i]? = (backE e1 b us)[i]?
  | [], i, hi => by cases hi
  | u :: us, i, hi => by
    unfold backE
    rw [List.getElem?_set, List.getElem?_set]
    by_cases z : u = i
    · rw [if_pos z, if_pos z, backE_length, backE_length, hl]
    · rw [if_neg z, if_neg z]
      exact backE_in e1 a b hl us i (mem_tail hi z)
theorem backE_wipe (e1 e : En) (us : List Nat) : backE e1 (wipeE e us) us = backE e1 e us := by
  apply List.ext_getElem?
  intro i
  by_cases hi : i ∈ us
  · exact backE_in e1 _ _ (wipeE_length e us) us i hi
  · rw [backE_out _ _ _ _ hi, backE_out _ _ _ _ hi, wipeE_out e us i hi]
theorem lcL_wipe {g : WG} {wt : WT} {we : WE} {vs : List Nat} {e : En} {l acc : List D} {P' : List D → En → Prop} (h : ∀ e, P' acc e → P' acc (wipeE e vs)) (q : wLcL g wt we vs l acc e P') : wLcL g wt we vs l acc (wipeE e vs) P' := by
  cases l with
  | nil => exact h _ q
  | cons y l =>
    show g y (wipeE (wipeE e vs) vs) _
    rw [wipeE_idem]
    exact q
theorem lc_run {tg iter : Expr} {K : PySem.W.Frag} {mg : Str → Option Value} {vs og : List Nat} {wi : WA} {g : WG} {wt : WT} {we : WE} {ti : TI} (hXK : X.K = K) (hXm : X.mg = mg) (hog : ∀ i ∈ og, i ∈ vs)
    (i2 : ∀ (F : Fc) (env : En) (σ : L2.St) (G H : Hp) (P : List D → En → Prop) (R : QX) (Rq : It → Hp → Prop), XOk X F → SI F env σ G H → wi env P R →
    (∀ ds env' J G' H', P ds env' → SI F env' σ G' H' → Ex G G' → Wk F G' J ds → Rq J H') → XK' F W σ R → ti σ H Rq)
    (F : Fc) (env : En) (σ : L2.St) (G H : Hp) (P : D → En → Prop) (R : QX) (Q : VK) (hx : XOk X F) (hs : SI F env σ G H) (hw : wLc vs wi g wt we env P R) (hq : ∀ d env' v G' H', P d env' → SI F env' σ G' H' → Ex G G' → Rep F.wd G' v d → Q v H') (hk : XK' F W σ R) :
    tLc ti (tG K mg og g) (tTs K mg W0 wt) (tE K mg W0 we) vs σ H Q := by
  subst hXK hXm
  refine i2 F env σ G H _ R _ hx hs hw (fun ds e1 J G1 H1 p1 s1 x1 wk => ?_) hk
  obtain ⟨hlen, p1⟩ := p1
  obtain ⟨Gd, Y, w1, w2, w3⟩ := wk.ex
  intro Dl hD
  have hpd : ∀ p ∈ F.pins, p.1 ≠ Dl := fun p hp z => by
    obtain ⟨h1, _⟩ := s1.pin p hp
    rw [z, hD] at h1
    cases h1
  have bwipe : ∀ (acc : List D) (e : En), P (.lst acc) (backE e1 e vs) → P (.lst acc) (backE e1 (wipeE e vs) vs) := fun acc e q => by
    rw [backE_wipe]
    exact q
  refine lc_it w1 (fun i H' => ∃ (e2 : En) (G2 : Hp) (acc : List D) (us : List V), SI { F with pins := (Dl, .lst us) :: F.pins } e2 (L2.wipe σ vs) G2 H' ∧ Ex G1 G2 ∧ Reps F.wd G2 us acc ∧ acc.length ≤ i ∧ wLcL g wt we vs (ds.drop i) acc e2 fun acc e2 => P (.lst acc) (backE e1 e2 vs)) ?_ ?_ ?_ ?_
  · exact ⟨wipeE e1 vs, G1, [], [], (s1.mkPin hD).wipe vs, Ex.refl _, .nil, Nat.zero_le _, lcL_wipe (bwipe []) p1⟩
  · intro i H' hi ⟨e2, G2, acc, us, a1, a2, _⟩
    exact w2 G2 H' a2 a1.exG
  · intro i x H' H'' hi ⟨e2, G2, acc, us, a1, a2, a3, a4, a5⟩ hy
    obtain ⟨d, G3, b1, b2, b3⟩ := w3 i H' x H'' G2 hy a1.pre a2
    have s3 := a1.step b2
    have hd : ds.drop i = d :: ds.drop (i + 1) := by
      obtain ⟨hl, e⟩ := List.getElem?_eq_some_iff.mp b1
      rw [← e]
      exact List.drop_eq_getElem_cons hl
    rw [hd] at a5
    have s4 := s3.wipe vs
    rw [wipe_idem] at s4
    refine ⟨{ F with pins := (Dl, .lst us) :: F.pins }, wipeE e2 vs, G3, d, _, hx, s4, b3, a5, fun e3 σ3 c1 c2 c3 => ⟨?_, ?_⟩⟩
    · rw [c3 vs hog, wipe_idem]
    have ws : L2.wipe σ3 vs = L2.wipe σ vs := by rw [c3 vs hog, wipe_idem]
    have wp : ∀ {e : En} {G H : Hp} {us : List V}, SI { F with pins := (Dl, .lst us) :: F.pins } e σ3 G H → SI { F with pins := (Dl, .lst us) :: F.pins } (wipeE e vs) (L2.wipe σ vs) G H := fun s => by
      rw [← ws]
      exact s.wipe vs
    refine ⟨{ F with pins := (Dl, .lst us) :: F.pins }, e3, G3, _, _, hx, c2, c1, fun k e4 G4 H4 d1 d2 d3 => ?_, fun _ _ _ _ _ _ z => z.elim⟩
    cases k with
    | false =>
      refine iteF ?_
      exact ⟨wipeE e4 vs, G4, acc, us, wp d2, (a2.trans b2.ex).trans d3, a3.mono (b2.ex.trans d3), by omega, lcL_wipe (bwipe acc) d1⟩
    | true =>
      refine iteT ?_
      refine ⟨{ F with pins := (Dl, .lst us) :: F.pins }, e4, G4, _, _, hx, d2, d1, fun d' e5 v5 G5 H5 f1 f2 f3 f4 => ?_, fun _ _ _ _ _ _ z => z.elim⟩
      obtain ⟨q1, q2, q3, q4⟩ := f2.pin (Dl, .lst us) List.mem_cons_self
      have hl : us.length = acc.length := a3.length
      have hz : (100000 : Nat) ≤ sizeLine := by decide
      exact ⟨us, q1, by omega, wipeE e5 vs, G5, acc ++ [d'], us ++ [v5], (wp f2).rePin hpd, ((a2.trans b2.ex).trans d3).trans f3, (a3.mono ((b2.ex.trans d3).trans f3)).append (.cons f4 .nil), by rw [List.length_append, List.length_singleton]; omega, lcL_wipe (bwipe _) f1⟩
  · intro H' ⟨e2, G2, acc, us, a1, a2, a3, a4, a5⟩
    have hd : ds.drop ds.length = [] := List.drop_length
    rw [hd] at a5
    have a5' : P (.lst acc) (backE e1 e2 vs) := a5
    obtain ⟨x2, s2⟩ := a1.unPin hpd
    obtain ⟨σ', g1, g2, g3, g4⟩ := back_si s1 (a2.trans x2) s2
    have eσ : σ' = σ := by
      apply List.ext_getElem?
      intro i
      by_cases hi : i ∈ vs
      · exact g3 i hi
      · rw [g1 i hi]
        exact wipe_out' hi
    rw [eσ] at g4
    exact hq _ _ _ _ _ a5' g4 (x1.trans (a2.trans x2)) (.lst upd_same (a3.mono x2))
theorem px_lc {elt tg iter : Expr} {ifs : List Expr} {scope : Scope} {own : List (Str × Nat)} {pos : Pos} {wi : WA} {g : WG} {wt : WT} {we : WE} (og : List Nat) (hc : X.calm = true) (hN : X.N.Nodup) (hi : PXI X W tg iter wi) (hb : BlkOk X.N X.env.scope scope own)
    (hg : ∀ (s : Shared) (H : Hp) (C : Addr) (cl : List (Str × Addr)) (fp : List Addr), PXG (X.blk s H scope (compEnvC scope cl C X.env) fp) tg og g)
    (ht : ∀ (s : Shared) (H : Hp) (C : Addr) (cl : List (Str × Addr)) (fp : List Addr), PXTs (X.blk s H scope (compEnvC scope cl C X.env) fp) ifs wt)
    (he : ∀ (s : Shared) (H : Hp) (C : Addr) (cl : List (Str × Addr)) (fp : List Addr), PX (X.blk s H scope (compEnvC scope cl C X.env) fp) W0 elt we)
    (hog : ∀ i ∈ og, i ∈ own.map (·.2) := by decide)
    (hf : ∀ x, foldedSetIterable iter X.env x = pure x := by intro _; rfl) : PX X W (.ListComp elt [{ target := tg, iter := iter, ifs := ifs, is_async := 0 }] scope pos) (wLc (own.map (·.2)) wi g wt we) := by
  obtain ⟨ti, i1, i2⟩ := hi.ex
  exact ⟨⟨_, pe_lc (g := tG X.K X.mg og g) (tt := tTs X.K X.mg W0 wt) (te := tE X.K X.mg W0 we) hc hN i1 hb (fun s H C cl fp => (hg s H C cl fp).can) (fun s H C cl fp => (ht s H C cl fp).ex) (fun s H C cl fp => (he s H C cl fp).can) hf, lc_run (tg := tg) (iter := iter) rfl rfl hog i2⟩⟩
/-- name = [..] on one line -/
def wsSet (i : Nat) (w : WE) : WS := fun env K => w env (fun d e => K.nx (e.set i (.v d))) K.ex
theorem pxs_setLc {i : Nat} {y : Str} {py : Pos} {elt tg iter : Expr} {ifs : List Expr} {scope : Scope} {own : List (Str × Nat)} {pos spos : Pos} {wi : WA} {g : WG} {wt : WT} {we : WE} (og : List Nat) (hc : X.calm = true) (hN : X.N.Nodup) (hy : X.N[i]? = some y) (hyl : X.env.scope.names.lookup y = some .local)
    (hsw : swapsWith (.ListComp elt [⟨tg, iter, ifs, 0⟩] scope pos) (some (.Name y py)) spos.line X.env = pure true) (hi : PXI X W tg iter wi) (hb : BlkOk X.N X.env.scope scope own)
    (hg : ∀ (s : Shared) (H : Hp) (C : Addr) (cl : List (Str × Addr)) (fp : List Addr), PXG (X.blk s H scope (compEnvC scope cl C X.env) fp) tg og g)
    (ht : ∀ (s : Shared) (H : Hp) (C : Addr) (cl : List (Str × Addr)) (fp : List Addr), PXTs (X.blk s H scope (compEnvC scope cl C X.env) fp) ifs wt)
    (he : ∀ (s : Shared) (H : Hp) (C : Addr) (cl : List (Str × Addr)) (fp : List Addr), PX (X.blk s H scope (compEnvC scope cl C X.env) fp) W0 elt we)
    (hog : ∀ i ∈ og, i ∈ own.map (·.2) := by decide)
    (hf : ∀ x, foldedSetIterable iter X.env x = pure x := by intro _; rfl) : PXS X W (.Assign [.Name y py] (.ListComp elt [⟨tg, iter, ifs, 0⟩] scope pos) spos) (wsSet i (wLc (own.map (·.2)) wi g wt we)) := by
  obtain ⟨ti, i1, i2⟩ := hi.ex
  refine ⟨⟨_, ps_setLc (g := tG X.K X.mg og g) (tt := tTs X.K X.mg W0 wt) (te := tE X.K X.mg W0 we) hc hN hy hyl hsw i1 hb (fun s H C cl fp => (hg s H C cl fp).can) (fun s H C cl fp => (ht s H C cl fp).ex) (fun s H C cl fp => (he s H C cl fp).can) hf, fun F env σ G H P Q hx hs hw hq => ?_⟩⟩
  exact lc_run (tg := tg) (iter := iter) rfl rfl hog i2 F env σ G H _ _ _ hx hs hw (fun d e1 v G1 H1 p s1 x1 r1 => hq.nx _ _ G1 H1 p (s1.set r1) x1) (hq.ex σ)
end
end Pu
set_option maxRecDepth 100000
/-! Rules of the pure layer: statements, loops, calls, defs -/
namespace Pu
open PySem L2 PySem.Spec PyProof.Rows
section
variable {X : Cx} {W : WX} {st : Stmt} {rest : List Stmt} {e : Expr} {w : WE} {pos : Pos}
def wsNext : WS := fun env K => K.nx env
def wsSeq (a b : WS) : WS := fun env K => a env { K with nx := fun e => b e K }
theorem pb_nil : PXB X W [] wsNext := ⟨⟨_, pss_nil, fun F env σ G H P Q hx hs hw hq => hq.nx env σ G H hw hs (Ex.refl _)⟩⟩
theorem pb_cons {a b : WS} (h : PXS X W st a) (g : PXB X W rest b) : PXB X W (st :: rest) (wsSeq a b) := by
  obtain ⟨t, a1, a2⟩ := h.ex
  obtain ⟨u, b1, b2⟩ := g.ex
  refine ⟨⟨_, pss_cons a1 b1, fun F env σ G H P Q hx hs hw hq => a2 F env σ G H _ _ hx hs hw ⟨fun e1 σ1 G1 H1 p s1 x1 => b2 F e1 σ1 G1 H1 P Q hx s1 p (hq.mono x1), hq.rt, hq.bk, hq.ct, hq.ex⟩⟩⟩
theorem pb_one {a : WS} (h : PXS X W st a) : PXB X W [st] a := by
  obtain ⟨t, a1, a2⟩ := h.ex
  exact ⟨⟨_, pss_one a1, a2⟩⟩
theorem ps_pass' : PXS X W (.Pass pos) wsNext := ⟨⟨_, ps_pass, fun F env σ G H P Q hx hs hw hq => hq.nx env σ G H hw hs (Ex.refl _)⟩⟩
def wsBreak : WS := fun env K => K.bk env
def wsCont : WS := fun env K => K.ct env
theorem ps_break' : PXS X W (.Break pos) wsBreak := ⟨⟨_, ps_break, fun F env σ G H P Q hx hs hw hq => hq.bk env σ G H hw hs (Ex.refl _)⟩⟩
theorem ps_cont' : PXS X W (.Continue pos) wsCont := ⟨⟨_, ps_continue, fun F env σ G H P Q hx hs hw hq => hq.ct env σ G H hw hs (Ex.refl _)⟩⟩
def wsNever : WS := fun _ _ => False
theorem ps_never' : PXS X W st wsNever := ⟨⟨_, ps_never, fun F env σ G H P Q hx hs hw hq => hw.elim⟩⟩
theorem pb_never {l : List Stmt} : PXB X W l wsNever := ⟨⟨_, pss_never, fun F env σ G H P Q hx hs hw hq => hw.elim⟩⟩
def wsDrop (w : WE) : WS := fun env K => w env (fun _ e => K.nx e) K.ex
theorem ps_expr' (h : PX X W e w) (hs : swapsWith e none pos.line X.env = pure false := by rfl) : PXS X W (.Expr e pos) (wsDrop w) := by
  obtain ⟨t, a1, a2⟩ := h.ex
  exact ⟨⟨_, ps_expr a1 hs, fun F env σ G H P Q hx hs hw hq => a2 F env σ G H _ _ _ hx hs hw (fun d e1 v G1 H1 p s1 x1 r1 => hq.nx e1 σ G1 H1 p s1 x1) (hq.ex σ)⟩⟩
def wsRet (w : WE) : WS := fun env K => w env (fun d _ => K.rt d) K.ex
theorem ps_ret' (h : PX X W e w) : PXS X W (.Return (some e) pos) (wsRet w) := by
  obtain ⟨t, a1, a2⟩ := h.ex
  exact ⟨⟨_, ps_ret a1, fun F env σ G H P Q hx hs hw hq => a2 F env σ G H _ _ _ hx hs hw (fun d e1 v G1 H1 p s1 x1 r1 => hq.rt d v e1 σ G1 H1 p s1 r1) (hq.ex σ)⟩⟩
def wsRetN : WS := fun _ K => K.rt .non
theorem ps_retN' : PXS X W (.Return none pos) wsRetN := ⟨⟨_, ps_retN, fun F env σ G H P Q hx hs hw hq => hq.rt .non .non env σ G H hw hs .non⟩⟩
def wsIf (c : WT) (a b : WS) : WS := fun env K => c env (fun k e => match k with | true => a e K | false => b e K) K.ex
theorem ps_if' {c : Expr} {l r : List Stmt} {wc : WT} {a b : WS} (hc : PXT X W c wc) (h : PXB X W l a) (g : PXB X W r b) : PXS X W (.If c l r pos) (wsIf wc a b) := by
  obtain ⟨t, c1, c2⟩ := hc.ex
  obtain ⟨u, a1, a2⟩ := h.ex
  obtain ⟨v, b1, b2⟩ := g.ex
  refine ⟨⟨_, ps_if c1 a1 b1, fun F env σ G H P Q hx hs hw hq => c2 F env σ G H _ _ _ hx hs hw (fun k e1 G1 H1 p s1 x1 => ?_) (hq.ex σ)⟩⟩
  cases k with
  | true => exact iteT (a2 F e1 σ G1 H1 P Q hx s1 p (hq.mono x1))
  | false => exact iteF (b2 F e1 σ G1 H1 P Q hx s1 p (hq.mono x1))
theorem ps_set' {i : Nat} {x : Str} {pos' : Pos} (hN : X.N.Nodup) (hi : X.N[i]? = some x) (hx : Loc X.env.scope x) (he : PX X W e w) (hs : swapsWith e (some (.Name x pos')) pos.line X.env = pure false := by rfl) (hf : X.fn x = true ∨ X.env.scope.names.lookup x = some .local := by first | exact .inl rfl | exact .inr rfl | assumption) :
    PXS X W (.Assign [.Name x pos'] e pos) (wsSet i w) := by
  obtain ⟨t, a1, a2⟩ := he.ex
  exact ⟨⟨_, ps_set hN hi hx a1 hs hf, fun F env σ G H P Q hx hs hw hq => a2 F env σ G H _ _ _ hx hs hw (fun d e1 v G1 H1 p s1 x1 r1 => hq.nx _ _ G1 H1 p (s1.set r1) x1) (hq.ex σ)⟩⟩
def wsPar (i j : Nat) (u : WA) : WS := fun env K => u env (fun ds e => match ds with | [d1, d2] => K.nx ((e.set i (.v d1)).set j (.v d2)) | _ => False) K.ex
theorem ps_par' {i j : Nat} {x y : Str} {a b : Expr} {u : WA} {px py pt : Pos} {kt k2 pt2} (hc : X.calm = true) (hN : X.N.Nodup) (hi : X.N[i]? = some x) (hj : X.N[j]? = some y) (hij : i ≠ j)
    (hx : X.env.scope.names.lookup x = some .local) (hy : X.env.scope.names.lookup y = some .local) (ha : PXA X W [a, b] u)
    (hw : swappedStores [.Tuple [.Name x px, .Name y py] kt pt] (.Tuple [a, b] k2 pt2) X.env = pure (some [x, y]))
    (hs : swapsWithSole [.Tuple [.Name x px, .Name y py] kt pt] (.Tuple [a, b] k2 pt2) pos.line X.env = pure false := by rfl) :
    PXS X W (.Assign [.Tuple [.Name x px, .Name y py] kt pt] (.Tuple [a, b] k2 pt2) pos) (wsPar i j u) := by
  obtain ⟨t, a1, a2⟩ := ha.ex
  refine ⟨⟨_, ps_par hc hN hi hj hij hx hy a1 hw hs, fun F env σ G H P Q hx hs hw hq => a2 F env σ G H _ _ _ hx hs hw (fun ds e1 vs G1 H1 p s1 x1 r1 => ?_) (hq.ex σ)⟩⟩
  match ds, p, r1 with
  | [d1, d2], p, r1 =>
    obtain ⟨v1, v2, rfl, q1, q2⟩ := r1.inv2
    exact ⟨v1, v2, rfl, hq.nx _ _ G1 H1 p ((s1.set q1).set q2) x1⟩
  | [], p, _ => exact p.elim
  | [_], p, _ => exact p.elim
  | _ :: _ :: _ :: _, p, _ => exact p.elim
def wsPar3 (i j k : Nat) (u : WA) : WS := fun env K => u env (fun ds e => match ds with | [d1, d2, d3] => K.nx (((e.set i (.v d1)).set j (.v d2)).set k (.v d3)) | _ => False) K.ex
/-- a target of any form -/
def wsAsg (w : WE) (g : WG) : WS := fun env K => w env (fun d e => g d e K.nx) K.ex
theorem ps_asg' {tg : Expr} {own : List Nat} {g : WG} (he : PX X W e w) (hg : PXG X tg own g) (hs : swapsWithSole [tg] e pos.line X.env = pure false := by rfl) (hw : swappedStores [tg] e X.env = pure none := by rfl)
    (h1 : (assignEach [tg] X.env).map (·.2) = [assign tg X.env] := by rfl) : PXS X W (.Assign [tg] e pos) (wsAsg w g) := by
  obtain ⟨t, a1, a2⟩ := he.ex
  obtain ⟨gt, g1, g2⟩ := hg.ex
  exact ⟨⟨_, ps_asg a1 g1 hs hw h1, fun F env σ G H P Q hx hs hw hq => a2 F env σ G H _ _ _ hx hs hw (fun d e1 v G1 H1 p s1 x1 r1 => g2 F e1 σ G1 H1 v d _ _ hx s1 r1 p fun e2 σ2 p2 s2 _ => hq.nx e2 σ2 G1 H1 p2 s2 x1) (hq.ex σ)⟩⟩

/-! ### loops -/
def wsForL (g : WG) (b : WS) (K : EnD) : List D → En → Prop
  | [], env => K.nx env
  | x :: xs, env => g x env fun e1 => b e1 { K with nx := fun e => wsForL g b K xs e, ct := fun e => wsForL g b K xs e, bk := K.nx }
def wsFor (wi : WA) (g : WG) (b : WS) : WS := fun env K => wi env (fun ds e => wsForL g b K ds e) K.ex
theorem ps_for' {tg iter : Expr} {body : List Stmt} {own : List Nat} {wi : WA} {g : WG} {b : WS} (hp : PassesOwn (model X.prog X.w) X.A X.env X.xe) (hc : X.calm = true) (hi : PXI X W tg iter wi) (hg : PXG X tg own g) (hb : PXB X W body b)
    (hf : ∀ x, foldedSetIterable iter X.env x = pure x := by intro _; rfl) : PXS X W (.For tg iter body [] pos) (wsFor wi g b) := by
  obtain ⟨ti, i1, i2⟩ := hi.ex
  obtain ⟨gt, g1, g2⟩ := hg.ex
  obtain ⟨tb, b1, b2⟩ := hb.ex
  refine ⟨⟨_, ps_for hp hc i1 g1 b1 hf, fun F env σ G H P Q hx hs hw hq => i2 F env σ G H _ _ _ hx hs hw (fun ds e1 J G1 H1 p1 s1 x1 wk => ?_) (hq.ex σ)⟩⟩
  obtain ⟨Gd, Y, w1, w2, w3⟩ := wk.ex
  refine for_it w1 (fun i σ' H' => ∃ (e2 : En) (G2 : Hp), SI F e2 σ' G2 H' ∧ Ex G1 G2 ∧ wsForL g b P (ds.drop i) e2) ⟨e1, G1, s1, Ex.refl _, p1⟩ (fun i σ' H' hi ⟨e2, G2, a1, a2, _⟩ => w2 G2 H' a2 a1.exG) ?_ ?_
  · intro i x σ' H' H'' hi ⟨e2, G2, a1, a2, a3⟩ hy
    obtain ⟨d, G3, c1, c2, c3⟩ := w3 i H' x H'' G2 hy a1.pre a2
    have hd : ds.drop i = d :: ds.drop (i + 1) := by
      obtain ⟨hl, e⟩ := List.getElem?_eq_some_iff.mp c1
      rw [← e]
      exact List.drop_eq_getElem_cons hl
    rw [hd] at a3
    have s3 := a1.step c2
    have x3 : Ex G1 G3 := a2.trans c2.ex
    refine g2 F e2 σ' G3 H'' x d _ _ hx s3 c3 a3 fun e3 σ3 p3 s4 _ => ?_
    refine b2 F e3 σ3 G3 H'' _ _ hx s4 p3 ⟨fun e4 σ4 G4 H4 p4 s5 x5 => ⟨e4, G4, s5, x3.trans x5, p4⟩, hq.rt, fun e4 σ4 G4 H4 p4 s5 x5 => hq.nx e4 σ4 G4 H4 p4 s5 ((x1.trans x3).trans x5), fun e4 σ4 G4 H4 p4 s5 x5 => ⟨e4, G4, s5, x3.trans x5, p4⟩, hq.ex⟩
  · intro σ' H' ⟨e2, G2, a1, a2, a3⟩
    have hd : ds.drop ds.length = [] := List.drop_length
    rw [hd] at a3
    exact hq.nx e2 σ' G2 H' a3 a1 (x1.trans a2)
/-- a while that ends within n turns -/
def wsWhN (c : WT) (b : WS) (K : EnD) : Nat → En → Prop
  | 0, _ => False
  | n + 1, env => c env (fun k e => match k with
    | true => b e { K with nx := wsWhN c b K n, ct := wsWhN c b K n, bk := K.nx }
    | false => K.nx e) K.ex
def wsWhile (c : WT) (b : WS) : WS := fun env K => ∃ n, wsWhN c b K n env
theorem ps_while' {c : Expr} {body : List Stmt} {wc : WT} {b : WS} (hp : PassesOwn (model X.prog X.w) X.A X.env X.xe) (hc : PXT X W c wc) (hb : PXB X W body b) : PXS X W (.While c body [] pos) (wsWhile wc b) := by
  obtain ⟨tc, c1, c2⟩ := hc.ex
  obtain ⟨tb, b1, b2⟩ := hb.ex
  refine ⟨⟨_, ps_while hp c1 b1, fun F env σ G H P Q hx hs hw hq => ?_⟩⟩
  obtain ⟨n, hw⟩ := hw
  refine ⟨fun m σ' H' => ∃ (e2 : En) (G2 : Hp), SI F e2 σ' G2 H' ∧ Ex G G2 ∧ wsWhN wc b P m e2, ⟨n, env, G, hs, Ex.refl _, hw⟩, ?_⟩
  intro m σ' H' ⟨e2, G2, a1, a2, a3⟩
  cases m with
  | zero => exact a3.elim
  | succ m =>
    refine c2 F e2 σ' G2 H' _ _ _ hx a1 a3 (fun k e3 G3 H3 p3 s3 x3 => ?_) (hq.ex σ')
    cases k with
    | false => exact iteF (hq.nx e3 σ' G3 H3 p3 s3 (a2.trans x3))
    | true =>
      refine iteT ⟨fun σ4 H4 => ∃ (e2 : En) (G2 : Hp), SI F e2 σ4 G2 H4 ∧ Ex G G2 ∧ wsWhN wc b P m e2, fun σ4 H4 h => ⟨m, Nat.lt_succ_self m, h⟩, ?_⟩
      exact b2 F e3 σ' G3 H3 _ _ hx s3 p3 ⟨fun e4 σ4 G4 H4 p4 s5 x5 => ⟨e4, G4, s5, (a2.trans x3).trans x5, p4⟩, hq.rt, fun e4 σ4 G4 H4 p4 s5 x5 => hq.nx e4 σ4 G4 H4 p4 s5 ((a2.trans x3).trans x5), fun e4 σ4 G4 H4 p4 s5 x5 => ⟨e4, G4, s5, (a2.trans x3).trans x5, p4⟩, hq.ex⟩
end

/-! ### defs: what they promise -/
abbrev FT := List D → (D → Prop) → (DX → Prop) → Prop
/-- the promise of a def of n parameters over data -/
def spP (K : PySem.W.Frag) (mg : Str → Option Value) (n : Nat) (F : FT) : Sp := fun vs H Q E => ∃ (b : Option Addr) (G : Hp) (ds : List D) (P : D → Prop) (R : DX → Prop), Pre ⟨K, mg, b⟩ G H ∧ Reps ⟨K, mg, b⟩ G vs ds ∧ ds.length = n ∧ F ds P R ∧
  (∀ d v G' H', P d → Post ⟨K, mg, b⟩ G H G' H' → Rep ⟨K, mg, b⟩ G' v d → Q v H') ∧ ∀ x cls dct G' H', R x → Post ⟨K, mg, b⟩ G H G' H' → RX ⟨K, mg, b⟩ G' x cls dct → E cls dct H'
theorem spP_len {K : PySem.W.Frag} {mg : Str → Option Value} {n : Nat} {F : FT} {vs : List V} {H : Hp} {Q : VK} {E : XK} (h : spP K mg n F vs H Q E) : vs.length = n := by
  obtain ⟨b, G, ds, P, R, _, r, hl, _⟩ := h
  rw [r.length, hl]
def startE (n : Nat) (ds : List D) : En := ds.map Sl.v ++ List.replicate (n - ds.length) Sl.no
theorem start_si {w : Wd} {G H : Hp} {vs : List V} {ds : List D} (N : List Str) (p : Pre w G H) (r : Reps w G vs ds) : SI ⟨w, G, H, []⟩ (startE N.length ds) (L2.start N vs) G H := by
  have hno : ∀ (j : Nat) (l : List D), (startE N.length ds)[j]? ≠ some (.ol l) := fun j l e => by
    unfold startE at e
    by_cases hj : j < ds.length
    · rw [List.getElem?_append_left (by simpa using hj), List.getElem?_map, List.getElem?_eq_getElem hj] at e
      cases e
    · rw [List.getElem?_append_right (by simpa using hj), List.getElem?_replicate] at e
      split at e <;> cases e
  refine ⟨p, Post.refl p, ?_, fun i s e => ?_, fun i j l l' a _ e _ _ => absurd e (hno i l), fun q hq => by cases hq⟩
  · unfold startE L2.start
    rw [List.length_append, List.length_map, List.length_replicate, List.length_append, List.length_map, List.length_replicate, r.length]
  · unfold startE at e
    by_cases hj : i < ds.length
    · rw [List.getElem?_append_left (by simpa using hj), List.getElem?_map, List.getElem?_eq_getElem hj] at e
      cases e
      obtain ⟨v, h1, h2⟩ := r.getD (List.getElem?_eq_getElem hj)
      refine ⟨v, ?_, h2⟩
      unfold L2.start
      rw [List.getElem?_append_left (by rw [List.length_map, r.length]; exact hj), List.getElem?_map, h1]
      rfl
    · rw [List.getElem?_append_right (by simpa using hj), List.getElem?_replicate] at e
      split at e
      · cases e
        trivial
      · cases e
section
variable {P : Program} {w : World} {K : PySem.W.Frag} {mg : Str → Option Value} {base : Heap}
abbrev WDef (E : XK) : WX := fun cls d _ H => E cls d H
/-- THE RULE: a def by its body -/
theorem def_ok {x qual : Str} {st : Stmt} {f : Addr} {fd : FuncData} {N ps : List Str} {k : Nat} {F : FT} (Fn : Fun K x qual st f fd) (S : FnScope N ps (defScope st))
    (body : ∀ (cdv : Value) (A : Around) (outer : List Env) (s : Shared) (H : Hp) (E : XK), Room k (A.deeper (envOfC qual (defScope st) s.heap.objs.size f cdv)) →
      ∃ ws : WS, PXB (cxOf (L2.CX P w) P w K mg base N qual (defScope st) f cdv A outer s H E) (WDef E) (defBody st) ws ∧
        ∀ (ds : List D) (Pd : D → Prop) (R : DX → Prop), ds.length = ps.length → F ds Pd R → ws (startE N.length ds) { nx := fun _ => Pd .non, rt := Pd, ex := fun x _ => R x }) :
    FnOk P w K mg base (L2.CX P w) (k + 1) f fd ps (spP K mg ps.length F) := by
  refine Fn.okX S (fun vs H Q E h => spP_len h) (fun cdv A outer s H vs Q E hr h => ?_)
  obtain ⟨b, G, ds, Pd, R, hp, r, hl, hF, h1, h2⟩ := h
  obtain ⟨ws, hb, hw⟩ := body cdv A outer s H E hr
  obtain ⟨t, t1, t2⟩ := hb.ex
  refine ⟨t, t1, t2 ⟨⟨K, mg, b⟩, G, H, []⟩ (startE N.length ds) (L2.start N vs) G H _ _ ⟨rfl, rfl⟩ (start_si N hp r) (hw ds Pd R hl hF) ?_⟩
  exact ⟨fun e1 σ1 G1 H1 p s1 x1 => h1 .non .non G1 H1 p s1.post .non, fun d v e1 σ1 G1 H1 p s1 r1 => h1 d v G1 H1 p s1.post r1, fun _ _ _ _ z => z.elim, fun _ _ _ _ z => z.elim, fun σ1 x e1 cls dct G1 H1 p s1 rx => h2 x cls dct G1 H1 p s1.post rx⟩
end

/-! ### calls -/
def wCall (F : FT) (dd : List D) (u : WA) : WE := fun env P R => u env (fun ds e => F (ds ++ dd) (fun d => P d e) fun x => R x e) R
section
variable {X : Cx} {W : WX} {k n : Nat} {f : Addr} {fd : FuncData} {ps : List Str} {F : FT} {x : Str} {p pos : Pos} {e : Expr} {es : List Expr} {u : WA} {ds : List Value} {dvs : List V} {dd : List D}
theorem call_run {Fc' : Fc} {env : En} {σ : L2.St} {G H : Hp} {vs : List V} {as : List D} {P : D → En → Prop} {R : QX} {Q : VK} (hx : XOk X Fc') (hn : (as ++ dd).length = n) (hdd : ∀ (w : Wd) (G : Hp), Reps w G dvs dd) (s1 : SI Fc' env σ G H) (r1 : Reps Fc'.wd G vs as) (p1 : F (as ++ dd) (fun d => P d env) fun x => R x env)
    (hq : ∀ d env' v G' H', P d env' → SI Fc' env' σ G' H' → Ex G G' → Rep Fc'.wd G' v d → Q v H') (hk : XK' Fc' W σ R) : spP X.K X.mg n F (vs ++ dvs) H Q (L2.WE W σ) := by
  obtain ⟨⟨K, mg, b⟩, G0, H0, pins⟩ := Fc'
  obtain ⟨h1, h2⟩ := hx
  cases h1
  cases h2
  exact ⟨b, G, as ++ dd, _, _, s1.pre, r1.append (hdd _ _), hn, p1, fun d v G' H' p po r => hq d env v G' H' p (s1.step po) po.ex r, fun x cls dct G' H' p po r => hk x env cls dct G' H' p (s1.step po) r⟩
theorem px_call (Fn : FnOk X.prog X.w X.K X.mg X.base (L2.CX X.prog X.w) k f fd ps (spP X.K X.mg n F)) (hr : Room k X.A) (hg : Gl X x) (hm : X.mg x = some (.ref f)) (hk : PySem.W.keepIn X.K (.ref f) = true) (hb : Binds X.K fd ps ds) (hd : Vals dvs ds) (hdd : ∀ (w : Wd) (G : Hp), Reps w G dvs dd) (tk : Takes X W)
    (ha : PXA X W (e :: es) u) (hn : (e :: es).length + dd.length = n) (hdb : (x == ("__debug__" : Str)) = false := by decide) (he : starEach (e :: es) X.env = (false, eval e X.env) :: starEach es X.env := by rfl) (hpl : (backTo pos (starEach es X.env)).any (·.1) = false := by rfl) :
    PX X W (.Call (.Name x p) (e :: es) [] pos) (wCall (fun ds P R => ds.length = n ∧ F ds P R) dd u) := by
  obtain ⟨t, a1, a2⟩ := ha.ex
  refine ⟨⟨_, pe_callSD Fn hr hg hm hk hb hd (fun σ => passAt tk σ) a1 hdb he hpl, fun Fc' env σ G H P R Q hx hs hw hq hk => a2 Fc' env σ G H _ R _ hx hs hw (fun as e1 vs G1 H1 p1 s1 x1 r1 => ?_) hk⟩⟩
  exact call_run hx p1.1 hdd s1 r1 p1.2 (fun d e' v G' H' p s x r => hq d e' v G' H' p s (x1.trans x) r) hk
/-- no defaults -/
theorem px_call' (Fn : FnOk X.prog X.w X.K X.mg X.base (L2.CX X.prog X.w) k f fd ps (spP X.K X.mg n F)) (hr : Room k X.A) (hg : Gl X x) (hm : X.mg x = some (.ref f)) (hk : PySem.W.keepIn X.K (.ref f) = true) (hb : Binds X.K fd ps []) (tk : Takes X W)
    (ha : PXA X W (e :: es) u) (hn : (e :: es).length = n) (hdb : (x == ("__debug__" : Str)) = false := by decide) (he : starEach (e :: es) X.env = (false, eval e X.env) :: starEach es X.env := by rfl) (hpl : (backTo pos (starEach es X.env)).any (·.1) = false := by rfl) :
    PX X W (.Call (.Name x p) (e :: es) [] pos) (wCall (fun ds P R => ds.length = n ∧ F ds P R) [] u) :=
  px_call Fn hr hg hm hk hb .nil (fun _ _ => .nil) tk ha (by rw [← hn]; rfl) hdb he hpl
end
end Pu
set_option maxRecDepth 100000
/-! Rules of the pure layer: zip, enumerate, join, a keyword; the law's bag -/
namespace Pu
open PySem L2 PySem.Spec PyProof.Rows
section
variable {X : Cx} {W : WX}
theorem pair_wk {w : Wd} {G2 H2 H3 : Hp} {T : Addr} {x y : V} {dx dy : D} (hp : Pre w G2 H2) (hn : H2 T = none) (e : H3 = upd H2 T (.tup [x, y])) (rx : Rep w G2 x dx) (ry : Rep w G2 y dy) : ∃ G3, Post w G2 H2 G3 H3 ∧ Rep w G3 (.ref T) (.tup [dx, dy]) := by
  subst e
  have po := Post.new1 (o := .tup [x, y]) hp hn
  exact ⟨_, po, .tup (.inl (.inl upd_same)) (.cons (rx.mono po.ex) (.cons (ry.mono po.ex) .nil))⟩
def zipD (a b : List D) : List D := List.zipWith (fun x y => .tup [x, y]) a b
theorem zipD_get {a b : List D} {i : Nat} {x y : D} (h1 : a[i]? = some x) (h2 : b[i]? = some y) : (zipD a b)[i]? = some (.tup [x, y]) := by
  unfold zipD
  rw [List.getElem?_zipWith, h1, h2]
theorem zipD_length (a b : List D) : (zipD a b).length = min a.length b.length := by
  unfold zipD
  rw [List.length_zipWith]
theorem walk_zipT {K : PySem.W.Frag} {a b : Addr} {xs ys : List V} {n : Nat} (hn : n = min xs.length ys.length) : Walk (RZ.ItzT K a b) n (fun H => SqT K H a xs ∧ SqT K H b ys) (YPair (fun i => xs[i]?) (fun i => ys[i]?)) := by
  subst hn
  refine ⟨fun i _ hi q => ?_, fun _ q => ⟨xs, ys, q.1, q.2, by omega⟩, fun i H v H' _ q y => ?_⟩
  · have h1 : i < xs.length := by omega
    have h2 : i < ys.length := by omega
    exact ⟨xs, ys, xs[i], ys[i], q.1, q.2, by simp [h1], by simp [h2]⟩
  · obtain ⟨T, x, z, h1, h2, h3, h4, h5⟩ := y
    exact ⟨T, x, z, h1, h2, h3, h4 xs q.1, h5 ys q.2⟩
def wZip (wa wb : WE) : WA := fun env P R => wa env (fun d1 e1 => wb e1 (fun d2 e2 => match d1, d2 with
  | .lst a, .lst b => P (zipD a b) e2
  | .tup a, .tup b => P (zipD a b) e2
  | _, _ => False) R) R
theorem pair_walk {F : Fc} {G1 : Hp} {J : It} {xs ys : List V} {a b : List D} {Gd : Hp → Prop} (r1 : Reps F.wd G1 xs a) (r2 : Reps F.wd G1 ys b) (hg : ∀ G2 H2, Ex G1 G2 → Ex G2 H2 → Gd H2) (w : Walk J (min xs.length ys.length) Gd (YPair (fun i => xs[i]?) (fun i => ys[i]?))) : Wk F G1 J (zipD a b) := by
  refine ⟨⟨Gd, _, by rw [zipD_length, ← r1.length, ← r2.length]; exact w, hg, fun i H2 v H3 G2 y hp x => ?_⟩⟩
  obtain ⟨T, u, z, rfl, hn, e, e1, e2⟩ := y
  obtain ⟨d1, q1, q2⟩ := r1.get e1
  obtain ⟨d2, q3, q4⟩ := r2.get e2
  obtain ⟨G3, po, r⟩ := pair_wk hp hn e (q2.mono x) (q4.mono x)
  exact ⟨_, G3, zipD_get q1 q3, po, r⟩
theorem pi_zip2 {e e2 : Expr} {wa wb : WE} {p pos tpos : Pos} {elts : List Expr} {kk : Nat} (hg : Gl X "zip") (hm : X.mg "zip" = none) (hc : X.calm = true) (h1 : PX X W e wa) (h2 : PX X W e2 wb)
    (hs : starEach [e, e2] X.env = (false, eval e X.env) :: starEach [e2] X.env := by rfl) (hs2 : starEach [e2] X.env = (false, eval e2 X.env) :: starEach [] X.env := by rfl) (hpl : (backTo pos (starEach [e2] X.env)).any (·.1) = false := by rfl) :
    PXI X W (.Tuple elts kk tpos) (.Call (.Name "zip" p) [e, e2] [] pos) (wZip wa wb) := by
  obtain ⟨ta, a1, a2⟩ := h1.ex
  obtain ⟨tb, b1, b2⟩ := h2.ex
  refine ⟨⟨_, RZ.pi_zipA hg hm (pa_cons a1 (pa_cons b1 pa_nil hs2) hs) hs hpl, fun F env σ G H P R Rq hx hs hw hq hk => a2 F env σ G H _ R _ hx hs hw (fun d1 e1 v1 G1 H1 p1 s1 x1 r1 => b2 F e1 σ G1 H1 _ R _ hx s1 p1 (fun d2 e2 v2 G2 H2 p2 s2 x2 r2 => ?_) hk) hk⟩⟩
  have r1' := r1.mono x2
  split at p2
  · cases r1' with
    | lst l1 l2 =>
    cases r2 with
    | lst m1 m2 =>
    exact ⟨_, _, _, _, rfl, .inl ⟨SqL.of (s2.exG _ _ l1), SqL.of (s2.exG _ _ m1), hq _ e2 _ G2 H2 p2 s2 (x1.trans x2) (pair_walk l2 m2 (fun G3 H3 y z => ⟨SqL.of (z _ _ (y _ _ l1)), SqL.of (z _ _ (y _ _ m1))⟩) (walk_zip rfl))⟩⟩
  · cases r1' with
    | tup l1 l2 =>
    cases r2 with
    | tup m1 m2 =>
    rw [hx.1] at l1 m1
    exact ⟨_, _, _, _, rfl, .inr ⟨s2.exG.t l1, s2.exG.t m1, hq _ e2 _ G2 H2 p2 s2 (x1.trans x2) (pair_walk l2 m2 (fun G3 H3 y z => ⟨z.t (y.t l1), z.t (y.t m1)⟩) (walk_zipT rfl))⟩⟩
  · exact p2.elim
def enumD (a : List D) : List D := (List.range a.length).zipWith (fun i x => .tup [.int (i : Nat), x]) a
def wEnum (wa : WE) : WA := fun env P R => wa env (fun d1 e1 => match d1 with
  | .lst a => P (enumD a) e1
  | _ => False) R
theorem pi_enum1 {e : Expr} {wa : WE} {p pos tpos : Pos} {elts : List Expr} {kk : Nat} (hg : Gl X "enumerate") (hm : X.mg "enumerate" = none) (hc : X.calm = true) (h1 : PX X W e wa)
    (hs : starEach [e] X.env = [(false, eval e X.env)] := by rfl) : PXI X W (.Tuple elts kk tpos) (.Call (.Name "enumerate" p) [e] [] pos) (wEnum wa) := by
  obtain ⟨ta, a1, a2⟩ := h1.ex
  refine ⟨⟨_, pi_enum hg hm (pa_cons a1 pa_nil hs) hs, fun F env σ G H P R Rq hx hs hw hq hk => a2 F env σ G H _ R _ hx hs hw (fun d1 e1 v1 G1 H1 p1 s1 x1 r1 => ?_) hk⟩⟩
  split at p1
  · rename_i dl
    cases r1 with
    | @lst a0 vs _ l1 l2 =>
    have hl : (enumD dl).length = vs.length := by
      unfold enumD
      rw [List.length_zipWith, List.length_range, l2.length, Nat.min_self]
    refine ⟨_, _, rfl, SqL.of (s1.exG _ _ l1), hq _ e1 _ G1 H1 p1 s1 x1 ⟨⟨fun H => SqL X.K H a0 vs, fun i H v H' => ∃ T x, v = .ref T ∧ H T = none ∧ H' = upd H T (.tup [.int (i : Nat), x]) ∧ vs[i]? = some x, ?_, fun G3 H3 y z => SqL.of (z _ _ (y _ _ l1)), fun i H2 v H3 G2 y hp x => ?_⟩⟩⟩
    · rw [hl]
      exact walk_enum.mono (fun _ h => h) fun i H v H' _ _ y => by
        obtain ⟨T, x, z, h1, h2, h3, h4, h5⟩ := y
        cases h4
        exact ⟨T, z, h1, h2, h3, h5⟩
    · obtain ⟨T, z, rfl, hn, e, e1⟩ := y
      obtain ⟨d1, q1, q2⟩ := l2.get e1
      obtain ⟨G3, po, r⟩ := pair_wk hp hn e (.int (i := (i : Nat))) (q2.mono x)
      refine ⟨_, G3, ?_, po, r⟩
      unfold enumD
      rw [List.getElem?_zipWith, q1, List.getElem?_range (List.getElem?_eq_some_iff.mp q1).1]
  · exact p1.elim
/-! ### methods of texts -/
abbrev RDM := D → List D → (D → Prop) → Prop
def wM1 (r : RDM) (wo wa : WE) : WE := fun env P R => wo env (fun o e1 => match o with
  | .str s => wa e1 (fun d e2 => r (.str s) [d] fun z => P z e2) R
  | _ => False) R
def strsOf : List D → Option (List Str)
  | [] => some []
  | .str b :: l => (strsOf l).map (b :: ·)
  | _ :: _ => none
theorem strsOf_ok {w : Wd} {G : Hp} : ∀ {vs : List V} {l : List D} {bs : List Str}, Reps w G vs l → strsOf l = some bs → vs = bs.map V.str
  | _, _, bs, .nil, e => by cases e; rfl
  | _, .str b :: l, bs, .cons r t, e => by
    unfold strsOf at e
    cases e2 : strsOf l with
    | none => rw [e2] at e; cases e
    | some cs =>
      rw [e2] at e
      cases e
      cases r
      rw [strsOf_ok t e2]
      rfl
  | _, .non :: l, bs, .cons r t, e => by cases e
  | _, .int _ :: l, bs, .cons r t, e => by cases e
  | _, .bl _ :: l, bs, .cons r t, e => by cases e
  | _, .lst _ :: l, bs, .cons r t, e => by cases e
  | _, .tup _ :: l, bs, .cons r t, e => by cases e
  | _, .bag :: l, bs, .cons r t, e => by cases e
  | _, .ins _ _ :: l, bs, .cons r t, e => by cases e
def rdJoin : RDM := fun o ds P => match o, ds with
  | .str a, [.lst l] => ∃ ys, strsOf l = some ys ∧ (ys.map (·.length)).sum + ys.length * a.length ≤ 16777216 ∧ P (.str (Txt.join a ys))
  | .str a, [.tup l] => ∃ ys, strsOf l = some ys ∧ (ys.map (·.length)).sum + ys.length * a.length ≤ 16777216 ∧ P (.str (Txt.join a ys))
  | _, _ => False
theorem px_join {o e : Expr} {wo wa : WE} {apos pos : Pos} (ho : PX X W o wo) (he : PX X W e wa) (hs : starEach [e] X.env = [(false, eval e X.env)] := by rfl) (hbase : attributeBase o "join" X.env (eval o X.env) = eval o X.env := by rfl) (hline : (apos.endLine == pos.line) = true := by rfl) :
    PX X W (.Call (.Attribute o "join" apos) [e] [] pos) (wM1 rdJoin wo wa) := by
  obtain ⟨t, a1, a2⟩ := ho.ex
  obtain ⟨u, b1, b2⟩ := he.ex
  refine ⟨⟨_, pe_join a1 b1 hs hbase hline, fun F env σ G H P R Q hx hs hw hq hk => a2 F env σ G H _ R _ hx hs hw (fun d1 e1 v1 G1 H1 p1 s1 x1 r1 => ?_) hk⟩⟩
  cases d1 <;> first | exact p1.elim | skip
  refine ⟨⟨_, r1.asStr⟩, b2 F e1 σ G1 H1 _ R _ hx s1 p1 (fun d2 e2 v2 G2 H2 p2 s2 x2 r2 => ?_) hk⟩
  · cases r1
    cases r2 <;> first | exact p2.elim | skip
    · rename_i l1 l2
      obtain ⟨ys, h1, h2, h3⟩ := p2
      have e := strsOf_ok l2 h1
      subst e
      exact ⟨_, _, ys, rfl, rfl, .inl (SqL.of (s2.exG _ _ l1)), h2, hq _ e2 _ G2 H2 h3 s2 (x1.trans x2) .str⟩
    · rename_i l1 l2
      obtain ⟨ys, h1, h2, h3⟩ := p2
      have e := strsOf_ok l2 h1
      subst e
      exact ⟨_, _, ys, rfl, rfl, .inr (by rw [← hx.1]; exact s2.exG.t l1), h2, hq _ e2 _ G2 H2 h3 s2 (x1.trans x2) .str⟩
end
end Pu
set_option maxRecDepth 100000
/-! The law's bag and its draws, by hand -/
namespace Pu
open PySem L2 PySem.Spec PyProof.Rows

abbrev oAdd : R2 := rI0 fun i j => .int (i + j)
abbrev oMul : R2 := rI CMul fun i j => .int (i * j)
abbrev oMod : R2 := rI (fun _ j => 0 < j) fun i j => .int (i % j)
abbrev oDiv : R2 := rI CDiv fun i j => .int (i / j)
abbrev oDivW : R2 := rI CDivW fun i j => .int (i / j)
abbrev oPow : R2 := rI CPow fun i j => .int (i ^ j.toNat)
abbrev oLt : R2 := rI0 fun i j => .bl (decide (i < j))
abbrev oGt : R2 := rI0 fun i j => .bl (decide (j < i))
abbrev oGe : R2 := rI0 fun i j => .bl (decide (j ≤ i))
abbrev rInt1 : List V → Hp → VK → Prop := fun xs H Q => (∃ i, xs = [.int i] ∧ Q (.int i) H) ∨ ∃ k, xs = [.bl k] ∧ Q (.int (if k then 1 else 0)) H
abbrev rLenQ (K : PySem.W.Frag) : List V → Hp → VK → Prop := fun xs H Q => ∃ p ys, xs = [.ref p] ∧ (SqL K H p ys ∨ SqT K H p ys) ∧ Q (.int ys.length) H
section
variable (K : PySem.W.Frag)
abbrev tBag (i : Int) : TE := tOp (rIxL K) (tVar 0) (tC (.int i))
abbrev tBagSet (i : Int) (te : TE) : TS := tAsg te (gSub (tVar 0) (tC (.int i)) rSetL)
abbrev tInt (te : TE) : TE := tCB rInt1 (tCons te tNil)
def t_draw1 : TS := tBagSet 4 (tOp oAdd (tBag K 4) (tC (.int 1)))
def t_draw2 : TS := tIfS (tAnd (tTest (tOp rEq (tBag K 2) (tC (.int 0)))) (tTest (tOp oLt (tBag K 1) (tCB (rLenQ K) (tCons (tBag K 0) tNil)))))
  (tSeq (tAsg (tOp (rIxL K) (tBag K 0) (tBag K 1)) (gName 2)) (tSeq (tBagSet 1 (tOp oAdd (tBag K 1) (tC (.int 1))))
    (tIfS (tTest (tOp oGe (tVar 2) (tOp oPow (tC (.int 10)) (tC (.int 18))))) (tBagSet 2 (tVar 2))
      (tBagSet 3 (tOp oMod (tInt (tOp oAdd (tOp oAdd (tOp oMul (tBag K 3) (tC (.int 40013))) (tOp oMul (tOp oMod (tInt (tVar 2)) (tC (.int 2147483563))) (tC (.int 6967)))) (tC (.int 53)))) (tC (.int 2147483587))))))) tNext
def t_draw3 : TS := tIfS (tTest (tOp oGt (tBag K 2) (tC (.int 0)))) (tSeq (tAsg (tOp oMod (tInt (tBag K 2)) (tVar 1)) (gName 3)) (tSeq (tBagSet 2 (tOp oDivW (tBag K 2) (tVar 1))) (tRet (tVar 3)))) tNext
def t_draw4 : TS := tSeq (tAsg (tInt (tBag K 3)) (gName 4)) (tSeq (tBagSet 3 (tOp oMod (tInt (tOp oAdd (tOp oAdd (tOp oAdd (tOp oPow (tVar 4) (tC (.int 3))) (tOp oMul (tVar 4) (tC (.int 30029)))) (tOp oMul (tBag K 4) (tC (.int 1299827)))) (tC (.int 70001)))) (tC (.int 2147483587))))
  (tRet (tOp oMod (tInt (tOp oAdd (tOp oDiv (tBag K 3) (tC (.int 71))) (tOp oMul (tOp oMod (tInt (tBag K 3)) (tC (.int 7907))) (tC (.int 61))))) (tVar 1))))
def t_draw : TS := tSeq (t_draw1 K) (tSeq (t_draw2 K) (tSeq (t_draw3 K) (t_draw4 K)))
end
theorem r_bag {K : PySem.W.Frag} {σ : L2.St} {H : Hp} {Q : VK} {b : Addr} {xs : List V} {i : Int} {v : V} (hb : H b = some (.lst xs)) (h0 : σ[0]? = some (some (.ref b))) (e : atI xs i = some v) (q : Q v H) : tBag K i σ H Q := ⟨_, h0, b, xs, i, v, rfl, rfl, SqL.of hb, e, q⟩
theorem r_set {σ : L2.St} {H : Hp} {D : Ends} {te : TE} {b : Addr} {i : Int} (h : te σ H fun v H1 => σ[0]? = some (some (.ref b)) ∧ ∃ xs j, H1 b = some (.lst xs) ∧ ixN xs.length i = some j ∧ D.nx σ (upd H1 b (.lst (xs.set j v)))) (m : ∀ Q Q' : VK, (∀ v H1, Q v H1 → Q' v H1) → te σ H Q → te σ H Q') : tBagSet i te D σ H := by
  refine m _ _ (fun v H1 q => ?_) h
  obtain ⟨h0, xs, j, h1, h2, h3⟩ := q
  exact ⟨_, h0, b, xs, i, j, rfl, rfl, h1, h2, h3⟩

/-- a draw: any number from 0 below the many -/
def F_draw : FT := fun ds P _ => ∃ m : Int, ds = [.bag, .int m] ∧ 0 < m ∧ m.natAbs.log2 < 9000 ∧ ∀ v, 0 ≤ v → v < m → P (.int v)
theorem Post.bagUpd {w : Wd} {G H H' : Hp} {b : Addr} (p : Pre w G H) (hb : w.b = some b) (h : ∀ a, a ≠ b → H' a = H a) (bg : Bag w.K G H' b) (hn : H' b ≠ none) : Post w G H G H' := by
  have g0 := (p.bag b hb).1
  refine ⟨Ex.refl _, fun a o ha => ?_, fun a o hne ha => ?_, fun a ha => .inl ha, fun β hβ => ?_⟩
  · rw [h a (ne_of_none ha g0)]
    exact p.exG _ _ ha
  · rw [h a (fun z => hne (by rw [hb, z]))]
    exact ha
  · rw [hb] at hβ
    cases hβ
    exact ⟨g0, hn, bg⟩
theorem pure_draw {K : PySem.W.Frag} {mg : Str → Option Value} {vs : List V} {H : Hp} {Q : VK} {E : XK} {N : List Str} (hN : N.length = 5) (h : spP K mg 2 F_draw vs H Q E) : t_draw K { nx := fun _ H' => Q .non H', rt := Q } (L2.start N vs) H := by
  obtain ⟨bo, G, ds, P, R, pre, rs, hl, ⟨m, rfl, hm, hm2, hP⟩, hq, _⟩ := h
  obtain ⟨v1, v2, rfl, r1, r2⟩ := rs.inv2
  cases r2
  cases r1 with
  | @bag b hb =>
  have hb : bo = some b := hb
  subst hb
  obtain ⟨g0, hn0, bg⟩ := pre.bag b rfl
  obtain ⟨c, ns, i, r, mm, n, h1, h2, h3, h4, h5, h6⟩ := bg.ex
  have hσ : L2.start N [.ref b, .int m] = [some (.ref b), some (.int m), none, none, none] := by
    unfold L2.start
    rw [hN]
    rfl
  rw [hσ]
  -- the bag with other numbers in it
  have bagB : ∀ (i' r' m' n' : Int) (Hx : Hp), Hx b = some (.lst [.ref c, .int i', .int r', .int m', .int n']) → 0 ≤ i' → 0 ≤ r' → 0 ≤ m' → m' < 2147483648 → Bag K G Hx b := fun i' r' m' n' Hx e a1 a2 a3 a4 => ⟨c, ns, i', r', m', n', e, h2, a1, a2, a3, a4⟩
  have fin : ∀ (i' r' m' n' : Int) (Hx : Hp) (v : Int), Hx b = some (.lst [.ref c, .int i', .int r', .int m', .int n']) → (∀ a, a ≠ b → Hx a = H a) → 0 ≤ i' → 0 ≤ r' → 0 ≤ m' → m' < 2147483648 → 0 ≤ v → v < m → Q (.int v) Hx := fun i' r' m' n' Hx v e k a1 a2 a3 a4 a5 a6 =>
    hq (.int v) (.int v) G Hx (hP v a5 a6) (Post.bagUpd pre rfl k (bagB i' r' m' n' Hx e a1 a2 a3 a4) (by rw [e]; simp)) .int
  have lst : ∀ (Hx : Hp), (∀ a, a ≠ b → Hx a = H a) → SqL K Hx c (ns.map V.int) := fun Hx k => by
    refine Ex.l (fun a o ha => ?_) h2
    rw [k a (ne_of_none ha g0)]
    exact pre.exG _ _ ha
  have u1 : ∀ {Hx : Hp} {o : HO}, (∀ a, a ≠ b → Hx a = H a) → ∀ a, a ≠ b → (upd Hx b o) a = H a := fun k a ha => by
    rw [upd_ne ha]
    exact k a ha
  -- the last two parts, from any numbers
  have part4 : ∀ (i' r' m' n' : Int) (x2 x3 : Option V) (Hx : Hp), Hx b = some (.lst [.ref c, .int i', .int r', .int m', .int n']) → (∀ a, a ≠ b → Hx a = H a) → 0 ≤ i' → 0 ≤ r' → 0 ≤ m' → m' < 2147483648 →
      t_draw4 K { nx := fun _ H' => Q .non H', rt := Q } [some (.ref b), some (.int m), x2, x3, none] Hx := by
    intro i' r' m' n' x2 x3 Hx e k a1 a2 a3 a4
    refine r_bag e rfl rfl (.inl ⟨_, rfl, ?_⟩)
    refine ⟨_, rfl, _, _, rfl, rfl, ⟨by decide, by decide, by omega⟩, _, rfl, _, _, rfl, rfl, .inr ⟨by decide, by decide⟩, _, _, rfl, rfl, r_bag e rfl rfl ⟨_, _, rfl, rfl, .inr ⟨by decide, by decide⟩, _, _, rfl, rfl, _, _, rfl, rfl, .inl ⟨_, rfl, _, _, rfl, rfl, (by show (0 : Int) < _; decide), ?_⟩⟩⟩
    refine ⟨_, rfl, b, _, 4 - 1, 3, rfl, rfl, e, rfl, ?_⟩
    have q := Int.emod_nonneg (m' ^ (3 : Int).toNat + m' * 30029 + n' * 1299827 + 70001) (show (2147483587 : Int) ≠ 0 by decide)
    have q2 := Int.emod_lt_of_pos (m' ^ (3 : Int).toNat + m' * 30029 + n' * 1299827 + 70001) (show (0 : Int) < 2147483587 by decide)
    refine r_bag (upd_same) rfl rfl ⟨_, _, rfl, rfl, ⟨by decide, by decide⟩, r_bag upd_same rfl rfl (.inl ⟨_, rfl, _, _, rfl, rfl, (by show (0 : Int) < _; decide), _, _, rfl, rfl, .inr ⟨by decide, by decide⟩, _, _, rfl, rfl, .inl ⟨_, rfl, _, rfl, _, _, rfl, rfl, hm, ?_⟩⟩)⟩
    exact fin i' r' _ n' _ _ upd_same (u1 k) a1 a2 q (by omega) (Int.emod_nonneg _ (by omega)) (Int.emod_lt_of_pos _ hm)
  have part3 : ∀ (i' r' m' n' : Int) (x2 : Option V) (Hx : Hp), Hx b = some (.lst [.ref c, .int i', .int r', .int m', .int n']) → (∀ a, a ≠ b → Hx a = H a) → 0 ≤ i' → 0 ≤ r' → 0 ≤ m' → m' < 2147483648 →
      t_draw3 K { nx := t_draw4 K { nx := fun _ H' => Q .non H', rt := Q }, rt := Q } [some (.ref b), some (.int m), x2, none, none] Hx := by
    intro i' r' m' n' x2 Hx e k a1 a2 a3 a4
    refine r_bag e rfl rfl ⟨_, _, rfl, rfl, _, rfl, ?_⟩
    refine ite2 (fun hc => ?_) (fun _ => part4 i' r' m' n' x2 none Hx e k a1 a2 a3 a4)
    refine r_bag e rfl rfl (.inl ⟨_, rfl, _, rfl, _, _, rfl, rfl, hm, ?_⟩)
    refine r_bag e rfl rfl ⟨_, rfl, _, _, rfl, rfl, ⟨hm, hm2⟩, _, rfl, b, _, 2, 2, rfl, rfl, e, rfl, _, rfl, ?_⟩
    exact fin i' _ m' n' _ _ upd_same (u1 k) a1 (Int.ediv_nonneg a2 (by omega)) a3 a4 (Int.emod_nonneg _ (by omega)) (Int.emod_lt_of_pos _ hm)
  -- the first two
  refine r_bag h1 rfl rfl ⟨_, _, rfl, rfl, _, rfl, b, _, 4, 4, rfl, rfl, h1, rfl, ?_⟩
  have k1 : ∀ a, a ≠ b → (upd H b (.lst [.ref c, .int i, .int r, .int mm, .int (n + 1)])) a = H a := u1 fun _ _ => rfl
  refine r_bag upd_same rfl rfl ⟨rfl, _, rfl, ?_⟩
  refine ite2 (fun hc => ?_) (fun _ => ?_)
  · refine r_bag upd_same rfl rfl (r_bag upd_same rfl rfl ⟨_, _, rfl, .inl (lst _ k1), _, _, rfl, rfl, _, rfl, ?_⟩)
    refine ite2 (fun hc2 => ?_) (fun _ => part3 i r mm (n + 1) none _ upd_same k1 h3 h4 h5 h6)
    have hlt : i < ((ns.map V.int).length : Int) := of_decide_eq_true hc2
    rw [List.length_map] at hlt
    obtain ⟨z, hz⟩ : ∃ z, ns[i.toNat]? = some z := ⟨_, List.getElem?_eq_getElem (by omega)⟩
    refine r_bag upd_same rfl rfl (r_bag upd_same rfl rfl ⟨c, _, i, .int z, rfl, rfl, lst _ k1, ?_, ?_⟩)
    · unfold atI ixN
      rw [List.length_map, if_pos h3, if_pos hlt]
      show (ns.map V.int)[i.toNat]? = _
      rw [List.getElem?_map, hz]
      rfl
    refine r_bag upd_same rfl rfl ⟨_, _, rfl, rfl, _, rfl, b, _, 1, 1, rfl, rfl, upd_same, rfl, ?_⟩
    refine ⟨_, rfl, _, _, rfl, rfl, ⟨by decide, by decide, by decide⟩, _, _, rfl, rfl, _, rfl, ?_⟩
    refine ite2 (fun hc3 => ?_) (fun _ => ?_)
    · refine ⟨_, rfl, _, rfl, b, _, 2, 2, rfl, rfl, upd_same, rfl, ?_⟩
      have hz0 : (10 : Int) ^ (18 : Int).toNat ≤ z := of_decide_eq_true hc3
      have hz1 : (0 : Int) ≤ z := Int.le_trans (by decide) hz0
      exact part3 (i + 1) z mm (n + 1) _ _ upd_same (u1 (u1 k1)) (by omega) hz1 h5 h6
    · refine r_bag upd_same rfl rfl ⟨_, _, rfl, rfl, .inr ⟨by decide, by decide⟩, _, rfl, .inl ⟨_, rfl, _, _, rfl, rfl, (by show (0 : Int) < _; decide), _, _, rfl, rfl, .inr ⟨by decide, by decide⟩, _, _, rfl, rfl, _, _, rfl, rfl, .inl ⟨_, rfl, _, _, rfl, rfl, (by show (0 : Int) < _; decide), _, rfl, b, _, 3, 3, rfl, rfl, upd_same, rfl, ?_⟩⟩⟩
      have q := Int.emod_nonneg (mm * 40013 + z % 2147483563 * 6967 + 53) (show (2147483587 : Int) ≠ 0 by decide)
      have q2 := Int.emod_lt_of_pos (mm * 40013 + z % 2147483563 * 6967 + 53) (show (0 : Int) < 2147483587 by decide)
      exact part3 (i + 1) r _ (n + 1) _ _ upd_same (u1 (u1 k1)) (by omega) h4 q (by omega)
  · exact part3 i r mm (n + 1) none _ upd_same k1 h3 h4 h5 h6
end Pu
set_option maxRecDepth 100000
/-! The law's bag is made; the law itself -/
namespace Pu
open PySem L2 PySem.Spec PyProof.Rows
abbrev rListQ (K : PySem.W.Frag) : List V → Hp → VK → Prop := fun xs H Q => ∃ p ys, xs = [.ref p] ∧ (SqL K H p ys ∨ SqT K H p ys) ∧ ∀ l, H l = none → Q (.ref l) (upd H l (.lst ys))
section
variable (K : PySem.W.Frag)
abbrev tCut : TE := tSl (rSlL K) (tVar 0) tNoPart (tPart (tC (.int 63)))
def t_bag : TS := tSeq (tAsg (tC (.int 49360)) (gName 1)) (tSeq (tFor (iList K (tCut K)) (gName 2)
  (tAsg (tOp oMod (tInt (tOp oAdd (tOp oAdd (tOp oMul (tVar 1) (tC (.int 47353))) (tOp oMod (tInt (tVar 2)) (tC (.int 2147483579)))) (tC (.int 29)))) (tC (.int 2147483629))) (gName 1)))
  (tRet (tLst (tCons (tCB (rListQ K) (tCons (tCut K) tNil)) (tCons (tC (.int 0)) (tCons (tC (.int 0)) (tCons (tVar 1) (tCons (tC (.int 0)) tNil))))))))
end
/-- the script comes in; a bag goes out -/
def spBag (K : PySem.W.Frag) : Sp := fun vs H Q _ => ∃ (a : Addr) (ns : List Int), vs = [.ref a] ∧ SqL K H a (ns.map V.int) ∧
  ∀ (c b : Addr) (ms : List Int) (m : Int) (H' : Hp), c ≠ b → H' c = some (.lst (ms.map V.int)) → H' b = some (.lst [.ref c, .int 0, .int 0, .int m, .int 0]) → 0 ≤ m → m < 2147483648 → Q (.ref b) H'
theorem cut_ints (ns : List Int) (lo hi : Option Int) : cutV (ns.map V.int) lo hi = (cutD ns lo hi).map V.int := by
  unfold cutV cutD
  rw [List.length_map, List.map_take, List.map_drop]
theorem pure_bag {K : PySem.W.Frag} {vs : List V} {H : Hp} {Q : VK} {E : XK} {N : List Str} (hN : N.length = 3) (h : spBag K vs H Q E) : t_bag K { nx := fun _ H' => Q .non H', rt := Q } (L2.start N vs) H := by
  obtain ⟨a, ns, rfl, hS, k⟩ := h
  have hσ : L2.start N [.ref a] = [some (.ref a), none, none] := by
    unfold L2.start
    rw [hN]
    rfl
  rw [hσ]
  refine ⟨_, rfl, _, rfl, a, _, rfl, hS, fun p hp => ⟨p, rfl, ⟨_, SqL.of upd_same⟩, ?_⟩⟩
  rw [cut_ints]
  have e1 : Ex H (upd H p (.lst ((cutD ns none (some 63)).map V.int))) := fun x u hx => by
    rw [upd_ne (ne_of_none hx hp)]
    exact hx
  refine for_list (K := K) (a := p) (xs := (cutD ns none (some 63)).map V.int) (fun i σ H' => H' = upd H p (.lst ((cutD ns none (some 63)).map V.int)) ∧ ∃ (m : Int) (v : Option V), σ = [some (.ref a), some (.int m), v] ∧ 0 ≤ m ∧ m < 2147483648)
    ⟨rfl, 49360, none, rfl, by decide, by decide⟩ (fun i σ H' _ ⟨e, _⟩ => by rw [e]; exact SqL.of upd_same) ?_ ?_
  · rintro i x σ H' hi ⟨rfl, m, v, rfl, h1, h2⟩
    obtain ⟨z, rfl⟩ : ∃ z, x = V.int z := by
      rw [List.getElem?_map] at hi
      cases e : (cutD ns none (some 63))[i]? with
      | none => rw [e] at hi; cases hi
      | some z => rw [e] at hi; exact ⟨z, (Option.some.inj hi).symm⟩
    have q := Int.emod_nonneg (m * 47353 + z % 2147483579 + 29) (show (2147483629 : Int) ≠ 0 by decide)
    have q2 := Int.emod_lt_of_pos (m * 47353 + z % 2147483579 + 29) (show (0 : Int) < 2147483629 by decide)
    refine ⟨_, rfl, _, _, rfl, rfl, .inr ⟨by decide, by decide⟩, _, rfl, .inl ⟨_, rfl, _, _, rfl, rfl, (by show (0 : Int) < _; decide), _, _, rfl, rfl, _, _, rfl, rfl, .inl ⟨_, rfl, _, _, rfl, rfl, (by show (0 : Int) < _; decide), ?_⟩⟩⟩
    exact ⟨rfl, _, _, rfl, q, by omega⟩
  · rintro σ H' ⟨rfl, m, v, rfl, h1, h2⟩
    refine ⟨_, rfl, _, rfl, a, _, rfl, e1.l hS, fun p2 hp2 => ⟨p2, _, rfl, .inl (SqL.of upd_same), fun c hc => ⟨_, rfl, (by show 5 ≤ sizeLine; decide), fun b hb => ?_⟩⟩⟩
    rw [cut_ints] at hc hb ⊢
    have cb : c ≠ b := fun z => by
      subst z
      rw [upd_same] at hb
      cases hb
    exact k c b (cutD ns none (some 63)) m _ cb (by rw [upd_ne cb, upd_same]) upd_same h1 h2
/-! ### the law's def: the bag first, then all else over data -/
def spLaw (K : PySem.W.Frag) : Sp := fun vs H Q _ => ∃ (a : Addr) (ns : List Int), vs = [.ref a] ∧ SqL K H a (ns.map V.int) ∧ ∀ H', Q (.bl true) H'
def lawE (n : Nat) : En := .no :: .v .bag :: List.replicate (n - 2) .no
section
variable {P : Program} {w : World} {K : PySem.W.Frag} {mg : Str → Option Value} {base : Heap}
theorem law_ok {x qual : Str} {st : Stmt} {f : Addr} {fd : FuncData} {N ps : List Str} {k : Nat} (Fn : Fun K x qual st f fd) (S : FnScope N ps (defScope st)) (hps : ps.length = 1) (hN : 2 ≤ N.length)
    (body : ∀ (cdv : Value) (A : Around) (outer : List Env) (s : Shared) (H : Hp) (E : XK), Room k (A.deeper (envOfC qual (defScope st) s.heap.objs.size f cdv)) →
      ∃ (s0 : Stmt) (rest : List Stmt) (ws : WS), defBody st = s0 :: rest ∧ PS (cxOf (L2.CX P w) P w K mg base N qual (defScope st) f cdv A outer s H E) s0 (tAsg (tCall (spBag K) [] E0 (tCons (tVar 0) tNil)) (gName 1)) ∧
        PXB (cxOf (L2.CX P w) P w K mg base N qual (defScope st) f cdv A outer s H E) (WDef E) rest ws ∧ ws (lawE N.length) { nx := fun _ => False, rt := fun d => d = .bl true, ex := fun _ _ => False }) :
    FnOk P w K mg base (L2.CX P w) (k + 1) f fd ps (spLaw K) := by
  refine Fn.okX S (fun vs H Q E h => ?_) (fun cdv A outer s H vs Q E hr h => ?_)
  · obtain ⟨a, ns, rfl, _⟩ := h
    rw [hps]
    rfl
  obtain ⟨a, ns, rfl, hS, hQ⟩ := h
  obtain ⟨s0, rest, ws, hb, h0, h1, hw⟩ := body cdv A outer s H E hr
  obtain ⟨t, t1, t2⟩ := h1.ex
  rw [hb]
  refine ⟨_, pss_cons h0 t1, ?_⟩
  have hσ : L2.start N [.ref a] = some (.ref a) :: none :: List.replicate (N.length - 2) none := by
    unfold L2.start
    obtain ⟨n, e⟩ : ∃ n, N.length = n + 2 := ⟨N.length - 2, by omega⟩
    rw [e]
    show [some (V.ref a)] ++ List.replicate (n + 1) none = _
    rw [List.replicate_succ]
    rfl
  rw [hσ]
  refine ⟨_, rfl, a, ns, rfl, hS, fun c b ms m H' cb hc hb' m1 m2 => ?_⟩
  have hG : Ex (fun x => if x = c then some (HO.lst (ms.map V.int)) else none) H' := fun x o hx => by
    have hx' : (if x = c then some (HO.lst (ms.map V.int)) else none) = some o := hx
    by_cases z : x = c
    · rw [if_pos z] at hx'
      cases hx'
      rw [z]
      exact hc
    · rw [if_neg z] at hx'
      cases hx'
  have pre : Pre ⟨K, mg, some b⟩ (fun x => if x = c then some (HO.lst (ms.map V.int)) else none) H' := by
    refine ⟨hG, fun β hβ => ?_⟩
    have e : b = β := Option.some.inj hβ
    subst e
    exact ⟨if_neg (fun z => cb z.symm), by rw [hb']; simp, ⟨c, ms, 0, 0, m, 0, hb', SqL.of (if_pos rfl), by decide, by decide, m1, m2⟩⟩
  have si : SI ⟨⟨K, mg, some b⟩, (fun x => if x = c then some (HO.lst (ms.map V.int)) else none), H', []⟩ (lawE N.length) (some (.ref a) :: some (.ref b) :: List.replicate (N.length - 2) none) (fun x => if x = c then some (HO.lst (ms.map V.int)) else none) H' := by
    have hno : ∀ (j : Nat) (l : List D), (lawE N.length)[j]? ≠ some (.ol l) := fun j l e => by
      unfold lawE at e
      match j, e with
      | 0, e => cases e
      | 1, e => cases e
      | j + 2, e =>
        simp only [List.getElem?_cons_succ] at e
        rw [List.getElem?_replicate] at e
        split at e <;> cases e
    refine ⟨pre, Post.refl pre, ?_, fun i s e => ?_, fun i j l l' a _ e _ _ => absurd e (hno i l), fun q hq => by cases hq⟩
    · unfold lawE
      simp
    · unfold lawE at e
      match i, e with
      | 0, e => cases e; trivial
      | 1, e => cases e; exact ⟨_, rfl, .bag rfl⟩
      | j + 2, e =>
        simp only [List.getElem?_cons_succ] at e
        rw [List.getElem?_replicate] at e
        split at e
        · cases e; trivial
        · cases e
  refine t2 _ (lawE N.length) _ _ H' _ _ ⟨rfl, rfl⟩ si hw ?_
  refine ⟨fun _ _ _ _ z => z.elim, fun d v e1 σ1 G1 H1 p s1 r1 => ?_, fun _ _ _ _ z => z.elim, fun _ _ _ _ z => z.elim, fun _ _ _ _ _ _ _ z => z.elim⟩
  have p' : d = .bl true := p
  subst p'
  cases r1
  exact hQ H1
end
/-! ### a call by keywords -/
section
variable {X : Cx} {W : WX} {k n : Nat} {f : Addr} {fd : FuncData} {ps ks : List Str} {F : FT} {x : Str} {p pos kpos : Pos} {e : Expr} {es : List Expr} {w : WE} {kws : List Keyword} {nm : Option Str} {u : WA}
structure PXK (X : Cx) (W : WX) (kws : List Keyword) (w : WA) : Prop where
  ex : ∃ t, PK X kws t ∧ ∀ (F : Fc) (env : En) (σ : L2.St) (G H : Hp) (P : List D → En → Prop) (R : QX) (Q : List V → Hp → Prop), XOk X F → SI F env σ G H → w env P R →
    (∀ ds env' vs G' H', P ds env' → SI F env' σ G' H' → Ex G G' → Reps F.wd G' vs ds → Q vs H') → XK' F W σ R → t σ H Q
theorem pk_nil' : PXK X W [] wNil := ⟨⟨_, pk_nil, fun F env σ G H P R Q hx hs hw hq hk => hq [] env [] G H hw hs (Ex.refl _) .nil⟩⟩
theorem pk_cons' (h : PX X W e w) (g : PXK X W kws u) : PXK X W (⟨nm, e, kpos⟩ :: kws) (wCons w u) := by
  obtain ⟨t, a1, a2⟩ := h.ex
  obtain ⟨t', b1, b2⟩ := g.ex
  refine ⟨⟨_, pk_cons a1 b1, fun F env σ G H P R Q hx hs hw hq hk => a2 F env σ G H _ R _ hx hs hw (fun d e1 v G1 H1 p s1 x1 r1 => ?_) hk⟩⟩
  exact b2 F e1 σ G1 H1 _ R _ hx s1 p (fun ds e2 vs G2 H2 p2 s2 x2 r2 => hq (d :: ds) e2 (v :: vs) G2 H2 p2 s2 (x1.trans x2) (.cons (r1.mono x2) r2)) hk
theorem pe_callKS0 {g : List Value → List Value → List Value} {gV : List V → List V → List V} {sp : Sp} {CX : CXT} {E : XK} {tk : TA} (Fn : FnOk X.prog X.w X.K X.mg X.base CX k f fd ps sp) (hr : Room k X.A) (hg : Gl X x) (hm : X.mg x = some (.ref f)) (hk : PySem.W.keepIn X.K (.ref f) = true) (hb : KBinds X.K fd ps ks g gV) (hx : Passes CX X E)
    (hkw : PK X kws tk) (hall : (backToKw pos (keywordEach kws X.env)).all (·.1.isSome) = true := by rfl) (hks : (backToKw pos (keywordEach kws X.env)).filterMap (·.1) = ks := by rfl) (hdb : (x == ("__debug__" : Str)) = false := by decide)
    (hpl : ((backTo pos (starEach [] X.env)).any (·.1) || (backToKw pos (keywordEach kws X.env)).any (·.1.isNone)) = false := by rfl) :
    PE X (.Call (.Name x p) [] kws pos) (fun σ H Q => tk σ H fun zs H2 => sp (gV [] zs) H2 Q E) := by
  refine ⟨fun pins s σ H Q I h => ?_⟩
  refine wpAny_Call_Name_kw (ld_glob I hg hm ?_ hdb)
  refine PySem.W.callWith_KW0 (h₀ := X.base) I.ok.mod.kin hk hall ?_ hpl
  refine thn (hkw.run pos pins s σ H _ I h) fun ws s2 ⟨zs, H2, I2, rz, q2⟩ => ⟨I2.kIn, ?_⟩
  rw [hks]
  exact run_fnk (us := []) (vs := []) Fn hr hb hx I2 .nil rz q2
/-- f(k = e, ..) that raises nothing; g puts the keywords' values in the parameters' order -/
def wCallK (F : FT) (n : Nat) (g : List D → List D) (u : WA) : WE := fun env P R => u env (fun ds e => (g ds).length = n ∧ F (g ds) (fun d => P d e) fun _ => False) R
theorem px_callK0 {g : List Value → List Value → List Value} {gV : List V → List V → List V} {gD : List D → List D} (Fn : FnOk X.prog X.w X.K X.mg X.base (L2.CX X.prog X.w) k f fd ps (spP X.K X.mg n F)) (hr : Room k X.A) (hg : Gl X x) (hm : X.mg x = some (.ref f)) (hk : PySem.W.keepIn X.K (.ref f) = true) (hb : KBinds X.K fd ps ks g gV)
    (hgD : ∀ (w : Wd) (G : Hp) vs ds, Reps w G vs ds → Reps w G (gV [] vs) (gD ds)) (hkw : PXK X W kws u) (hall : (backToKw pos (keywordEach kws X.env)).all (·.1.isSome) = true := by rfl) (hks : (backToKw pos (keywordEach kws X.env)).filterMap (·.1) = ks := by rfl) (hdb : (x == ("__debug__" : Str)) = false := by decide)
    (hpl : ((backTo pos (starEach [] X.env)).any (·.1) || (backToKw pos (keywordEach kws X.env)).any (·.1.isNone)) = false := by rfl) :
    PX X W (.Call (.Name x p) [] kws pos) (wCallK F n gD u) := by
  obtain ⟨t, a1, a2⟩ := hkw.ex
  refine ⟨⟨_, pe_callKS0 (E := E0) Fn hr hg hm hk hb passL a1 hall hks hdb hpl, fun Fc' env σ G H P R Q hx hs hw hq hk => a2 Fc' env σ G H _ R _ hx hs hw (fun as e1 vs G1 H1 p1 s1 x1 r1 => ?_) hk⟩⟩
  obtain ⟨⟨K, mg, b⟩, G0, H0, pins⟩ := Fc'
  obtain ⟨h1, h2⟩ := hx
  cases h1
  cases h2
  exact ⟨b, G1, gD as, _, _, s1.pre, hgD _ _ _ _ r1, p1.1, p1.2, fun d v G' H' p po r => hq d e1 v G' H' p (s1.step po) (x1.trans po.ex) r, fun x cls dct G' H' p po r => p.elim⟩
end
theorem hd_law {P : Program} {w : World} (H : Hp) (s : Shared) (e : Value) (s' : Shared) : L2.CX P w [] H s (fun _ _ _ => False) e s' → False := fun c => by
  obtain ⟨_, _, _, _, _, _, _, _, _, _, _, _, z⟩ := c
  exact z.elim
/-- keywords in the parameters' order, no positional argument -/
theorem kbinds_all {K : PySem.W.Frag} {fd : FuncData} {ps : List Str} (h : ∀ us ws : List Value, (us ++ ws).length = ps.length → bindArgs fd ⟨us, ps.zip ws⟩ = pure (ps.zip (us ++ ws))) : KBinds K fd ps ps (fun us ws => us ++ ws) (fun vs zs => vs ++ zs) :=
  ⟨fun s us ws _ hl => .of_eq (h us ws hl), fun r r2 => r.append r2⟩
end Pu
set_option maxRecDepth 100000
/-! The helpers that every law has, over data -/
namespace Pu
open PySem L2 PySem.Spec PyProof.Rows
abbrev rdSub : RD2 := rdI (fun _ _ => True) fun i j => .int (i - j)
abbrev rdFdiv : RD2 := rdI CDivW fun i j => .int (i / j)
abbrev rdMod : RD2 := rdI (fun _ j => 0 < j) fun i j => .int (i % j)
abbrev rdPow : RD2 := rdI CPow fun i j => .int (i ^ j.toNat)
abbrev rdLt : RD2 := rdI (fun _ _ => True) fun i j => .bl (decide (i < j))
abbrev rdLe : RD2 := rdI (fun _ _ => True) fun i j => .bl (decide (i ≤ j))
abbrev rdGt : RD2 := rdI (fun _ _ => True) fun i j => .bl (decide (j < i))
abbrev rdGe : RD2 := rdI (fun _ _ => True) fun i j => .bl (decide (j ≤ i))
theorem px_globE {X : Cx} {W : WX} {x : Str} {v : V} {d : D} {pos : Pos} (hg : Gl X x) (hm : ∃ u, X.mg x = some u ∧ RelV v u) (hr : ∀ w G, Rep w G v d) (hd : (x == ("__debug__" : Str)) = false := by decide) : PX X W (.Name x pos) (wC d) := by
  obtain ⟨u, h1, h2⟩ := hm
  exact px_glob hg h1 h2 hr hd
/-! ### _law_of: one of some -/
def w_law_of (F_law_draw : FT) : WS :=
    (wsRet (wOp rdIx (wVar 1) (wCall (fun ds P R => ds.length = 2 ∧ F_law_draw ds P R) [] (wCons (wVar 0) (wCons (wCB rdLen (wCons (wVar 1) wNil)) wNil)))))
def F_of : FT := fun ds P _ => ∃ l, (ds = [.bag, .lst l] ∨ ds = [.bag, .tup l]) ∧ l ≠ [] ∧ l.length < 2 ^ 60 ∧ ∀ d ∈ l, P d
theorem log_small {n : Nat} (h : n < 2 ^ 60) : n.log2 < 9000 := by
  by_cases h0 : n = 0
  · rw [h0]
    decide
  · have := (Nat.log2_lt h0).mpr h
    omega
theorem pure_law_of (ds : List D) (P : D → Prop) (R : DX → Prop) (hl : ds.length = 2) (h : F_of ds P R) : w_law_of F_draw (startE 2 ds) { nx := fun _ => P .non, rt := P, ex := fun x _ => R x } := by
  obtain ⟨l, hd, h0, h1, h2⟩ := h
  have pos : 0 < l.length := List.length_pos_iff.mpr h0
  have key : ∀ v : Int, 0 ≤ v → v < (l.length : Int) → ∃ d, atI l v = some d ∧ P d := fun v a b => by
    have hv : v.toNat < l.length := by omega
    refine ⟨l[v.toNat], ?_, h2 _ (List.getElem_mem hv)⟩
    unfold atI ixN
    rw [if_pos a, if_pos b]
    exact List.getElem?_eq_getElem hv
  rcases hd with rfl | rfl
  · exact ⟨rfl, (l.length : Int), rfl, by omega, by simpa using log_small h1, fun v a b => key v a b⟩
  · exact ⟨rfl, (l.length : Int), rfl, by omega, by simpa using log_small h1, fun v a b => key v a b⟩
/-! ### _law_same -/
def w_law_same (F_law_same : FT) : WS :=
    (wsSeq (wsIf (wOr (wTest (wOp rdIs (wVar 1) (wC .non))) (wTest (wOp rdIs (wVar 0) (wC .non)))) (wsRet (wAndV (wOp rdIs (wVar 1) (wC .non)) (wOp rdIs (wVar 0) (wC .non)))) wsNext)
    (wsSeq (wsIf (wTest (wIsi2 .list .tuple (wVar 1))) (wsSeq (wsIf (wOr (wTest (wOp rdNe (wIsi .list (wVar 0)) (wIsi .list (wVar 1)))) (wTest (wOp rdNe (wIsi .tuple (wVar 0)) (wIsi .tuple (wVar 1))))) (wsRet (wC (.bl false))) wsNext)
    (wsRet (wAndV (wOp rdEq (wCB rdLen (wCons (wVar 0) wNil)) (wCB rdLen (wCons (wVar 1) wNil))) (wCB rdAll (wCons (wLc [2, 3] (wZip (wVar 0) (wVar 1)) (wgTup2 (wgName 2) (wgName 3)) wYes (wCall (fun ds P R => ds.length = 2 ∧ F_law_same ds P R) [] (wCons (wVar 2) (wCons (wVar 3) wNil)))) wNil))))) wsNext)
    (wsSeq (wsIf (wOr (wTest (wOp rdNe (wIsi .bool (wVar 0)) (wIsi .bool (wVar 1)))) (wTest (wOp rdNe (wIsi .int (wVar 0)) (wIsi .int (wVar 1))))) (wsRet (wC (.bl false))) wsNext)
    (wsRet (wAndV (wOp rdEq (wIsi .str (wVar 0)) (wIsi .str (wVar 1))) (wOp rdEq (wVar 0) (wVar 1)))))))
/-- plain data of a depth -/
def dep : Nat → D → Bool
  | _, .non => true
  | _, .bl _ => true
  | _, .int _ => true
  | _, .str _ => true
  | n + 1, .lst l => decide (l.length ≤ 100000) && l.all (dep n)
  | n + 1, .tup l => decide (l.length ≤ 100000) && l.all (dep n)
  | _, _ => false
/-- equal data: True (the law asks for no more) -/
def F_same (n : Nat) : FT := fun ds P _ => ∃ d, ds = [d, d] ∧ dep n d = true ∧ P (.bl true)
theorem zip_self (l : List D) : zipD l l = l.map fun d => .tup [d, d] := by
  unfold zipD
  induction l with
  | nil => rfl
  | cons x l ih =>
    rw [List.zipWith_cons_cons, List.map_cons, ih]
/-! ### comprehensions without a test: what each turn may give -/
inductive Rels (R : D → D → Prop) : List D → List D → Prop
  | nil : Rels R [] []
  | cons {x d xs ds} : R x d → Rels R xs ds → Rels R (x :: xs) (d :: ds)
theorem lcL_rel {g : WG} {we : WE} {own : List Nat} {w0 : En} {Rl : D → D → Prop} : ∀ (l acc : List D) (env : En) (P : List D → En → Prop),
    (∀ x ∈ l, ∀ Pk : D → En → Prop, (∀ d e3, Rl x d → wipeE e3 own = w0 → Pk d e3) → g x w0 fun e1 => we e1 Pk fun _ _ => False) → wipeE env own = w0 →
    (∀ out e', Rels Rl l out → wipeE e' own = w0 → P (acc ++ out) e') → wLcL g wYes we own l acc env P
  | [], acc, env, P, _, he, hP => by
    have q := hP [] env .nil he
    rw [List.append_nil] at q
    exact q
  | x :: xs, acc, env, P, h, he, hP => by
    show g x (wipeE env own) fun e1 => we e1 (fun d e3 => wLcL g wYes we own xs (acc ++ [d]) e3 P) fun _ _ => False
    rw [he]
    refine h x List.mem_cons_self _ fun d e3 hd h3 => ?_
    refine lcL_rel xs (acc ++ [d]) e3 P (fun y hy => h y (List.mem_cons_of_mem _ hy)) h3 fun out e' ho h' => ?_
    rw [List.append_assoc]
    exact hP (d :: out) e' (.cons hd ho) h'
theorem lc_in {g : WG} {we : WE} {own : List Nat} {e1 : En} {P : D → En → Prop} (Rl : D → D → Prop) (ds : List D) (hl : ds.length ≤ 100000)
    (h : ∀ x ∈ ds, ∀ Pk : D → En → Prop, (∀ d e3, Rl x d → wipeE e3 own = wipeE e1 own → Pk d e3) → g x (wipeE e1 own) fun e1 => we e1 Pk fun _ _ => False)
    (hP : ∀ out, Rels Rl ds out → P (.lst out) (backE e1 e1 own)) : ds.length ≤ 100000 ∧ wLcL g wYes we own ds [] e1 fun acc e2 => P (.lst acc) (backE e1 e2 own) := by
  refine ⟨hl, lcL_rel ds [] e1 _ h rfl fun out e' ho h' => ?_⟩
  have e : backE e1 e' own = backE e1 e1 own := by rw [← backE_wipe e1 e' own, h', backE_wipe]
  show P (.lst ([] ++ out)) (backE e1 e' own)
  rw [e]
  exact hP out ho
theorem Rels.length {R : D → D → Prop} : ∀ {l o : List D}, Rels R l o → o.length = l.length
  | _, _, .nil => rfl
  | _, _, .cons _ t => congrArg Nat.succ t.length
theorem Rels.eq_map {f : D → D} : ∀ {l o : List D}, Rels (fun x d => d = f x) l o → o = l.map f
  | _, _, .nil => rfl
  | _, _, .cons h t => by rw [List.map_cons, h, t.eq_map]
theorem Rels.mem {R : D → D → Prop} : ∀ {l o : List D} {d : D}, Rels R l o → d ∈ o → ∃ x ∈ l, R x d
  | _, _, _, .nil, h => by cases h
  | _, _, _, .cons r t, h => by
    rcases List.mem_cons.mp h with z | z
    · subst z
      exact ⟨_, List.mem_cons_self, r⟩
    · obtain ⟨x, h1, h2⟩ := t.mem z
      exact ⟨x, List.mem_cons_of_mem _ h1, h2⟩
theorem Rels.mono {R S : D → D → Prop} (h : ∀ x d, R x d → S x d) : ∀ {l o : List D}, Rels R l o → Rels S l o
  | _, _, .nil => .nil
  | _, _, .cons r t => .cons (h _ _ r) (t.mono h)
theorem bools_true : ∀ n : Nat, bools (List.replicate n (.bl true)) = some (List.replicate n true)
  | 0 => rfl
  | n + 1 => by
    show (bools (List.replicate n (.bl true))).map (true :: ·) = _
    rw [bools_true n]
    rfl
theorem all_true : ∀ n : Nat, (List.replicate n true).all id = true
  | 0 => rfl
  | n + 1 => by
    rw [List.replicate_succ, List.all_cons, all_true n]
    rfl
theorem Rels.trues : ∀ {l o : List D}, Rels (fun _ d => d = .bl true) l o → o = List.replicate l.length (.bl true)
  | _, _, .nil => rfl
  | _, _, .cons h t => by rw [List.length_cons, List.replicate_succ, h, t.trues]
theorem rdEq_self_int {i : Int} {P : D → Prop} (h : P (.bl true)) : rdEq (.int i) (.int i) P := by
  show P (.bl (decide (i = i)))
  rw [decide_eq_true rfl]
  exact h
theorem rdEq_self_str {i : Str} {P : D → Prop} (h : P (.bl true)) : rdEq (.str i) (.str i) P := by
  show P (.bl (decide (i = i)))
  rw [decide_eq_true rfl]
  exact h
theorem rdEq_self_bl {i : Bool} {P : D → Prop} (h : P (.bl true)) : rdEq (.bl i) (.bl i) P := by
  show P (.bl (decide (i = i)))
  rw [decide_eq_true rfl]
  exact h
theorem same_seq {F : FT} {l : List D} {d : D} {K : EnD} (hl : l.length ≤ 100000) (hF : ∀ x ∈ l, ∀ P R, P (.bl true) → F [x, x] P R) (hK : K.rt (.bl true)) :
    ∀ env : En, wCB rdAll (wCons (wLc [2, 3] (fun env P R => P (zipD l l) env) (wgTup2 (wgName 2) (wgName 3)) wYes (wCall (fun ds P R => ds.length = 2 ∧ F ds P R) [] (wCons (wVar 2) (wCons (wVar 3) wNil)))) wNil) [.v d, .v d, .no, .no] (fun d _ => K.rt d) K.ex := by
  intro _
  show (zipD l l).length ≤ 100000 ∧ _
  rw [zip_self]
  refine lc_in (P := fun d e => rdAll [d] fun z => K.rt z) (fun _ d => d = .bl true) _ (by rw [List.length_map]; exact hl) (fun x hx Pk hk => ?_) (fun out ho => ?_)
  · obtain ⟨y, hy, rfl⟩ := List.mem_map.mp hx
    exact ⟨rfl, hF y hy _ _ (hk _ _ rfl rfl)⟩
  · rw [ho.trues]
    exact ⟨_, bools_true _, by rw [all_true]; exact hK⟩
theorem wAndV_of {wa u : WE} {env : En} {P : D → En → Prop} {R : QX} (h : ∀ Pk : D → En → Prop, Pk (.bl true) env → wa env Pk R) (hu : u env P R) : wAndV wa u env P R := h _ hu
theorem pure_law_same : ∀ (n : Nat) (F : FT), (∀ m, n = m + 1 → F = F_same m) → ∀ (ds : List D) (P : D → Prop) (R : DX → Prop), ds.length = 2 → F_same n ds P R → w_law_same F (startE 4 ds) { nx := fun _ => P .non, rt := P, ex := fun x _ => R x } := by
  intro n F hF ds P R _ h
  obtain ⟨d, rfl, hd, hP⟩ := h
  cases d with
  | non => exact hP
  | bl b => exact rdEq_self_bl hP
  | int i => exact rdEq_self_int hP
  | str s => exact rdEq_self_str hP
  | bag => cases n <;> cases hd
  | ins c fs => cases n <;> cases hd
  | lst l =>
    cases n with
    | zero => cases hd
    | succ n =>
      have e := hF n rfl
      subst e
      have hd' : (decide (l.length ≤ 100000) && l.all (dep n)) = true := hd
      rw [Bool.and_eq_true, decide_eq_true_iff] at hd'
      show wAndV (wOp rdEq (wCB rdLen (wCons (wVar 0) wNil)) (wCB rdLen (wCons (wVar 1) wNil))) (wCB rdAll (wCons (wLc [2, 3] (wZip (wVar 0) (wVar 1)) (wgTup2 (wgName 2) (wgName 3)) wYes (wCall (fun ds P R => ds.length = 2 ∧ F_same n ds P R) [] (wCons (wVar 2) (wCons (wVar 3) wNil)))) wNil)) [.v (.lst l), .v (.lst l), .no, .no] (fun d _ => P d) (fun x _ => R x)
      refine wAndV_of (fun Pk hk => rdEq_self_int (i := (l.length : Int)) (P := fun z => Pk z _) hk) ?_
      exact same_seq (F := F_same n) (d := .lst l) (K := { nx := fun _ => P .non, rt := P, ex := fun x _ => R x }) hd'.1 (fun x hx P R hp => ⟨x, rfl, List.all_eq_true.mp hd'.2 x hx, hp⟩) hP []
  | tup l =>
    cases n with
    | zero => cases hd
    | succ n =>
      have e := hF n rfl
      subst e
      have hd' : (decide (l.length ≤ 100000) && l.all (dep n)) = true := hd
      rw [Bool.and_eq_true, decide_eq_true_iff] at hd'
      show wAndV (wOp rdEq (wCB rdLen (wCons (wVar 0) wNil)) (wCB rdLen (wCons (wVar 1) wNil))) (wCB rdAll (wCons (wLc [2, 3] (wZip (wVar 0) (wVar 1)) (wgTup2 (wgName 2) (wgName 3)) wYes (wCall (fun ds P R => ds.length = 2 ∧ F_same n ds P R) [] (wCons (wVar 2) (wCons (wVar 3) wNil)))) wNil)) [.v (.tup l), .v (.tup l), .no, .no] (fun d _ => P d) (fun x _ => R x)
      refine wAndV_of (fun Pk hk => rdEq_self_int (i := (l.length : Int)) (P := fun z => Pk z _) hk) ?_
      exact same_seq (F := F_same n) (d := .tup l) (K := { nx := fun _ => P .non, rt := P, ex := fun x _ => R x }) hd'.1 (fun x hx P R hp => ⟨x, rfl, List.all_eq_true.mp hd'.2 x hx, hp⟩) hP []
end Pu
namespace Pu
open PySem L2 PySem.Spec PyProof.Rows
/-! ### is_name -/
def w_is_name  : WS :=
    (wsSeq (wsIf (wOr (wNot (wTest (wIsi .str (wVar 0)))) (wOr (wNot (wTest (wChain rdLe rdLe (wC (.int 1)) (wCB rdLen (wCons (wVar 0) wNil)) (wC (.int 8))))) (wTest (wOp rdEq (wVar 0) (wC (.str "ground")))))) (wsRet (wC (.bl false))) wsNext)
    (wsRet (wCB rdAll (wCons (wLc [1] (wIt (wVar 0)) (wgName 1) wYes (wOp (rdIn false) (wVar 1) (wC (.str "abcdefghijklmnopqrstuvwxyz")))) wNil))))
/-- a name, over data -/
def smallS : Str := "abcdefghijklmnopqrstuvwxyz"
def groundS : Str := "ground"
def isName (s : Str) : Bool := (decide (1 ≤ s.length) && decide (s.length ≤ 8)) && (!decide (s = groundS)) && s.cps.toList.all fun c => decide (c ∈ smallS.cps.toList)
def isNameD : D → Option Bool
  | .str s => if s.length ≤ sizeLine then some (isName s) else none
  | .non => some false | .bl _ => some false | .int _ => some false | .lst _ => some false | .tup _ => some false
  | _ => none
def F_is_name : FT := fun ds P _ => ∃ d b, ds = [d] ∧ isNameD d = some b ∧ P (.bl b)
theorem signs_len (s : Str) : (signsD s).length = s.length := by
  unfold signsD
  rw [List.length_map, Array.length_toList]
  rfl
theorem bools_map {α : Type} (f : α → Bool) : ∀ l : List α, bools (l.map fun c => .bl (f c)) = some (l.map f)
  | [] => rfl
  | x :: l => by
    show (bools (l.map fun c => .bl (f c))).map (f x :: ·) = _
    rw [bools_map f l]
    rfl
theorem is_name_str (s : Str) (hs : s.length ≤ sizeLine) (P : D → Prop) (R : DX → Prop) (hP : P (D.bl (isName s))) : w_is_name (startE 2 [D.str s]) { nx := fun _ => P .non, rt := P, ex := fun x _ => R x } := by
  have fin : s.length ≤ 8 → (1 : Int) ≤ s.length → ¬ s = groundS → (signsD s).length ≤ 100000 ∧ wLcL (wgName 1) wYes (wOp (rdIn false) (wVar 1) (wC (D.str smallS))) [1] (signsD s) [] [Sl.v (D.str s), .no] fun acc e2 => ∃ bs, bools acc = some bs ∧ P (D.bl (bs.all id)) := by
    intro h8 h1 hg
    refine lc_in (e1 := [Sl.v (D.str s), .no]) (P := fun d e => rdAll [d] fun z => P z) (fun x d => ∃ c : Nat, x = .str ⟨#[c]⟩ ∧ d = .bl (decide (c ∈ smallS.cps.toList))) (signsD s) (by rw [signs_len]; omega) (fun x hx Pk hk => ?_) (fun out ho => ?_)
    · unfold signsD at hx
      obtain ⟨c, hc, rfl⟩ := List.mem_map.mp hx
      exact hk _ _ ⟨c, rfl, rfl⟩ rfl
    · have key : ∀ (l : List Nat) (out : List D), Rels (fun x d => ∃ c : Nat, x = .str ⟨#[c]⟩ ∧ d = .bl (decide (c ∈ smallS.cps.toList))) (l.map fun c => D.str ⟨#[c]⟩) out → out = l.map fun c => D.bl (decide (c ∈ smallS.cps.toList)) := by
        intro l
        induction l with
        | nil => intro out h; cases h; rfl
        | cons c l ih =>
          intro out h
          cases h with
          | cons r t =>
            obtain ⟨c', e1, e2⟩ := r
            have e3 : c' = c := by
              have := D.str.inj e1
              have := congrArg (fun s : Str => s.cps.toList) this
              simpa using this.symm
            rw [List.map_cons, e2, ih _ t, e3]
      rw [key _ _ ho]
      refine ⟨_, bools_map _ _, ?_⟩
      have : isName s = (List.map (fun c => decide (c ∈ smallS.cps.toList)) s.cps.toList).all id := by
        unfold isName
        rw [decide_eq_true h8, decide_eq_true (show 1 ≤ s.length by omega), decide_eq_false hg, List.all_map]
        rfl
      rw [this] at hP
      exact hP
  dsimp only [w_is_name, wsSeq, wsIf, wOr, wNot, wTest, wIsi, wVar, wChain, wC, wCB, wCons, wNil, rdLen, rdLe, rdI, wOp, rdEq, eqS, startE, isTD, List.map, List.append, List.replicate, List.length, wsRet, wsNext, wLc, wIt, rdIt, rdAll, List.getElem?_cons_zero, List.getElem?_cons_succ, List.cons_append, List.nil_append, Bool.not_true, Bool.not_false]
  refine ⟨hs, trivial, ?_⟩
  by_cases h1 : (1 : Int) ≤ s.length
  · rw [decide_eq_true h1]
    refine ⟨trivial, ?_⟩
    by_cases h8 : (s.length : Int) ≤ 8
    · rw [decide_eq_true h8]
      by_cases hg : s = groundS
      · have e : decide (s = Str.ofString "ground") = true := decide_eq_true hg
        show match decide (s = Str.ofString "ground") with | true => P (D.bl false) | false => _
        rw [e]
        have : isName s = false := by unfold isName; rw [decide_eq_true hg]; simp
        rw [this] at hP
        exact hP
      · have e : decide (s = Str.ofString "ground") = false := decide_eq_false hg
        show match decide (s = Str.ofString "ground") with | true => P (D.bl false) | false => _
        rw [e]
        exact fin (by omega) h1 hg
    · rw [decide_eq_false h8]
      have : isName s = false := by unfold isName; rw [decide_eq_false (show ¬ s.length ≤ 8 by omega)]; simp
      rw [this] at hP
      exact hP
  · rw [decide_eq_false h1]
    have : isName s = false := by unfold isName; rw [decide_eq_false (show ¬ 1 ≤ s.length by omega)]; simp
    rw [this] at hP
    exact hP
theorem pure_is_name (ds : List D) (P : D → Prop) (R : DX → Prop) (_ : ds.length = 1) (h : F_is_name ds P R) : w_is_name (startE 2 ds) { nx := fun _ => P .non, rt := P, ex := fun x _ => R x } := by
  obtain ⟨d, b, rfl, hd, hP⟩ := h
  cases d with
  | non => cases hd; exact hP
  | bl _ => cases hd; exact hP
  | int _ => cases hd; exact hP
  | lst _ => cases hd; exact hP
  | tup _ => cases hd; exact hP
  | bag => cases hd
  | ins _ _ => cases hd
  | str s =>
    have hd' : (if s.length ≤ sizeLine then some (isName s) else none) = some b := hd
    by_cases hs : s.length ≤ sizeLine
    · rw [if_pos hs] at hd'
      cases hd'
      exact is_name_str s hs P R hP
    · rw [if_neg hs] at hd'
      cases hd'
end Pu
namespace Pu
open PySem L2 PySem.Spec PyProof.Rows
/-- a for by what holds between its turns -/
theorem forL_inv {g : WG} {b : WS} {K : EnD} (I : En → Prop) : ∀ (ds : List D) (env : En), (∀ x ∈ ds, ∀ env, I env → ∀ Kn : En → Prop, (∀ e, I e → Kn e) → g x env fun e1 => b e1 { K with nx := Kn, ct := Kn, bk := K.nx }) → I env → (∀ e, I e → K.nx e) → wsForL g b K ds env
  | [], env, _, h, hk => hk env h
  | x :: xs, env, ht, h, hk => ht x List.mem_cons_self env h _ fun e he => forL_inv I xs e (fun y hy => ht y (List.mem_cons_of_mem _ hy)) he hk
end Pu
namespace Pu
open PySem L2 PySem.Spec PyProof.Rows
/-- a comprehension without a test, its source one of those that ok tells, its items by Rl -/
theorem wLc_in {g : WG} {we : WE} {own : List Nat} {env : En} {wi : WA} {P : D → En → Prop} {R : QX} (ok : List D → Prop) (Rl : D → D → Prop)
    (hwi : ∀ Pk : List D → En → Prop, (∀ ds, ok ds → Pk ds env) → wi env Pk R) (hl : ∀ ds, ok ds → ds.length ≤ 100000)
    (h : ∀ ds, ok ds → ∀ x ∈ ds, ∀ Pk : D → En → Prop, (∀ d e3, Rl x d → wipeE e3 own = wipeE env own → Pk d e3) → g x (wipeE env own) fun e1 => we e1 Pk fun _ _ => False)
    (hP : ∀ ds out, ok ds → Rels Rl ds out → P (.lst out) (backE env env own)) : wLc own wi g wYes we env P R :=
  hwi _ fun ds hd => lc_in (P := P) Rl ds (hl ds hd) (h ds hd) fun out ho => hP ds out hd ho
end Pu
namespace Pu
open PySem L2 PySem.Spec PyProof.Rows
/-! ### one statement at a time: what follows stays folded -/
theorem st_set {i : Nat} {w : WE} {b : WS} {env : En} {K : EnD} (A : D → Prop) (hw : ∀ Pk : D → En → Prop, (∀ d, A d → Pk d env) → w env Pk K.ex) (hb : ∀ d, A d → b (env.set i (.v d)) K) : wsSeq (wsSet i w) b env K := hw _ fun d hd => hb d hd
theorem st_set1 {i : Nat} {w : WE} {env : En} {K : EnD} (A : D → Prop) (hw : ∀ Pk : D → En → Prop, (∀ d, A d → Pk d env) → w env Pk K.ex) (hb : ∀ d, A d → K.nx (env.set i (.v d))) : wsSet i w env K := hw _ fun d hd => hb d hd
theorem st_par {i j : Nat} {w : WA} {b : WS} {env : En} {K : EnD} (A : D → D → Prop) (hw : ∀ Pk : List D → En → Prop, (∀ d e, A d e → Pk [d, e] env) → w env Pk K.ex) (hb : ∀ d e, A d e → b ((env.set i (.v d)).set j (.v e)) K) : wsSeq (wsPar i j w) b env K := hw _ fun d e hd => hb d e hd
theorem st_if {c : WT} {t e b : WS} {env : En} {K : EnD} (k : Bool) (hc : ∀ Pk : Bool → En → Prop, Pk k env → c env Pk K.ex) (ht : k = true → t env { K with nx := fun e => b e K }) (he : k = false → e env { K with nx := fun e => b e K }) : wsSeq (wsIf c t e) b env K := hc _ (by
  cases k with
  | true => exact ht rfl
  | false => exact he rfl)
theorem st_if1 {c : WT} {t e : WS} {env : En} {K : EnD} (k : Bool) (hc : ∀ Pk : Bool → En → Prop, Pk k env → c env Pk K.ex) (ht : k = true → t env K) (he : k = false → e env K) : wsIf c t e env K := hc _ (by
  cases k with
  | true => exact ht rfl
  | false => exact he rfl)
theorem st_ret {w : WE} {env : En} {K : EnD} (A : D → Prop) (hw : ∀ Pk : D → En → Prop, (∀ d, A d → Pk d env) → w env Pk K.ex) (hb : ∀ d, A d → K.rt d) : wsRet w env K := by
  have q := hw (fun d e => A d ∧ e = env) (fun d hd => ⟨hd, rfl⟩)
  exact hw (fun d _ => K.rt d) fun d hd => hb d hd
end Pu
namespace Pu
open PySem L2 PySem.Spec PyProof.Rows
/-- a def that is never called -/
theorem fn_false {P : Program} {w : World} {K : PySem.W.Frag} {mg : Str → Option Value} {base : Heap} {f : Addr} {fd : FuncData} {ps : List Str} {k n : Nat} {CX : CXT} : FnOk P w K mg base CX k f fd ps (spP K mg n fun _ _ _ => False) :=
  ⟨fun vs H Q E h => by
    obtain ⟨_, _, _, _, _, _, _, _, z, _⟩ := h
    exact z.elim, fun A outer s H args us vs Q E hr e0 hb r h => by
    obtain ⟨_, _, _, _, _, _, _, _, z, _⟩ := h
    exact z.elim⟩
end Pu
set_option maxRecDepth 100000
/-! Own lists of a frame: made, read, changed in place -/
namespace Pu
open PySem L2 PySem.Spec PyProof.Rows
section
variable {X : Cx} {W : WX} {e : Expr} {es : List Expr} {pos : Pos}
/-- a new list comes, nobody else's -/
structure PXN (X : Cx) (W : WX) (e : Expr) (w : WA) : Prop where
  ex : ∃ t, PE X e t ∧ ∀ (F : Fc) (env : En) (σ : L2.St) (G H : Hp) (P : List D → En → Prop) (R : QX) (Q : VK), XOk X F → SI F env σ G H → w env P R →
    (∀ l env' a vs G' H', P l env' → SI { F with pins := (a, .lst vs) :: F.pins } env' σ G' H' → Ex G G' → Reps F.wd G' vs l → (∀ p ∈ F.pins, p.1 ≠ a) → Q (.ref a) H') → XK' F W σ R → t σ H Q
theorem SI.pinsNe {F : Fc} {env : En} {σ : L2.St} {G H : Hp} {a : Addr} (h : SI F env σ G H) (hn : H a = none) : ∀ p ∈ F.pins, p.1 ≠ a := fun p hp z => by
  obtain ⟨h1, _⟩ := h.pin p hp
  rw [z, hn] at h1
  cases h1
def wnLst (u : WA) : WA := fun env P R => u env (fun ds e => ds.length ≤ sizeLine ∧ P ds e) R
theorem pn_lst {u : WA} (h : PXA X W es u) : PXN X W (.List es pos) (wnLst u) := by
  obtain ⟨t, a1, a2⟩ := h.ex
  refine ⟨⟨_, pe_lst a1, fun F env σ G H P R Q hx hs hw hq hk => a2 F env σ G H _ R _ hx hs hw (fun ds e1 vs G1 H1 p s1 x1 r1 => ⟨by rw [r1.length]; exact p.1, fun l hl => ?_⟩) hk⟩⟩
  exact hq ds e1 l vs G1 _ p.2 (s1.mkPin hl) x1 r1 (s1.pinsNe hl)
/-- list(e) -/
def wnList (w : WE) : WA := fun env P R => w env (fun d e => match d with
  | .lst l => P l e
  | .tup l => P l e
  | .str s => s.cps.size ≤ sizeLine ∧ P (signsD s) e
  | _ => False) R
theorem pn_list {x : Str} {p : Pos} {w : WE} (hc : X.calm = true) (hg : Gl X x) (hm : X.mg x = none) (hv : bootBuiltins x = some (.type "list")) (h : PX X W e w) (hn : x ≠ "__name__" := by decide) (hdb : (x == ("__debug__" : Str)) = false := by decide)
    (he : starEach (e :: []) X.env = (false, eval e X.env) :: starEach [] X.env := by rfl) (hpl : (backTo pos (starEach [] X.env)).any (·.1) = false := by rfl) : PXN X W (.Call (.Name x p) (e :: []) [] pos) (wnList w) := by
  obtain ⟨t, a1, a2⟩ := h.ex
  refine ⟨⟨_, pe_callTy (CallR.or call_list_of (call_list_str' hc)) hg hm hv (pa_cons a1 pa_nil he) hn hdb he hpl, fun F env σ G H P R Q hx hs hw hq hk => a2 F env σ G H _ R _ hx hs hw (fun d e1 v G1 H1 p s1 x1 r1 => ?_) hk⟩⟩
  cases d <;> first | exact p.elim | skip
  · cases r1
    exact .inr ⟨_, rfl, p.1, fun l hl => hq _ e1 l _ G1 _ p.2 (s1.mkPin hl) x1 (signs_rep _) (s1.pinsNe hl)⟩
  · cases r1 with
    | lst h1 r1 => exact .inl ⟨_, _, rfl, .inl (SqL.of (s1.exG _ _ h1)), fun l hl => hq _ e1 l _ G1 _ p (s1.mkPin hl) x1 r1 (s1.pinsNe hl)⟩
  · cases r1 with
    | tup h1 r1 => exact .inl ⟨_, _, rfl, .inr (by rw [← hx.1]; exact s1.exG.t h1), fun l hl => hq _ e1 l _ G1 _ p (s1.mkPin hl) x1 r1 (s1.pinsNe hl)⟩
/-- the pinned list becomes the slot's own -/
theorem SI.own {F : Fc} {env : En} {σ : L2.St} {G H : Hp} {i : Nat} {a : Addr} {vs : List V} {l : List D} (h : SI { F with pins := (a, .lst vs) :: F.pins } env σ G H) (r : Reps F.wd G vs l) (hd : ∀ p ∈ F.pins, p.1 ≠ a) : SI F (env.set i (.ol l)) (σ.set i (some (.ref a))) G H := by
  obtain ⟨q1, q2, q3, q4⟩ := h.pin (a, .lst vs) List.mem_cons_self
  have other : ∀ (j : Nat) (l' : List D), i ≠ j → (env.set i (.ol l))[j]? = some (.ol l') → env[j]? = some (.ol l') := fun j l' hij e => by
    rw [List.getElem?_set_ne hij] at e
    exact e
  refine ⟨h.pre0, h.post, by rw [List.length_set, List.length_set]; exact h.len, fun j s e => ?_, fun j k l1 l2 b hjk e1 e2 e3 => ?_, fun p hp => ?_⟩
  · by_cases hij : i = j
    · subst hij
      rw [List.getElem?_set, if_pos rfl] at e ⊢
      by_cases hl : i < env.length
      · rw [if_pos hl] at e
        cases e
        rw [if_pos (by rw [← h.len]; exact hl)]
        exact ⟨a, vs, rfl, q3, q2, q1, r⟩
      · rw [if_neg hl] at e
        cases e
    · rw [List.getElem?_set_ne hij] at e ⊢
      exact h.sl j s e
  · by_cases hij : i = j
    · subst hij
      by_cases hl : i < σ.length
      · rw [List.getElem?_set, if_pos rfl, if_pos hl] at e3
        cases e3
        rw [List.getElem?_set_ne hjk]
        exact q4 k l2 (other k l2 hjk e2)
      · rw [List.getElem?_set, if_pos rfl, if_neg hl] at e3
        cases e3
    · by_cases hik : i = k
      · subst hik
        rw [List.getElem?_set_ne hij] at e3
        rw [List.getElem?_set, if_pos rfl]
        split
        · intro z
          cases z
          exact q4 j l1 (other j l1 hij e1) e3
        · intro z
          cases z
      · rw [List.getElem?_set_ne hij] at e3
        rw [List.getElem?_set_ne hik]
        exact h.ap j k _ _ b hjk (other j l1 hij e1) (other k l2 hik e2) e3
  · obtain ⟨h1, h2, h3, h4⟩ := h.pin p (List.mem_cons_of_mem _ hp)
    refine ⟨h1, h2, h3, fun j l' e => ?_⟩
    by_cases hij : i = j
    · subst hij
      rw [List.getElem?_set, if_pos rfl]
      split
      · intro z
        cases z
        exact hd p hp rfl
      · intro z
        cases z
    · rw [List.getElem?_set_ne hij]
      exact h4 j l' (other j l' hij e)
/-- the slot's own list becomes another one, in place -/
theorem SI.reown {F : Fc} {env : En} {σ : L2.St} {G H : Hp} {i : Nat} {a : Addr} {us : List V} {l l' : List D} (h : SI F env σ G H) (e : env[i]? = some (.ol l)) (ha : σ[i]? = some (some (.ref a))) (r : Reps F.wd G us l') : SI F (env.set i (.ol l')) σ G (upd H a (.lst us)) := by
  obtain ⟨a', vs, h1, h2, h3, h4, h5⟩ := h.sl i _ e
  rw [ha] at h1
  cases h1
  have hl : i < env.length := (List.getElem?_eq_some_iff.mp e).1
  have na : ∀ x u, G x = some u → x ≠ a := fun x u hx => ne_of_none hx h3
  have back : ∀ (j : Nat) (l2 : List D), (env.set i (.ol l'))[j]? = some (.ol l2) → ∃ l3, env[j]? = some (.ol l3) := fun j l2 ej => by
    by_cases hij : i = j
    · subst hij
      exact ⟨l, e⟩
    · rw [List.getElem?_set_ne hij] at ej
      exact ⟨l2, ej⟩
  refine ⟨h.pre0, ⟨h.post.ex, fun x u hx => ?_, fun x u nb hx => ?_, fun x hx => h.post.new x hx, fun β hβ => ?_⟩, by rw [List.length_set]; exact h.len, fun j s ej => ?_, fun j k l1 l2 b hjk e1 e2 e3 => ?_, fun p hp => ?_⟩
  · rw [upd_ne (na x u hx)]
    exact h.exG _ _ hx
  · rw [upd_ne (ne_of_none hx h2)]
    exact h.post.keep _ _ nb hx
  · obtain ⟨b1, b2, b3⟩ := h.post.bag β hβ
    have ne : β ≠ a := fun z => by
      rw [z] at hβ
      exact (h.pre0.bag a hβ).2.1 h2
    exact ⟨b1, by rw [upd_ne ne]; exact b2, b3.mono (Ex.refl _) (upd_ne ne)⟩
  · by_cases hij : i = j
    · subst hij
      rw [List.getElem?_set, if_pos rfl, if_pos hl] at ej
      cases ej
      exact ⟨a, us, ha, h2, h3, upd_same, r⟩
    · rw [List.getElem?_set_ne hij] at ej
      have q := h.sl j s ej
      cases s with
      | no => trivial
      | v d => exact q
      | ol l2 =>
        obtain ⟨b, ws, q1, q2, q3, q4, q5⟩ := q
        have ne : b ≠ a := fun z => by
          subst z
          exact h.ap i j _ _ _ hij e ej ha q1
        exact ⟨b, ws, q1, q2, q3, by rw [upd_ne ne]; exact q4, q5⟩
  · obtain ⟨m1, f1⟩ := back j l1 e1
    obtain ⟨m2, f2⟩ := back k l2 e2
    exact h.ap j k m1 m2 b hjk f1 f2 e3
  · obtain ⟨q1, q2, q3, q4⟩ := h.pin p hp
    have ne : p.1 ≠ a := fun z => by
      have y := q4 i l e
      rw [z] at y
      exact y ha
    refine ⟨by rw [upd_ne ne]; exact q1, q2, q3, fun j l2 ej => ?_⟩
    obtain ⟨m2, f2⟩ := back j l2 ej
    exact q4 j m2 f2
/-- name = a new list -/
def wsOwn (i : Nat) (w : WA) : WS := fun env K => w env (fun l e => K.nx (e.set i (.ol l))) K.ex
theorem ps_own {i : Nat} {x : Str} {pos' : Pos} {w : WA} (hN : X.N.Nodup) (hi : X.N[i]? = some x) (hx : Loc X.env.scope x) (he : PXN X W e w) (hs : swapsWith e (some (.Name x pos')) pos.line X.env = pure false := by rfl) (hf : X.fn x = true ∨ X.env.scope.names.lookup x = some .local := by first | exact .inl rfl | exact .inr rfl | assumption) :
    PXS X W (.Assign [.Name x pos'] e pos) (wsOwn i w) := by
  obtain ⟨t, a1, a2⟩ := he.ex
  exact ⟨⟨_, ps_set hN hi hx a1 hs hf, fun F env σ G H P Q hx hs hw hq => a2 F env σ G H _ _ _ hx hs hw (fun l e1 a vs G1 H1 p s1 x1 r1 hd => hq.nx _ _ G1 H1 p (s1.own r1 hd) x1) (hq.ex σ)⟩⟩
/-- a, b = two new lists -/
def wsOwn2 (i j : Nat) (w u : WA) : WS := fun env K => w env (fun l e => u e (fun m e2 => K.nx ((e2.set i (.ol l)).set j (.ol m))) K.ex) K.ex
theorem SI.swapPin {F : Fc} {env : En} {σ : L2.St} {G H : Hp} {p q : Addr × HO} {ps : List (Addr × HO)} (h : SI { F with pins := p :: q :: ps } env σ G H) : SI { F with pins := q :: p :: ps } env σ G H :=
  ⟨h.pre0, h.post, h.len, h.sl, h.ap, fun x hx => h.pin x (by
    rcases List.mem_cons.mp hx with z | z
    · rw [z]; exact List.mem_cons_of_mem _ List.mem_cons_self
    · rcases List.mem_cons.mp z with z | z
      · rw [z]; exact List.mem_cons_self
      · exact List.mem_cons_of_mem _ (List.mem_cons_of_mem _ z))⟩
theorem ps_own2 {i j : Nat} {x y : Str} {a b : Expr} {w u : WA} {px py pt : Pos} {kt k2 pt2} (hc : X.calm = true) (hN : X.N.Nodup) (hi : X.N[i]? = some x) (hj : X.N[j]? = some y) (hij : i ≠ j)
    (hx : X.env.scope.names.lookup x = some .local) (hy : X.env.scope.names.lookup y = some .local) (ha : PXN X W a w) (hb : PXN X W b u)
    (hw : swappedStores [.Tuple [.Name x px, .Name y py] kt pt] (.Tuple [a, b] k2 pt2) X.env = pure (some [x, y]))
    (hs : swapsWithSole [.Tuple [.Name x px, .Name y py] kt pt] (.Tuple [a, b] k2 pt2) pos.line X.env = pure false := by rfl)
    (h1 : starEach (a :: [b]) X.env = (false, eval a X.env) :: starEach [b] X.env := by rfl) (h2 : starEach (b :: []) X.env = (false, eval b X.env) :: starEach [] X.env := by rfl) :
    PXS X W (.Assign [.Tuple [.Name x px, .Name y py] kt pt] (.Tuple [a, b] k2 pt2) pos) (wsOwn2 i j w u) := by
  obtain ⟨ta, a1, a2⟩ := ha.ex
  obtain ⟨tb, b1, b2⟩ := hb.ex
  refine ⟨⟨_, ps_par hc hN hi hj hij hx hy (pa_cons a1 (pa_cons b1 pa_nil h2) h1) hw hs, fun F env σ G H P Q hx hs hw hq => a2 F env σ G H _ _ _ hx hs hw (fun l e1 p vs G1 H1 p1 s1 x1 r1 hd1 => ?_) (hq.ex σ)⟩⟩
  refine b2 { F with pins := (p, .lst vs) :: F.pins } e1 σ G1 H1 _ P.ex _ hx s1 p1 (fun m e2 q us G2 H2 p2 s2 x2 r2 hd2 => ?_) ?_
  · have npq : p ≠ q := hd2 (p, .lst vs) List.mem_cons_self
    refine ⟨_, _, rfl, hq.nx _ _ G2 H2 p2 ?_ (x1.trans x2)⟩
    have s3 : SI { F with pins := (q, .lst us) :: F.pins } (e2.set i (.ol l)) (σ.set i (some (.ref p))) G2 H2 :=
      SI.own (F := { F with pins := (q, .lst us) :: F.pins }) s2.swapPin (r1.mono x2) (fun z hz => by
        rcases List.mem_cons.mp hz with y | y
        · rw [y]; exact fun h => npq h.symm
        · exact hd1 z y)
    exact s3.own r2 (fun z hz => hd2 z (List.mem_cons_of_mem _ hz))
  · intro x env' cls dct G' H' h s r
    refine hq.ex σ x env' cls dct G' H' h ?_ r
    exact ⟨s.pre0, s.post, s.len, s.sl, s.ap, fun z hz => s.pin z (List.mem_cons_of_mem _ hz)⟩
/-! reading an own list -/
def wLenV (i : Nat) : WE := fun env P _ => match env[i]? with
  | some (.ol l) => P (.int (l.length : Int)) env
  | some (.v d) => rdLen [d] fun z => P z env
  | _ => False
theorem px_lenV (i : Nat) {x f : Str} {p pos' : Pos} (hg : Gl X f) (hm : X.mg f = none) (hv : bootBuiltins f = some (.builtin "len")) (h : PE X (.Name x pos') (tVar i)) (hn : f ≠ "__name__" := by decide) (hdb : (f == ("__debug__" : Str)) = false := by decide)
    (he : starEach (.Name x pos' :: []) X.env = (false, eval (.Name x pos') X.env) :: starEach [] X.env := by rfl) (hpl : (backTo pos (starEach [] X.env)).any (·.1) = false := by rfl) : PX X W (.Call (.Name f p) (.Name x pos' :: []) [] pos) (wLenV i) := by
  refine ⟨⟨_, pe_callB call_len hg hm hv (pa_cons h pa_nil he) hn hdb he hpl, fun F env σ G H P R Q hx hs hw hq hk => ?_⟩⟩
  unfold wLenV at hw
  cases e : env[i]? with
  | none => rw [e] at hw; exact hw.elim
  | some s =>
    rw [e] at hw
    cases s with
    | no => exact hw.elim
    | ol l =>
      obtain ⟨a, vs, h1, h2, h3, h4, h5⟩ := hs.sl i _ e
      exact ⟨_, h1, _, _, rfl, .inl ⟨_, SqL.of h4, h5.length.symm⟩, hq _ env _ G H hw hs (Ex.refl _) .int⟩
    | v d =>
      obtain ⟨v, h1, h2⟩ := hs.sl i _ e
      refine ⟨_, h1, ?_⟩
      unfold rdLen at hw
      cases d <;> first | exact hw.elim | skip
      · cases h2
        exact ⟨_, _, rfl, ⟨hw.1, rfl⟩, hq _ env _ G H hw.2 hs (Ex.refl _) .int⟩
      · cases h2 with
        | lst l1 r1 => exact ⟨_, _, rfl, .inl ⟨_, SqL.of (hs.exG _ _ l1), r1.length.symm⟩, hq _ env _ G H hw hs (Ex.refl _) .int⟩
      · cases h2 with
        | tup l1 r1 => exact ⟨_, _, rfl, .inr ⟨_, by rw [← hx.1]; exact hs.exG.t l1, r1.length.symm⟩, hq _ env _ G H hw hs (Ex.refl _) .int⟩
/-- x[k], x in a slot -/
def wIxV (i : Nat) (wb : WE) : WE := fun env P R => match env[i]? with
  | some (.ol _) => wb env (fun k e1 => match k, e1[i]? with
    | .int k, some (.ol l) => ∃ d, atI l k = some d ∧ P d e1
    | _, _ => False) R
  | some (.v d) => wb env (fun k e1 => rdIx d k fun z => P z e1) R
  | _ => False
/-- x.append(e), x the frame's own list -/
def wsApp (i : Nat) (w : WE) : WS := fun env K => match env[i]? with
  | some (.ol _) => w env (fun d e1 => match e1[i]? with
    | some (.ol l) => l.length < 100000 ∧ K.nx (e1.set i (.ol (l ++ [d])))
    | _ => False) K.ex
  | _ => False
theorem ps_app {i : Nat} {x : Str} {w : WE} {pos' apos cpos : Pos} (h : PE X (.Name x pos') (tVar i)) (he : PX X W e w) (hs : swapsWith (.Call (.Attribute (.Name x pos') "append" apos) [e] [] cpos) none pos.line X.env = pure false := by rfl)
    (hbase : attributeBase (.Name x pos') "append" X.env (eval (.Name x pos') X.env) = eval (.Name x pos') X.env := by rfl)
    (hfew : ((backTo cpos (starEach (e :: []) X.env)).all (fun x => !x.1) && (backToKw cpos (keywordEach [] X.env)).all (fun x => x.1.isSome)
      && decide ((e :: []).length + ([] : List Keyword).length + (if ([] : List Keyword).isEmpty then 0 else 1) < 30)) = true := by rfl)
    (hline : (apos.endLine == cpos.line) = true := by rfl) (hst : starEach (e :: []) X.env = (false, eval e X.env) :: starEach [] X.env := by rfl) (hplain : (backTo cpos (starEach [] X.env)).any (·.1) = false := by rfl) :
    PXS X W (.Expr (.Call (.Attribute (.Name x pos') "append" apos) [e] [] cpos) pos) (wsApp i w) := by
  obtain ⟨t, a1, a2⟩ := he.ex
  refine ⟨⟨_, ps_expr (pe_bm PySem.F.plainAttrs_list PySem.F.slot_list_append PySem.F.type_list_append mt_append h (pa_cons a1 pa_nil hst) hbase hfew hline hst hplain) hs, fun F env σ G H P Q hx hs hw hq => ?_⟩⟩
  unfold wsApp at hw
  cases e0 : env[i]? with
  | none => rw [e0] at hw; exact hw.elim
  | some s =>
    rw [e0] at hw
    cases s with
    | no => exact hw.elim
    | v d => exact hw.elim
    | ol l0 =>
      obtain ⟨a, vs, h1, h2, h3, h4, h5⟩ := hs.sl i _ e0
      refine ⟨_, h1, .inl ⟨rfl, _, SqL.of h4⟩, a2 F env σ G H _ _ _ hx hs hw (fun d e1 v G1 H1 p s1 x1 r1 => ?_) (hq.ex σ)⟩
      cases e2 : e1[i]? with
      | none => rw [e2] at p; exact p.elim
      | some s =>
        rw [e2] at p
        cases s with
        | no => exact p.elim
        | v d => exact p.elim
        | ol l =>
          obtain ⟨a', us, g1, g2, g3, g4, g5⟩ := s1.sl i _ e2
          rw [h1] at g1
          cases g1
          have hz : (100000 : Nat) ≤ sizeLine := by decide
          have hl := g5.length
          exact ⟨a, us, v, rfl, rfl, g4, by omega, hq.nx _ _ G1 _ p.2 (s1.reown e2 h1 (g5.append (.cons r1 .nil))) x1⟩
/-- x.pop(k) -/
def wPopV (i : Nat) (w : WE) : WE := fun env P R => match env[i]? with
  | some (.ol _) => w env (fun k e1 => match k, e1[i]? with
    | .int k, some (.ol l) => 0 ≤ k ∧ l.length ≤ 100000 ∧ ∃ d, l[k.toNat]? = some d ∧ P d (e1.set i (.ol (l.eraseIdx k.toNat)))
    | _, _ => False) R
  | _ => False
theorem Reps.erase {w : Wd} {G : Hp} : ∀ {vs : List V} {ds : List D} (n : Nat), Reps w G vs ds → Reps w G (vs.eraseIdx n) (ds.eraseIdx n)
  | _, _, _, .nil => .nil
  | _, _, 0, .cons _ t => t
  | _, _, n + 1, .cons r t => .cons r (t.erase n)
theorem px_popV (i : Nat) {x : Str} {w : WE} {pos' apos cpos : Pos} (h : PE X (.Name x pos') (tVar i)) (he : PX X W e w)
    (hbase : attributeBase (.Name x pos') "pop" X.env (eval (.Name x pos') X.env) = eval (.Name x pos') X.env := by rfl)
    (hfew : ((backTo cpos (starEach (e :: []) X.env)).all (fun x => !x.1) && (backToKw cpos (keywordEach [] X.env)).all (fun x => x.1.isSome)
      && decide ((e :: []).length + ([] : List Keyword).length + (if ([] : List Keyword).isEmpty then 0 else 1) < 30)) = true := by rfl)
    (hline : (apos.endLine == cpos.line) = true := by rfl) (hst : starEach (e :: []) X.env = (false, eval e X.env) :: starEach [] X.env := by rfl) (hplain : (backTo cpos (starEach [] X.env)).any (·.1) = false := by rfl) :
    PX X W (.Call (.Attribute (.Name x pos') "pop" apos) [e] [] cpos) (wPopV i w) := by
  obtain ⟨t, a1, a2⟩ := he.ex
  refine ⟨⟨_, pe_bm PySem.F.plainAttrs_list PySem.F.slot_list_pop PySem.F.type_list_pop mt_popAt h (pa_cons a1 pa_nil hst) hbase hfew hline hst hplain, fun F env σ G H P R Q hx hs hw hq hk => ?_⟩⟩
  unfold wPopV at hw
  cases e0 : env[i]? with
  | none => rw [e0] at hw; exact hw.elim
  | some s =>
    rw [e0] at hw
    cases s with
    | no => exact hw.elim
    | v d => exact hw.elim
    | ol l0 =>
      obtain ⟨a, vs, h1, h2, h3, h4, h5⟩ := hs.sl i _ e0
      refine ⟨_, h1, .inl ⟨rfl, _, SqL.of h4⟩, a2 F env σ G H _ _ _ hx hs hw (fun d e1 v G1 H1 p s1 x1 r1 => ?_) hk⟩
      cases e2 : e1[i]? with
      | none => rw [e2] at p; cases d <;> exact p.elim
      | some s =>
        rw [e2] at p
        cases d <;> first | exact p.elim | skip
        cases s with
        | no => exact p.elim
        | v d => exact p.elim
        | ol l =>
          cases r1
          obtain ⟨p0, p1, d, p2, p3⟩ := p
          obtain ⟨a', us, g1, g2, g3, g4, g5⟩ := s1.sl i _ e2
          rw [h1] at g1
          cases g1
          obtain ⟨v, q1, q2⟩ := g5.getD p2
          have hlt := (List.getElem?_eq_some_iff.mp q1).1
          have hl := g5.length
          rename_i k
          refine ⟨a, us, k, k.toNat, v, rfl, rfl, g4, by omega, by omega, ?_, q1, hq _ _ _ G1 _ p3 (s1.reown e2 h1 (g5.erase _)) x1 q2⟩
          unfold seqIndex?
          have e3 : (if k < 0 then k + (us.length : Int) else k) = k := if_neg (by omega)
          show (if (decide (0 ≤ (if k < 0 then k + (us.length : Int) else k)) && decide ((if k < 0 then k + (us.length : Int) else k) < (us.length : Int))) = true then some (if k < 0 then k + (us.length : Int) else k).toNat else none) = _
          rw [e3, decide_eq_true p0, decide_eq_true (show k < (us.length : Int) by omega)]
          rfl
end
end Pu
set_option maxRecDepth 100000
/-! Constants of the module that are tuples or dicts; targets of many names -/
namespace Pu
open PySem L2 PySem.Spec PyProof.Rows
/-- a tuple that the top has written -/
def KTup (K : PySem.W.Frag) (a : Addr) (vs : List V) : Prop := ∃ (o : Obj) (its : Array Value) (n : Nat), K.lookup a = some o ∧ o.cls = .type "tuple" ∧ o.data = .seq its n ∧ its.size ≤ sizeLine ∧ Vals vs its.toList
theorem kd_all {K : PySem.W.Frag} {w : World} {a : Addr} {es : Array DictEntry} {n : Nat} {l : List (Str × Int)} (h : K.lookup a = some ⟨.type "dict", none, .dict es n, #[]⟩) (hk : PySem.W.KeysLit w.params es.toList) (hq : ∀ q ∈ l, ∃ t, PySem.W.nsIn K a q.1 = some (some (.int q.2 t))) :
    ∀ q ∈ l, KDct K w a q.1 (.int q.2) := fun q hm => by
  obtain ⟨t, e⟩ := hq q hm
  exact ⟨es, n, _, h, hk, e, ⟨t, rfl⟩⟩
section
variable {X : Cx} {W : WX}
theorem px_globT {x : Str} {vs : List V} {ds : List D} {pos : Pos} (hg : Gl X x) (hm : ∃ a, X.mg x = some (.ref a) ∧ KTup X.K a vs) (hr : ∀ w G, Reps w G vs ds) (hd : (x == ("__debug__" : Str)) = false := by decide) : PX X W (.Name x pos) (wC (.tup ds)) := by
  obtain ⟨a, h1, h2⟩ := hm
  refine ⟨⟨_, pe_glob (v := .ref a) hg h1 rfl hd, fun F env σ G H P R Q hx hs hw hq hk => ?_⟩⟩
  refine hq _ env _ G H hw hs (Ex.refl _) (.tup (.inr ?_) (hr _ _))
  rw [hx.1]
  exact h2
def wKD (tb : List (Str × Int)) (w : WE) : WE := fun env P R => w env (fun d e => match d with
  | .str s => ∃ v, (s, v) ∈ tb ∧ P (.int v) e
  | _ => False) R
theorem px_kd {x : Str} {tb : List (Str × Int)} {b : Expr} {wb : WE} {p pos : Pos} (hg : Gl X x) (hm : ∃ a, X.mg x = some (.ref a) ∧ ∀ q ∈ tb, KDct X.K X.w a q.1 (.int q.2)) (hb : PX X W b wb) (hs : PlainIx b) (hd : (x == ("__debug__" : Str)) = false := by decide) :
    PX X W (.Subscript (.Name x p) b pos) (wKD tb wb) := by
  obtain ⟨a, h1, h2⟩ := hm
  obtain ⟨t, b1, b2⟩ := hb.ex
  refine ⟨⟨_, pe_ix ix_kdict (pe_glob (v := .ref a) hg h1 rfl hd) b1 hs, fun F env σ G H P R Q hx hs hw hq hk => b2 F env σ G H _ R _ hx hs hw (fun d e1 v G1 H1 p s1 x1 r1 => ?_) hk⟩⟩
  cases d <;> first | exact p.elim | skip
  cases r1
  obtain ⟨v, h3, h4⟩ := p
  exact ⟨a, _, .int v, rfl, rfl, h2 _ h3, hq _ e1 _ G1 H1 h4 s1 x1 .int⟩
/-! ### targets: a tuple of any number of names -/
abbrev WGs := List D → En → (En → Prop) → Prop
structure PXGs (X : Cx) (ts : List Expr) (own : List Nat) (w : WGs) : Prop where
  ex : ∃ g : TGs, PGs X ts g ∧ ∀ (F : Fc) (env : En) (σ : L2.St) (G H : Hp) (vs : List V) (ds : List D) (P : En → Prop) (Q : L2.St → Hp → Prop), XOk X F → SI F env σ G H → Reps F.wd G vs ds → w ds env P →
    (∀ env' σ', P env' → SI F env' σ' G H → (∀ ws : List Nat, (∀ i ∈ own, i ∈ ws) → wipe σ' ws = wipe σ ws) → Q σ' H) → g vs σ H Q
def wgNil : WGs := fun ds env P => match ds with
  | [] => P env
  | _ => False
def wgCons (g : WG) (gs : WGs) : WGs := fun ds env P => match ds with
  | d :: r => g d env fun e => gs r e P
  | [] => False
def wgTup (n : Nat) (gs : WGs) : WG := fun d env P => match d with
  | .tup ds => ds.length = n ∧ gs ds env P
  | _ => False
theorem pgs_nil' : PXGs X [] [] wgNil := by
  refine ⟨⟨_, pgs_nil, fun F env σ G H vs ds P Q hx hs hr hw hq => ?_⟩⟩
  cases hr with
  | nil => exact ⟨rfl, hq env σ hw hs fun _ _ => rfl⟩
  | cons _ _ => exact hw.elim
theorem pgs_cons' {e : Expr} {es : List Expr} {g : WG} {gs : WGs} {o1 o2 : List Nat} (h1 : PXG X e o1 g) (h2 : PXGs X es o2 gs)
    (hs : (assignEach (e :: es) X.env).map (·.2) = assign e X.env :: (assignEach es X.env).map (·.2) := by rfl) : PXGs X (e :: es) (o1 ++ o2) (wgCons g gs) := by
  obtain ⟨t1, a1, a2⟩ := h1.ex
  obtain ⟨t2, b1, b2⟩ := h2.ex
  refine ⟨⟨_, pgs_cons a1 b1 hs, fun F env σ G H vs ds P Q hx hs hr hw hq => ?_⟩⟩
  cases hr with
  | nil => exact hw.elim
  | @cons v d vs ds r rs =>
    refine ⟨v, vs, rfl, a2 F env σ G H v d _ _ hx hs r hw fun e1 σ1 p1 s1 w1 => ?_⟩
    refine b2 F e1 σ1 G H vs ds P Q hx s1 rs p1 fun e2 σ2 p2 s2 w2 => hq e2 σ2 p2 s2 fun ws hws => ?_
    rw [w2 ws fun i hi => hws i (List.mem_append_right _ hi), w1 ws fun i hi => hws i (List.mem_append_left _ hi)]
theorem pg_tupN {es : List Expr} {gs : WGs} {own : List Nat} {kk n pos} (hc : X.calm = true) (h : PXGs X es own gs) (hn : (assignEach es X.env).length = n := by rfl) (hst : (assignEach es X.env).findIdx? (·.1) = none := by rfl) : PXG X (.Tuple es kk pos) own (wgTup n gs) := by
  obtain ⟨t1, a1, a2⟩ := h.ex
  refine ⟨⟨_, pg_tup hc a1 hn hst, fun F env σ G H v d P Q hx hs hr hw hq => ?_⟩⟩
  unfold wgTup at hw
  split at hw
  · cases hr with
    | tup l1 l2 => exact ⟨_, _, rfl, by rw [← hx.1]; exact hs.exG.t l1, by rw [l2.length]; exact hw.1, a2 F env σ G H _ _ P Q hx hs l2 hw.2 hq⟩
  · exact hw.elim
end
end Pu
set_option maxRecDepth 100000
/-! a op1 b op2 c op3 d -/
namespace Pu
open PySem L2 PySem.Spec PyProof.Rows
def tChain3 (r r' r'' : R2) (ta tb tc td : TE) : TE := fun σ H Q => ta σ H fun x H1 => tb σ H1 fun y H2 => r x y H2 fun z H3 => ∃ k, z = .bl k ∧
  (if k = true then tc σ H3 fun w' H4 => r' y w' H4 fun z' H5 => ∃ k', z' = .bl k' ∧ (if k' = true then td σ H5 fun u' H6 => r'' w' u' H6 Q else Q (.bl false) H5) else Q (.bl false) H3)
section
variable {X : Cx} {W : WX} {a b c d : Expr} {ta tb tc td : TE} {pos : Pos}
theorem pe_chain3 {op op' op'' : CmpOp} {r r' r'' : R2} (ho : OpR X (compareOp op) r) (ho' : OpR X (compareOp op') r') (ho'' : OpR X (compareOp op'') r'') (ha : PE X a ta) (hb : PE X b tb) (hc : PE X c tc) (hd : PE X d td)
    (hm : lastMarks [op, op', op''] [b, c, d] = false := by with_unfolding_all rfl) : PE X (.Compare a [op, op', op''] [b, c, d] pos) (tChain3 r r' r'' ta tb tc td) := by
  refine ⟨fun pins s σ H Q I h => ?_⟩
  refine Compare_chain (thn (ha.run pins s σ H _ I h) fun v s1 ⟨x, H1, I1, r1, q1⟩ => chain_link (thn (hb.run pins s1 σ H1 _ I1 q1) fun u s2 ⟨y, H2, I2, r2, q2⟩ =>
    thn (ho pins s2 σ H2 x y v u _ I2 r1 r2 q2) fun d s3 ⟨z, H3, I3, r3, k, e, q3⟩ => ?_)) hm
  subst e
  cases r3
  refine wpAny_truthy_bool ?_
  cases k with
  | false => exact ite_ff ⟨.bl false, H3, I3, rfl, q3⟩
  | true =>
    refine ite_tt (chain_link (thn (hc.run pins s3 σ H3 _ I3 q3) fun w' s4 ⟨z', H4, I4, r4, q4⟩ => thn (ho' pins s4 σ H4 y z' u w' _ I4 r2 r4 q4) fun d2 s5 ⟨z2, H5, I5, r5, k2, e2, q5⟩ => ?_))
    subst e2
    cases r5
    refine wpAny_truthy_bool ?_
    cases k2 with
    | false => exact ite_ff ⟨.bl false, H5, I5, rfl, q5⟩
    | true => exact ite_tt (chain_last (thn (hd.run pins s5 σ H5 _ I5 q5) fun w2 s6 ⟨z3, H6, I6, r6, q6⟩ => ho'' pins s6 σ H6 z' z3 w' w2 Q I6 r4 r6 q6))
def wChain3 (r r' r'' : RD2) (wa wb wc wd : WE) : WE := fun env P R => wa env (fun x e1 => wb e1 (fun y e2 => r x y fun z => match z with
  | .bl true => wc e2 (fun u e3 => r' y u fun z' => match z' with
    | .bl true => wd e3 (fun u' e4 => r'' u u' fun z'' => P z'' e4) R
    | .bl false => P (.bl false) e3
    | _ => False) R
  | .bl false => P (.bl false) e2
  | _ => False) R) R
theorem px_chain3 {op op' op'' : CmpOp} {r r' r'' : RD2} {wa wb wc wd : WE} (ho : PR2 X (compareOp op) r) (ho' : PR2 X (compareOp op') r') (ho'' : PR2 X (compareOp op'') r'') (ha : PX X W a wa) (hb : PX X W b wb) (hc : PX X W c wc) (hd : PX X W d wd)
    (hm : lastMarks [op, op', op''] [b, c, d] = false := by with_unfolding_all rfl) : PX X W (.Compare a [op, op', op''] [b, c, d] pos) (wChain3 r r' r'' wa wb wc wd) := by
  obtain ⟨r0, h1, hr⟩ := ho
  obtain ⟨r1, h3, hr'⟩ := ho'
  obtain ⟨r2, h5, hr''⟩ := ho''
  obtain ⟨ta, a1, a2⟩ := ha.ex
  obtain ⟨tb, b1, b2⟩ := hb.ex
  obtain ⟨tc, c1, c2⟩ := hc.ex
  obtain ⟨td, d1, d2⟩ := hd.ex
  refine ⟨⟨_, pe_chain3 h1 h3 h5 a1 b1 c1 d1 hm, fun F env σ G H P R Q hx hs hw hq hk => ?_⟩⟩
  refine a2 F env σ G H _ R _ hx hs hw (fun x e1 vx G1 H1 p1 s1 x1 q1 => ?_) hk
  refine b2 F e1 σ G1 H1 _ R _ hx s1 p1 (fun y e2 vy G2 H2 p2 s2 x2 q2 => ?_) hk
  refine hr F.wd G2 H2 x y vx vy _ _ hx.1 hx.2 s2.pre (q1.mono x2) q2 p2 fun z v G3 H3 p po rz => ?_
  have s3 := s2.step po
  have x3 := (x1.trans x2).trans po.ex
  cases z <;> first | exact p.elim | skip
  rename_i k
  cases rz
  cases k with
  | false => exact ⟨false, rfl, iteF (hq _ e2 _ G3 H3 p s3 x3 .bl)⟩
  | true =>
    refine ⟨true, rfl, iteT ?_⟩
    refine c2 F e2 σ G3 H3 _ R _ hx s3 p (fun u e3 vu G4 H4 p4 s4 x4 q4 => ?_) hk
    refine hr' F.wd G4 H4 y u vy vu _ _ hx.1 hx.2 s4.pre ((q2.mono po.ex).mono x4) q4 p4 fun z v G5 H5 p po' rz => ?_
    have s5 := s4.step po'
    have x5 := (x3.trans x4).trans po'.ex
    cases z <;> first | exact p.elim | skip
    rename_i k
    cases rz
    cases k with
    | false => exact ⟨false, rfl, iteF (hq _ e3 _ G5 H5 p s5 x5 .bl)⟩
    | true =>
      refine ⟨true, rfl, iteT ?_⟩
      refine d2 F e3 σ G5 H5 _ R _ hx s5 p (fun u' e4 vu' G6 H6 p6 s6 x6 q6 => ?_) hk
      exact hr'' F.wd G6 H6 u u' vu vu' _ Q hx.1 hx.2 s6.pre ((q4.mono po'.ex).mono x6) q6 p6 fun z v G' H' p po'' rz => hq z e4 v G' H' p (s6.step po'') ((x5.trans x6).trans po''.ex) rz
end
end Pu
set_option maxRecDepth 100000
/-! More of the helpers that every law has, over data -/
namespace Pu
open PySem L2 PySem.Spec PyProof.Rows
/-- a def's promise: what its own body's reading says -/
abbrev FW (n : Nat) (ws : WS) : FT := fun ds P R => ws (startE n ds) { nx := fun _ => P .non, rt := P, ex := fun x _ => R x }
def w_law_mixed (F_law_draw : FT) : WS :=
    (wsSeq (wsOwn2 2 3 (wnList (wVar 1)) (wnLst wNil))
    (wsSeq (wsFor (wRng1 (wCB rdLen (wCons (wVar 1) wNil))) (wgName 4)
    (wsApp 3 (wPopV 2 (wCall (fun ds P R => ds.length = 2 ∧ F_law_draw ds P R) [] (wCons (wVar 0) (wCons (wLenV 2) wNil))))))
    (wsRet (wVar 3))))
/-- an if without else, its way back left out -/
theorem st_ifN {c : WT} {t b : WS} {env : En} {K : EnD} (k : Bool) (hc : ∀ Pk : Bool → En → Prop, Pk k env → c env Pk K.ex) (ht : k = true → t env { K with nx := fun e => b e K }) (he : k = false → b env K) : wsSeq (wsIf c t wsNext) b env K := hc _ (by
  cases k with
  | true => exact ht rfl
  | false => exact he rfl)
/-- any order of a list -/
def F_mixed : FT := fun ds P _ => ∃ l, (ds = [.bag, .lst l] ∨ ds = [.bag, .tup l]) ∧ l.length ≤ 1000 ∧ ∀ l', l'.Perm l → P (.lst l')
theorem erase_perm : ∀ (l : List D) (n : Nat) (d : D), l[n]? = some d → (d :: l.eraseIdx n).Perm l
  | [], n, d, h => by simp at h
  | x :: l, 0, d, h => by
    simp at h
    subst h
    exact .refl _
  | x :: l, n + 1, d, h => by
    simp at h
    exact (List.Perm.swap x d _).trans ((erase_perm l n d h).cons x)
theorem mixed_loop (l : List D) (s : Sl) (hl : l.length ≤ 1000) (K : EnD) (hK : ∀ l' x2 x4, l'.Perm l → K.nx [.v .bag, s, x2, .ol l', x4]) : ∀ (ds left found : List D) (x4 : Sl), ds.length = left.length → (found ++ left).Perm l →
    wsForL (wgName 4) (wsApp 3 (wPopV 2 (wCall (fun ds P R => ds.length = 2 ∧ F_draw ds P R) [] (wCons (wVar 0) (wCons (wLenV 2) wNil))))) K ds [.v .bag, s, .ol left, .ol found, x4] := by
  intro ds
  induction ds with
  | nil =>
    intro left found x4 h1 h2
    cases left with
    | nil =>
      rw [List.append_nil] at h2
      exact hK found _ _ h2
    | cons _ _ => cases h1
  | cons x ds ih =>
    intro left found x4 h1 h2
    have hlen : found.length + left.length = l.length := by
      have := h2.length_eq
      rw [List.length_append] at this
      exact this
    have h1' : ds.length + 1 = left.length := h1
    refine ⟨rfl, (left.length : Int), rfl, by omega, log_small (by omega), fun v a b => ?_⟩
    have hv : v.toNat < left.length := by omega
    refine ⟨a, by omega, left[v.toNat], List.getElem?_eq_getElem hv, by omega, ?_⟩
    refine ih (left.eraseIdx v.toNat) (found ++ [left[v.toNat]]) _ ?_ ?_
    · rw [List.length_eraseIdx, if_pos hv]
      omega
    · rw [List.append_assoc]
      exact ((erase_perm left v.toNat _ (List.getElem?_eq_getElem hv)).append_left found).trans h2
theorem pure_law_mixed (ds : List D) (P : D → Prop) (R : DX → Prop) (_ : ds.length = 2) (h : F_mixed ds P R) : w_law_mixed F_draw (startE 5 ds) { nx := fun _ => P .non, rt := P, ex := fun x _ => R x } := by
  obtain ⟨l, hd, hl, hP⟩ := h
  have hr : (rangeD 0 (Int.toNat (l.length : Int))).length = l.length := by unfold rangeD; rw [List.length_map, List.length_range]; omega
  have b1 : -(2 ^ 62) ≤ (l.length : Int) := by omega
  have b2 : (l.length : Int) < 2 ^ 62 := by omega
  rcases hd with rfl | rfl
  · refine ⟨Nat.zero_le _, ⟨b1, b2⟩, ?_⟩
    exact mixed_loop l _ hl _ (fun l' _ _ h => hP l' h) _ l [] _ hr (by rw [List.nil_append])
  · refine ⟨Nat.zero_le _, ⟨b1, b2⟩, ?_⟩
    exact mixed_loop l _ hl _ (fun l' _ _ h => hP l' h) _ l [] _ hr (by rw [List.nil_append])
end Pu
set_option maxRecDepth 100000
/-! Parts, over data -/
namespace Pu
open PySem L2 PySem.Spec PyProof.Rows
/-- plain data of a depth, its texts short -/
def pl : Nat → D → Bool
  | _, .non => true
  | _, .bl _ => true
  | _, .int _ => true
  | _, .str s => decide (s.length ≤ 100000)
  | n + 1, .lst l => decide (l.length ≤ 100000) && l.all (pl n)
  | n + 1, .tup l => decide (l.length ≤ 100000) && l.all (pl n)
  | _, _ => false
theorem sz_of {n : Nat} (h : n ≤ 100000) : n ≤ sizeLine := Nat.le_trans h (by decide)
theorem pl_tup {n : Nat} {l : List D} (h : pl n (.tup l) = true) : ∃ m, n = m + 1 ∧ l.length ≤ 100000 ∧ ∀ x ∈ l, pl m x = true := by
  cases n with
  | zero => cases h
  | succ m =>
    have h' : (decide (l.length ≤ 100000) && l.all (pl m)) = true := h
    rw [Bool.and_eq_true, decide_eq_true_iff] at h'
    exact ⟨m, rfl, h'.1, List.all_eq_true.mp h'.2⟩
theorem pl_isT {n : Nat} {d : D} (h : pl n d = true) (T : TyN) : ∃ b, isTD d T = some b := by
  cases d <;> cases T <;> first | exact ⟨_, rfl⟩ | (cases n <;> cases h)
def isNameB : D → Bool
  | .str s => isName s
  | _ => false
theorem nameB_ok {n : Nat} {d : D} (h : pl n d = true) : isNameD d = some (isNameB d) := by
  cases d with
  | str s =>
    have h' : decide (s.length ≤ 100000) = true := by cases n <;> exact h
    exact if_pos (sz_of (of_decide_eq_true h'))
  | bag => cases n <;> cases h
  | ins _ _ => cases n <;> cases h
  | _ => rfl
/-! ### is_integer_value -/
def w_is_integer_value  : WS :=
    (wsRet (wAndV (wIsi .int (wVar 0)) (wNotV (wIsi .bool (wVar 0)))))
def isIntB : D → Bool
  | .int _ => true
  | _ => false
def F_iv : FT := fun ds P _ => ∃ d n, ds = [d] ∧ pl n d = true ∧ P (.bl (isIntB d))
theorem pure_iv (ds : List D) (P : D → Prop) (R : DX → Prop) (_ : ds.length = 1) (h : F_iv ds P R) : w_is_integer_value (startE 1 ds) { nx := fun _ => P .non, rt := P, ex := fun x _ => R x } := by
  obtain ⟨d, n, rfl, hd, hP⟩ := h
  cases d <;> first | exact hP | (cases n <;> cases hd)
/-! ### is_end -/
def w_is_end (F_is_name : FT) : WS :=
    (wsRet (wOrV (wCall (fun ds P R => ds.length = 1 ∧ F_is_name ds P R) [] (wCons (wVar 0) wNil)) (wAndV (wIsi .str (wVar 0)) (wOp rdEq (wVar 0) (wC (.str "ground"))))))
def isEndB : D → Bool
  | .str s => isName s || decide (s = groundS)
  | _ => false
def F_is_end : FT := fun ds P _ => ∃ d n, ds = [d] ∧ pl n d = true ∧ P (.bl (isEndB d))
theorem pure_is_end (ds : List D) (P : D → Prop) (R : DX → Prop) (_ : ds.length = 1) (h : F_is_end ds P R) : w_is_end F_is_name (startE 1 ds) { nx := fun _ => P .non, rt := P, ex := fun x _ => R x } := by
  obtain ⟨d, n, rfl, hd, hP⟩ := h
  refine ⟨rfl, d, isNameB d, rfl, nameB_ok hd, ?_⟩
  cases d with
  | str s =>
    show match D.bl (isName s) with | .bl true => _ | .bl false => _ | _ => _
    have hP' : P (.bl (isName s || decide (s = groundS))) := hP
    cases e : isName s with
    | true => rw [e] at hP'; exact hP'
    | false =>
      rw [e] at hP'
      exact hP'
  | bag => cases n <;> cases hd
  | ins _ _ => cases n <;> cases hd
  | _ => exact hP
/-- all(f(x) for the items), f's answer a bool that f tells -/
theorem lc_all {F : FT} {i : Nat} {f : D → Bool} {env : En} {P : D → En → Prop} {R : QX} {l : List D} {wi : WA} (hl : l.length ≤ 100000) (hi : i < env.length) (hwi : ∀ Pk : List D → En → Prop, Pk l env → wi env Pk R) (hF : ∀ x ∈ l, ∀ Q R, Q (.bl (f x)) → F [x] Q R)
    (hP : P (.bl (l.all f)) (backE env env [i])) : wCB rdAll (wCons (wLc [i] wi (wgName i) wYes (wCall (fun ds P R => ds.length = 1 ∧ F ds P R) [] (wCons (wVar i) wNil))) wNil) env P R := by
  show wLc [i] wi (wgName i) wYes _ env (fun d e => rdAll [d] fun z => P z e) R
  refine wLc_in (fun ds => ds = l) (fun x d => d = .bl (f x)) (fun Pk h => hwi _ (h _ rfl)) (fun ds h => by rw [h]; exact hl) (fun ds h x hx Pk hk => ?_) (fun ds out h ho => ?_)
  · subst h
    have hlen : i < (wipeE env [i]).length := by rw [wipeE_length]; exact hi
    have e : ((wipeE env [i]).set i (.v x))[i]? = some (.v x) := by rw [List.getElem?_set, if_pos rfl, if_pos hlen]
    dsimp only [wgName, wCall, wCons, wVar, wNil]
    rw [e]
    refine ⟨rfl, hF x hx _ _ (hk _ _ rfl ?_)⟩
    show ((((env.set i .no).set i (.v x)).set i .no) : En) = (env.set i .no)
    rw [List.set_set, List.set_set]
  · subst h
    have key : ∀ {l out : List D}, Rels (fun x d => d = .bl (f x)) l out → bools out = some (l.map f) := by
      intro l out h
      rw [h.eq_map]
      exact bools_map f l
    refine ⟨_, key ho, ?_⟩
    rw [List.all_map]
    exact hP
/-! ### are_places -/
def w_are_places (F_is_end : FT) : WS :=
    (wsSeq (wsIf (wOr (wNot (wTest (wIsi .tuple (wVar 1)))) (wTest (wOp rdNe (wCB rdLen (wCons (wVar 1) wNil)) (wKD [("tie", 2), ("oneway", 2), ("gate", 4), ("push", 1), ("keep", 1)] (wVar 0))))) (wsRet (wC (.bl false))) wsNext)
    (wsSeq (wsIf (wNot (wTest (wCB rdAll (wCons (wLc [2] (wIt (wVar 1)) (wgName 2) wYes (wCall (fun ds P R => ds.length = 1 ∧ F_is_end ds P R) [] (wCons (wVar 2) wNil))) wNil)))) (wsRet (wC (.bl false))) wsNext)
    (wsSeq (wsIf (wTest (wOp (rdIn false) (wVar 0) (wLst (wCons (wC (.str "push")) (wCons (wC (.str "keep")) wNil))))) (wsRet (wOp rdNe (wOp rdIx (wVar 1) (wC (.int 0))) (wC (.str "ground")))) wsNext)
    (wsSeq (wsIf (wOr (wTest (wOp rdEq (wOp rdIx (wVar 1) (wC (.int 0))) (wOp rdIx (wVar 1) (wC (.int 1))))) (wAnd (wTest (wOp rdEq (wVar 0) (wC (.str "oneway")))) (wTest (wOp rdEq (wOp rdIx (wVar 1) (wC (.int 0))) (wC (.str "ground")))))) (wsRet (wC (.bl false))) wsNext)
    (wsRet (wOrV (wOp rdNe (wVar 0) (wC (.str "gate"))) (wOp rdNe (wOp rdIx (wVar 1) (wC (.int 2))) (wOp rdIx (wVar 1) (wC (.int 3))))))))))
inductive Kind where
  | tie | oneway | gate | push | keep
def Kind.nm : Kind → Str
  | .tie => "tie" | .oneway => "oneway" | .gate => "gate" | .push => "push" | .keep => "keep"
def Kind.size : Kind → Nat
  | .tie => 2 | .oneway => 2 | .gate => 4 | .push => 1 | .keep => 1
/-- the ends of a part of a kind -/
def endsOk (k : Kind) (l : List D) : Bool := match k, l with
  | .tie, [.str a, .str b] => isEndB (.str a) && isEndB (.str b) && !decide (a = b)
  | .oneway, [.str a, .str b] => isEndB (.str a) && isEndB (.str b) && (!decide (a = b) && !decide (a = groundS))
  | .gate, [.str a, .str b, .str c, .str d] => isEndB (.str a) && isEndB (.str b) && isEndB (.str c) && isEndB (.str d) && (!decide (a = b) && !decide (c = d))
  | .push, [.str a] => isEndB (.str a) && !decide (a = groundS)
  | .keep, [.str a] => isEndB (.str a) && !decide (a = groundS)
  | _, _ => false
def placesB (k : Kind) : D → Bool
  | .tup l => endsOk k l
  | _ => false
def F_are_places : FT := fun ds P _ => ∃ k d n, ds = [.str (Kind.nm k), d] ∧ pl n d = true ∧ P (.bl (placesB k d))
theorem end_str {d : D} (h : isEndB d = true) : ∃ s, d = .str s := by
  cases d <;> first | cases h | exact ⟨_, rfl⟩
theorem kd_size (k : Kind) : (Kind.nm k, (Kind.size k : Int)) ∈ ([("tie", 2), ("oneway", 2), ("gate", 4), ("push", 1), ("keep", 1)] : List (Str × Int)) := by
  cases k <;> simp [Kind.nm, Kind.size]
theorem rdNe_int {i j : Int} {P : D → Prop} (h : P (.bl (!decide (i = j)))) : rdNe (.int i) (.int j) P := h
theorem endsOk_len {k : Kind} {l : List D} (z : ¬ l.length = Kind.size k) : endsOk k l = false := by
  cases h : endsOk k l with
  | false => rfl
  | true =>
    refine absurd ?_ z
    cases k <;> unfold endsOk at h <;> split at h <;> first | rfl | cases h | simp_all
theorem endsOk_end {k : Kind} {l : List D} (z : l.all isEndB = false) : endsOk k l = false := by
  cases h : endsOk k l with
  | false => rfl
  | true =>
    refine absurd z ?_
    cases k <;> unfold endsOk at h <;> split at h <;> first | cases h | skip
    all_goals simp_all
theorem pure_are_places (ds : List D) (P : D → Prop) (R : DX → Prop) (_ : ds.length = 2) (h : F_are_places ds P R) : w_are_places F_is_end (startE 3 ds) { nx := fun _ => P .non, rt := P, ex := fun x _ => R x } := by
  obtain ⟨k, d, n, rfl, hd, hP⟩ := h
  cases d with
  | bag => cases n <;> cases hd
  | ins _ _ => cases n <;> cases hd
  | tup l =>
    obtain ⟨m, rfl, hl, hx⟩ := pl_tup hd
    have hP' : P (.bl (endsOk k l)) := hP
    -- the number of places
    refine st_ifN (!decide (l.length = Kind.size k)) (fun Pk h => ⟨(Kind.size k : Int), kd_size k, rdNe_int ?_⟩) (fun h => ?_) (fun h => ?_)
    · have e : decide ((l.length : Int) = (Kind.size k : Int)) = decide (l.length = Kind.size k) := by
        by_cases z : l.length = Kind.size k
        · rw [decide_eq_true z, decide_eq_true (by omega)]
        · rw [decide_eq_false z, decide_eq_false (by omega)]
      rw [e]
      exact h
    · have z : ¬ l.length = Kind.size k := by
        intro z
        rw [decide_eq_true z] at h
        cases h
      have e : endsOk k l = false := endsOk_len z
      rw [e] at hP'
      exact hP'
    have z : l.length = Kind.size k := by
      cases e : decide (l.length = Kind.size k) with
      | true => exact of_decide_eq_true e
      | false => rw [e] at h; cases h
    -- all of them ends
    refine st_ifN (!l.all isEndB) (fun Pk h => ?_) (fun h => ?_) (fun h => ?_)
    · refine lc_all (f := isEndB) (i := 2) (l := l) hl (by show 2 < 3; decide) (fun Pk h => h) (fun x hx' Q R q => ⟨x, m, rfl, hx x hx', q⟩) ?_
      exact h
    · have h' : l.all isEndB = false := by
        cases e : l.all isEndB with
        | true => rw [e] at h; cases h
        | false => rfl
      have e : endsOk k l = false := endsOk_end h'
      rw [e] at hP'
      exact hP'
    have h' : l.all isEndB = true := by
      cases e : l.all isEndB with
      | true => rfl
      | false => rw [e] at h; cases h
    cases k with
    | tie =>
      match l, z, h', hP' with
      | [x, y], _, h', hP' =>
        simp only [List.all_cons, List.all_nil, Bool.and_true, Bool.and_eq_true] at h'
        obtain ⟨a, rfl⟩ := end_str h'.1
        obtain ⟨b, rfl⟩ := end_str h'.2
        have hP2 : P (.bl (isEndB (.str a) && isEndB (.str b) && !decide (a = b))) := hP'
        rw [h'.1, h'.2] at hP2
        refine st_ifN false (fun Pk h => ⟨(by show (2 : Nat) ≤ sizeLine; decide), rfl, rfl, h⟩) (fun h => nomatch h) (fun _ => ?_)
        refine st_ifN (decide (a = b)) (fun Pk h => ⟨_, rfl, _, rfl, ?_⟩) (fun h => ?_) (fun h => ?_)
        · show match decide (a = b) with | true => Pk true _ | false => _
          cases e : decide (a = b) with
          | true => rw [e] at h; exact h
          | false => rw [e] at h; exact h
        · rw [h] at hP2
          exact hP2
        · rw [h] at hP2
          exact hP2
    | oneway =>
      match l, z, h', hP' with
      | [x, y], _, h', hP' =>
        simp only [List.all_cons, List.all_nil, Bool.and_true, Bool.and_eq_true] at h'
        obtain ⟨a, rfl⟩ := end_str h'.1
        obtain ⟨b, rfl⟩ := end_str h'.2
        have hP2 : P (.bl (isEndB (.str a) && isEndB (.str b) && (!decide (a = b) && !decide (a = groundS)))) := hP'
        rw [h'.1, h'.2] at hP2
        refine st_ifN false (fun Pk h => ⟨(by show (2 : Nat) ≤ sizeLine; decide), rfl, rfl, h⟩) (fun h => nomatch h) (fun _ => ?_)
        refine st_ifN (decide (a = b) || decide (a = groundS)) (fun Pk h => ⟨_, rfl, _, rfl, ?_⟩) (fun h => ?_) (fun h => ?_)
        · show match decide (a = b) with | true => Pk true _ | false => _
          cases e : decide (a = b) with
          | true => rw [e] at h; exact h
          | false =>
            rw [e] at h
            exact ⟨_, rfl, h⟩
        · have e : (!decide (a = b) && !decide (a = groundS)) = false := by rw [← Bool.not_or, h]; rfl
          rw [e] at hP2
          exact hP2
        · have e : (!decide (a = b) && !decide (a = groundS)) = true := by rw [← Bool.not_or, h]; rfl
          rw [e] at hP2
          exact hP2
    | gate =>
      match l, z, h', hP' with
      | [x, y, u, v], _, h', hP' =>
        simp only [List.all_cons, List.all_nil, Bool.and_true, Bool.and_eq_true] at h'
        obtain ⟨a, rfl⟩ := end_str h'.1
        obtain ⟨b, rfl⟩ := end_str h'.2.1
        obtain ⟨c, rfl⟩ := end_str h'.2.2.1
        obtain ⟨d, rfl⟩ := end_str h'.2.2.2
        have hP2 : P (.bl (isEndB (.str a) && isEndB (.str b) && isEndB (.str c) && isEndB (.str d) && (!decide (a = b) && !decide (c = d)))) := hP'
        rw [h'.1, h'.2.1, h'.2.2.1, h'.2.2.2] at hP2
        refine st_ifN false (fun Pk h => ⟨(by show (2 : Nat) ≤ sizeLine; decide), rfl, rfl, h⟩) (fun h => nomatch h) (fun _ => ?_)
        refine st_ifN (decide (a = b)) (fun Pk h => ⟨_, rfl, _, rfl, ?_⟩) (fun h => ?_) (fun h => ?_)
        · show match decide (a = b) with | true => Pk true _ | false => _
          cases e : decide (a = b) with
          | true => rw [e] at h; exact h
          | false => rw [e] at h; exact h
        · rw [h] at hP2
          exact hP2
        · rw [h] at hP2
          exact ⟨_, rfl, _, rfl, hP2⟩
    | push =>
      match l, z, h', hP' with
      | [x], _, h', hP' =>
        simp only [List.all_cons, List.all_nil, Bool.and_true] at h'
        obtain ⟨a, rfl⟩ := end_str h'
        have hP2 : P (.bl (isEndB (.str a) && !decide (a = groundS))) := hP'
        rw [h'] at hP2
        refine st_ifN true (fun Pk h => ⟨(by show (2 : Nat) ≤ sizeLine; decide), rfl, rfl, h⟩) (fun _ => ?_) (fun h => nomatch h)
        exact ⟨_, rfl, hP2⟩
    | keep =>
      match l, z, h', hP' with
      | [x], _, h', hP' =>
        simp only [List.all_cons, List.all_nil, Bool.and_true] at h'
        obtain ⟨a, rfl⟩ := end_str h'
        have hP2 : P (.bl (isEndB (.str a) && !decide (a = groundS))) := hP'
        rw [h'] at hP2
        refine st_ifN true (fun Pk h => ⟨(by show (2 : Nat) ≤ sizeLine; decide), rfl, rfl, h⟩) (fun _ => ?_) (fun h => nomatch h)
        exact ⟨_, rfl, hP2⟩
  | _ => exact hP
/-! ### is_pair, allows -/
def w_is_pair (F_is_integer_value : FT) : WS :=
    (wsSeq (wsIf (wOr (wNot (wTest (wIsi .tuple (wVar 0)))) (wTest (wOp rdNe (wCB rdLen (wCons (wVar 0) wNil)) (wC (.int 2))))) (wsRet (wC (.bl false))) wsNext)
    (wsSeq (wsIf (wNot (wTest (wCB rdAll (wCons (wLc [1] (wIt (wVar 0)) (wgName 1) wYes (wCall (fun ds P R => ds.length = 1 ∧ F_is_integer_value ds P R) [] (wCons (wVar 1) wNil))) wNil)))) (wsRet (wC (.bl false))) wsNext)
    (wsRet (wChain3 rdLe rdLt rdLe (wC (.int 1)) (wOp rdIx (wVar 0) (wC (.int 0))) (wOp rdIx (wVar 0) (wC (.int 1))) (wC (.int 1000))))))
def isPairB : D → Bool
  | .tup [.int a, .int b] => decide (1 ≤ a) && (decide (a < b) && decide (b ≤ 1000))
  | _ => false
def F_is_pair : FT := fun ds P _ => ∃ d n, ds = [d] ∧ pl n d = true ∧ P (.bl (isPairB d))
theorem int_of {d : D} (h : isIntB d = true) : ∃ s, d = .int s := by
  cases d <;> first | exact ⟨_, rfl⟩ | cases h
theorem isPairB_len {l : List D} (z : ¬ l.length = 2) : isPairB (.tup l) = false := by
  cases h : isPairB (.tup l) with
  | false => rfl
  | true =>
    refine absurd ?_ z
    unfold isPairB at h
    split at h <;> first | cases h | simp_all
theorem isPairB_int {l : List D} (z : l.all isIntB = false) : isPairB (.tup l) = false := by
  cases h : isPairB (.tup l) with
  | false => rfl
  | true =>
    refine absurd z ?_
    unfold isPairB at h
    split at h <;> first | cases h | skip
    all_goals simp_all [isIntB]
theorem pure_is_pair (ds : List D) (P : D → Prop) (R : DX → Prop) (_ : ds.length = 1) (h : F_is_pair ds P R) : w_is_pair F_iv (startE 2 ds) { nx := fun _ => P .non, rt := P, ex := fun x _ => R x } := by
  obtain ⟨d, n, rfl, hd, hP⟩ := h
  cases d with
  | bag => cases n <;> cases hd
  | ins _ _ => cases n <;> cases hd
  | tup l =>
    obtain ⟨m, rfl, hl, hx⟩ := pl_tup hd
    refine st_ifN (!decide (l.length = 2)) (fun Pk h => ?_) (fun h => ?_) (fun h => ?_)
    · show Pk (!decide ((l.length : Int) = 2)) _
      have e : decide ((l.length : Int) = 2) = decide (l.length = 2) := by
        by_cases z : l.length = 2
        · rw [decide_eq_true z, decide_eq_true (by omega)]
        · rw [decide_eq_false z, decide_eq_false (by omega)]
      rw [e]
      exact h
    · have z : ¬ l.length = 2 := by
        intro z
        rw [decide_eq_true z] at h
        cases h
      rw [isPairB_len z] at hP
      exact hP
    have z : l.length = 2 := by
      cases e : decide (l.length = 2) with
      | true => exact of_decide_eq_true e
      | false => rw [e] at h; cases h
    refine st_ifN (!l.all isIntB) (fun Pk h => ?_) (fun h => ?_) (fun h => ?_)
    · refine lc_all (f := isIntB) (i := 1) (l := l) hl (by show 1 < 2; decide) (fun Pk h => h) (fun x hx' Q R q => ⟨x, m, rfl, hx x hx', q⟩) ?_
      exact h
    · have h' : l.all isIntB = false := by
        cases e : l.all isIntB with
        | true => rw [e] at h; cases h
        | false => rfl
      rw [isPairB_int h'] at hP
      exact hP
    have h' : l.all isIntB = true := by
      cases e : l.all isIntB with
      | true => rfl
      | false => rw [e] at h; cases h
    match l, z, h', hP with
    | [x, y], _, h', hP =>
      simp only [List.all_cons, List.all_nil, Bool.and_true, Bool.and_eq_true] at h'
      obtain ⟨a, rfl⟩ := int_of h'.1
      obtain ⟨b, rfl⟩ := int_of h'.2
      have hP2 : P (.bl (decide (1 ≤ a) && (decide (a < b) && decide (b ≤ 1000)))) := hP
      refine ⟨_, rfl, trivial, ?_⟩
      show match D.bl (decide (1 ≤ a)) with | .bl true => _ | .bl false => P (.bl false) | _ => False
      cases e1 : decide (1 ≤ a) with
      | false => rw [e1] at hP2; exact hP2
      | true =>
        rw [e1] at hP2
        refine ⟨_, rfl, trivial, ?_⟩
        show match D.bl (decide (a < b)) with | .bl true => _ | .bl false => P (.bl false) | _ => False
        cases e2 : decide (a < b) with
        | false => rw [e2] at hP2; exact hP2
        | true =>
          rw [e2] at hP2
          exact ⟨trivial, hP2⟩
  | _ => exact hP
def w_allows (F_is_integer_value : FT) : WS :=
    (wsSeq (wsSet 2 (wIf (wTest (wOp (rdIn false) (wVar 0) (wLst (wCons (wC (.str "push")) (wCons (wC (.str "keep")) wNil))))) (wNeg (wC (.int 1000))) (wC (.int 0))))
    (wsRet (wAndV (wCall (fun ds P R => ds.length = 1 ∧ F_is_integer_value ds P R) [] (wCons (wVar 1) wNil)) (wChain rdLe rdLe (wVar 2) (wVar 1) (wC (.int 1000))))))
def Kind.least : Kind → Int
  | .push => -1000
  | .keep => -1000
  | _ => 0
def allowsB (k : Kind) : D → Bool
  | .int i => decide (k.least ≤ i) && decide (i ≤ 1000)
  | _ => false
def F_allows : FT := fun ds P _ => ∃ k d n, ds = [.str (Kind.nm k), d] ∧ pl n d = true ∧ P (.bl (allowsB k d))
theorem pure_allows (ds : List D) (P : D → Prop) (R : DX → Prop) (_ : ds.length = 2) (h : F_allows ds P R) : w_allows F_iv (startE 3 ds) { nx := fun _ => P .non, rt := P, ex := fun x _ => R x } := by
  obtain ⟨k, d, n, rfl, hd, hP⟩ := h
  refine st_set (fun x => x = .int k.least) (fun Pk h => ?_) (fun x hx => ?_)
  · have q := h _ rfl
    cases k <;> exact ⟨(by show (2 : Nat) ≤ sizeLine; decide), rfl, rfl, q⟩
  subst hx
  refine ⟨rfl, d, n, rfl, hd, ?_⟩
  cases d with
  | int i =>
    have hP2 : P (.bl (decide (k.least ≤ i) && decide (i ≤ 1000))) := hP
    refine ⟨trivial, ?_⟩
    show match D.bl (decide (k.least ≤ i)) with | .bl true => _ | .bl false => P (.bl false) | _ => False
    cases e1 : decide (k.least ≤ i) with
    | false => rw [e1] at hP2; exact hP2
    | true => rw [e1] at hP2; exact ⟨trivial, hP2⟩
  | _ => exact hP
/-! ### is_part -/
def w_is_part (F_allows : FT) (F_are_places : FT) (F_is_name : FT) (F_is_pair : FT) : WS :=
    (wsSeq (wsIf (wOr (wNot (wTest (wIsi .tuple (wVar 0)))) (wTest (wOp rdNe (wCB rdLen (wCons (wVar 0) wNil)) (wC (.int 4))))) (wsRet (wC (.bl false))) wsNext)
    (wsSeq (wsAsg (wVar 0) (wgTup 4 (wgCons (wgName 1) (wgCons (wgName 2) (wgCons (wgName 3) (wgCons (wgName 4) wgNil))))))
    (wsSeq (wsIf (wOr (wNot (wTest (wCall (fun ds P R => ds.length = 1 ∧ F_is_name ds P R) [] (wCons (wVar 1) wNil)))) (wOr (wNot (wTest (wIsi .str (wVar 2)))) (wTest (wOp (rdIn true) (wVar 2) (wC (.tup [.str "tie", .str "oneway", .str "gate", .str "push", .str "keep"])))))) (wsRet (wC (.bl false))) wsNext)
    (wsSeq (wsIf (wNot (wTest (wCall (fun ds P R => ds.length = 2 ∧ F_are_places ds P R) [] (wCons (wVar 2) (wCons (wVar 3) wNil))))) (wsRet (wC (.bl false))) wsNext)
    (wsSeq (wsIf (wAnd (wTest (wOp rdNe (wVar 2) (wC (.str "keep")))) (wOr (wTest (wOp rdIs (wVar 4) (wC .non))) (wTest (wCall (fun ds P R => ds.length = 1 ∧ F_is_pair ds P R) [] (wCons (wVar 4) wNil))))) (wsRet (wC (.bl true))) wsNext)
    (wsRet (wCall (fun ds P R => ds.length = 2 ∧ F_allows ds P R) [] (wCons (wVar 2) (wCons (wVar 4) wNil)))))))))
def kindOf (s : Str) : Option Kind := if s = Kind.nm .tie then some .tie else if s = Kind.nm .oneway then some .oneway else if s = Kind.nm .gate then some .gate else if s = Kind.nm .push then some .push else if s = Kind.nm .keep then some .keep else none
def kindOpen (k : Kind) (strength : D) : Bool := match k with
  | .keep => false
  | _ => isNon strength || isPairB strength
def strengthB (k : Kind) (d : D) : Bool := kindOpen k d || allowsB k d
def restB (k : Option Kind) (places strength : D) : Bool := match k with
  | some k => placesB k places && strengthB k strength
  | none => false
def isPartB : D → Bool
  | .tup [name, .str kind, places, strength] => isNameB name && restB (kindOf kind) places strength
  | _ => false
theorem isPartB_str {name places strength : D} {s : Str} : isPartB (.tup [name, .str s, places, strength]) = (isNameB name && restB (kindOf s) places strength) := rfl
def kindBad : D → Bool
  | .str s => (kindOf s).isNone
  | _ => true
theorem st_tup4 {i j k n : Nat} {w : WE} {b : WS} {env : En} {K : EnD} {x y u v : D} (hw : ∀ Pk : D → En → Prop, Pk (.tup [x, y, u, v]) env → w env Pk K.ex) (hb : b ((((env.set i (.v x)).set j (.v y)).set k (.v u)).set n (.v v)) K) : wsSeq (wsAsg w (wgTup 4 (wgCons (wgName i) (wgCons (wgName j) (wgCons (wgName k) (wgCons (wgName n) wgNil)))))) b env K := hw _ ⟨rfl, hb⟩
def F_is_part : FT := fun ds P _ => ∃ d n, ds = [d] ∧ pl n d = true ∧ P (.bl (isPartB d))
theorem kindOf_some {s : Str} {k : Kind} (h : kindOf s = some k) : s = Kind.nm k := by
  unfold kindOf at h
  repeat (split at h; (cases h; assumption))
  cases h
theorem kindOf_none {s : Str} (h : kindOf s = none) : inD (.str s) [.str "tie", .str "oneway", .str "gate", .str "push", .str "keep"] = false := by
  unfold kindOf at h
  split at h
  · cases h
  split at h
  · cases h
  split at h
  · cases h
  split at h
  · cases h
  split at h
  · cases h
  rename_i h1 h2 h3 h4 h5
  have ne : ∀ t : Str, ¬ s = t → eqF (.str t) (.str s) = false := fun t h => by
    show (t == s) = false
    simpa using fun z => h z.symm
  show (eqF (.str (Kind.nm .tie)) (.str s) || (eqF (.str (Kind.nm .oneway)) (.str s) || (eqF (.str (Kind.nm .gate)) (.str s) || (eqF (.str (Kind.nm .push)) (.str s) || (eqF (.str (Kind.nm .keep)) (.str s) || false))))) = false
  rw [ne _ h1, ne _ h2, ne _ h3, ne _ h4, ne _ h5]
  rfl
theorem kind_in (k : Kind) : inD (.str (Kind.nm k)) [.str "tie", .str "oneway", .str "gate", .str "push", .str "keep"] = true := by
  cases k <;> rfl
theorem pure_is_part (ds : List D) (P : D → Prop) (R : DX → Prop) (_ : ds.length = 1) (h : F_is_part ds P R) : w_is_part F_allows F_are_places F_is_name F_is_pair (startE 5 ds) { nx := fun _ => P .non, rt := P, ex := fun x _ => R x } := by
  obtain ⟨d, n, rfl, hd, hP⟩ := h
  cases d with
  | bag => cases n <;> cases hd
  | ins _ _ => cases n <;> cases hd
  | tup l =>
    obtain ⟨m, rfl, hl, hx⟩ := pl_tup hd
    refine st_ifN (!decide (l.length = 4)) (fun Pk h => ?_) (fun h => ?_) (fun h => ?_)
    · show Pk (!decide ((l.length : Int) = 4)) _
      have e : decide ((l.length : Int) = 4) = decide (l.length = 4) := by
        by_cases z : l.length = 4
        · rw [decide_eq_true z, decide_eq_true (by omega)]
        · rw [decide_eq_false z, decide_eq_false (by omega)]
      rw [e]
      exact h
    · have z : ¬ l.length = 4 := by
        intro z
        rw [decide_eq_true z] at h
        cases h
      have e : isPartB (.tup l) = false := by
        cases h : isPartB (.tup l) with
        | false => rfl
        | true =>
          refine absurd ?_ z
          unfold isPartB at h
          split at h <;> first | cases h | simp_all
      rw [e] at hP
      exact hP
    have z : l.length = 4 := by
      cases e : decide (l.length = 4) with
      | true => exact of_decide_eq_true e
      | false => rw [e] at h; cases h
    match l, z, hx, hP with
    | [name, kind, places, strength], _, hx, hP =>
      have x1 := hx name (by simp)
      have x2 := hx kind (by simp)
      have x3 := hx places (by simp)
      have x4 := hx strength (by simp)
      refine st_tup4 (fun Pk h => h) ?_
      refine st_ifN (!(isNameB name) || kindBad kind) (env := [.v (.tup [name, kind, places, strength]), .v name, .v kind, .v places, .v strength]) (fun Pk h => ?_) (fun h => ?_) (fun h => ?_)
      · refine ⟨rfl, name, isNameB name, rfl, nameB_ok x1, ?_⟩
        show match !isNameB name with | true => Pk true _ | false => _
        cases e : isNameB name with
        | false => rw [e] at h; exact h
        | true =>
          rw [e] at h
          cases kind with
          | bag => cases m <;> cases x2
          | ins _ _ => cases m <;> cases x2
          | str s =>
            refine ⟨rfl, rfl, ?_⟩
            have h' : Pk (kindOf s).isNone _ := h
            show Pk (!inD (.str s) [.str "tie", .str "oneway", .str "gate", .str "push", .str "keep"]) _
            cases e2 : kindOf s with
            | none => rw [kindOf_none e2]; rw [e2] at h'; exact h'
            | some k => rw [kindOf_some e2, kind_in]; rw [e2] at h'; rw [← kindOf_some e2]; exact h'
          | _ => exact h
      · have e : isPartB (.tup [name, kind, places, strength]) = false := by
          cases e1 : isNameB name with
          | false => cases kind <;> first | rfl | (rw [isPartB_str, e1, Bool.false_and])
          | true =>
            rw [e1] at h
            cases kind with
            | str s =>
              have h' : (kindOf s).isNone = true := h
              rw [isPartB_str]
              cases e2 : kindOf s with
              | none => exact Bool.and_false _
              | some k => rw [e2] at h'; cases h'
            | _ => rfl
        rw [e] at hP
        exact hP
      cases e1 : isNameB name with
      | false => rw [e1] at h; cases h
      | true =>
      cases kind with
      | str s =>
        cases e2 : kindOf s with
        | none =>
          rw [e1] at h
          have h' : (kindOf s).isNone = false := h
          rw [e2] at h'
          cases h'
        | some k =>
          have es := kindOf_some e2
          subst es
          have hP2 : P (.bl (placesB k places && strengthB k strength)) := by
            have hP3 : P (.bl (isNameB name && restB (kindOf (Kind.nm k)) places strength)) := hP
            rw [e1, e2] at hP3
            exact hP3
          refine st_ifN (!placesB k places) (fun Pk h => ⟨rfl, k, places, m, rfl, x3, h⟩) (fun h => ?_) (fun h => ?_)
          · cases e3 : placesB k places with
            | true => rw [e3] at h; cases h
            | false => rw [e3] at hP2; exact hP2
          cases e3 : placesB k places with
          | false => rw [e3] at h; cases h
          | true =>
          rw [e3] at hP2
          have hP4 : P (.bl (strengthB k strength)) := hP2
          refine st_ifN (kindOpen k strength) (fun Pk h => ?_) (fun h => ?_) (fun h => ?_)
          · have go : ∀ e0 : En, Pk (isNon strength || isPairB strength) e0 → (match isNon strength with | true => Pk true e0 | false => (([strength] : List D).length = 1 ∧ F_is_pair [strength] (fun d => match d with | .bl k => Pk k e0 | _ => False) fun x => R x)) := by
              intro e0 h
              cases e4 : isNon strength with
              | true => rw [e4] at h; exact h
              | false => rw [e4] at h; exact ⟨rfl, strength, m, rfl, x4, h⟩
            cases k with
            | keep => exact h
            | tie => exact go _ h
            | oneway => exact go _ h
            | gate => exact go _ h
            | push => exact go _ h
          · have e5 : strengthB k strength = true := by
              unfold strengthB; rw [h, Bool.true_or]
            rw [e5] at hP4
            exact hP4
          · refine ⟨rfl, k, strength, m, rfl, x4, ?_⟩
            have e5 : strengthB k strength = allowsB k strength := by
              unfold strengthB; rw [h, Bool.false_or]
            rw [e5] at hP4
            exact hP4
      | _ => rw [e1] at h; cases h
  | _ => exact hP
end Pu
set_option maxRecDepth 100000
/-! Drawn parts, over data -/
namespace Pu
open PySem L2 PySem.Spec PyProof.Rows
/-- a comprehension of the items themselves, with a test -/
theorem lcL_filter {i : Nat} {f : D → Bool} {wt : WT} {w0 : En} (hi : i < w0.length) (h0 : w0.set i .no = w0) : ∀ (l acc : List D) (env : En) (P : List D → En → Prop), wipeE env [i] = w0 →
    (∀ x ∈ l, ∀ Pk : Bool → En → Prop, Pk (f x) (w0.set i (.v x)) → wt (w0.set i (.v x)) Pk fun _ _ => False) →
    (∀ e', wipeE e' [i] = w0 → P (acc ++ l.filter f) e') → wLcL (wgName i) wt (wVar i) [i] l acc env P
  | [], acc, env, P, he, _, hP => by
    have q := hP env he
    rw [List.filter_nil, List.append_nil] at q
    exact q
  | x :: xs, acc, env, P, he, ht, hP => by
    show wt ((wipeE env [i]).set i (.v x)) _ _
    rw [he]
    have back : wipeE (w0.set i (.v x)) [i] = w0 := by
      show (w0.set i (.v x)).set i .no = w0
      rw [List.set_set, h0]
    refine ht x List.mem_cons_self _ ?_
    have ht' := fun y hy => ht y (List.mem_cons_of_mem x hy)
    cases e : f x with
    | true =>
      have e1 : (w0.set i (.v x))[i]? = some (.v x) := by rw [List.getElem?_set, if_pos rfl, if_pos hi]
      show wVar i (w0.set i (.v x)) _ _
      dsimp only [wVar]
      rw [e1]
      refine lcL_filter hi h0 xs (acc ++ [x]) _ P back ht' fun e' h' => ?_
      have q := hP e' h'
      rw [List.filter_cons_of_pos (by exact e)] at q
      rw [List.append_assoc]
      exact q
    | false =>
      refine lcL_filter hi h0 xs acc _ P back ht' fun e' h' => ?_
      have q := hP e' h'
      rw [List.filter_cons_of_neg (by rw [e]; exact Bool.false_ne_true)] at q
      exact q
/-- its reading -/
theorem wLc_filter {i : Nat} {f : D → Bool} {wt : WT} {env : En} {wi : WA} {P : D → En → Prop} {R : QX} {l : List D} (hi : i < env.length) (hwi : ∀ Pk : List D → En → Prop, Pk l env → wi env Pk R) (hl : l.length ≤ 100000)
    (ht : ∀ x ∈ l, ∀ Pk : Bool → En → Prop, Pk (f x) ((env.set i .no).set i (.v x)) → wt ((env.set i .no).set i (.v x)) Pk fun _ _ => False)
    (hP : P (.lst (l.filter f)) (backE env env [i])) : wLc [i] wi (wgName i) wt (wVar i) env P R := by
  refine hwi _ ⟨hl, ?_⟩
  refine lcL_filter (f := f) (w0 := env.set i .no) (by rw [List.length_set]; exact hi) (by rw [List.set_set]) l [] env _ rfl ht fun e' h' => ?_
  have e : backE env e' [i] = backE env env [i] := by
    rw [← backE_wipe env e' [i], h']
    exact backE_wipe env env [i]
  show P (.lst ([] ++ l.filter f)) (backE env e' [i])
  rw [e]
  exact hP
/-! ### the kinds of parts in words of data -/
def Kind.isKeep : Kind → Bool
  | .keep => true
  | _ => false
theorem ne_keep (k : Kind) {P : D → Prop} (h : P (.bl (!k.isKeep))) : rdNe (.str (Kind.nm k)) (.str "keep") P := by
  cases k <;> exact h
theorem t_ne_keep (k : Kind) {i : Nat} {env : En} {P : Bool → En → Prop} {R : QX} (he : env[i]? = some (.v (.str (Kind.nm k)))) (h : P (!k.isKeep) env) : wTest (wOp rdNe (wVar i) (wC (.str "keep"))) env P R := by
  unfold wTest wOp wVar
  rw [he]
  cases k <;> exact h
theorem eqS_str (a b : Str) {P : D → Prop} (h : P (.bl (decide (a = b)))) : rdEq (.str a) (.str b) P := h
theorem neS_str (a b : Str) {P : D → Prop} (h : P (.bl (!decide (a = b)))) : rdNe (.str a) (.str b) P := h
theorem eqS_int (a b : Int) {P : D → Prop} (h : P (.bl (decide (a = b)))) : rdEq (.int a) (.int b) P := h
theorem allows_ok {k : Kind} {n : Int} (h0 : k.least ≤ n) (h1 : n ≤ 1000) : strengthB k (.int n) = true := by
  unfold strengthB
  have : allowsB k (.int n) = true := by
    show (decide (k.least ≤ n) && decide (n ≤ 1000)) = true
    rw [decide_eq_true h0, decide_eq_true h1]
    rfl
  rw [this, Bool.or_true]
theorem least_le (k : Kind) : k.least ≤ 0 := by cases k <;> decide
theorem open_non {k : Kind} (h : k.isKeep = false) : strengthB k .non = true := by cases k <;> first | rfl | cases h
theorem open_pair {k : Kind} (h : k.isKeep = false) {a b : Int} (h0 : 1 ≤ a) (h1 : a < b) (h2 : b ≤ 1000) : strengthB k (.tup [.int a, .int b]) = true := by
  have e : isPairB (.tup [.int a, .int b]) = true := by
    show (decide (1 ≤ a) && (decide (a < b) && decide (b ≤ 1000))) = true
    rw [decide_eq_true h0, decide_eq_true h1, decide_eq_true h2]
    rfl
  have e2 : kindOpen k (.tup [.int a, .int b]) = true := by
    cases k <;> first | exact e | cases h
  unfold strengthB
  rw [e2]
  rfl
/-! ### is_unknown -/
def w_is_unknown  : WS :=
    (wsRet (wOrV (wOp rdIs (wOp rdIx (wVar 0) (wC (.int 3))) (wC .non)) (wIsi .tuple (wOp rdIx (wVar 0) (wC (.int 3))))))
def unkB : D → Bool
  | .non => true
  | .tup _ => true
  | _ => false
def F_is_unknown : FT := fun ds P _ => ∃ a b c s n, ds = [.tup [a, b, c, s]] ∧ pl n s = true ∧ P (.bl (unkB s))
theorem pure_is_unknown (ds : List D) (P : D → Prop) (R : DX → Prop) (_ : ds.length = 1) (h : F_is_unknown ds P R) : w_is_unknown (startE 1 ds) { nx := fun _ => P .non, rt := P, ex := fun x _ => R x } := by
  obtain ⟨a, b, c, s, n, rfl, hd, hP⟩ := h
  refine ⟨s, rfl, ?_⟩
  cases s with
  | bag => cases n <;> cases hd
  | ins _ _ => cases n <;> cases hd
  | non => exact hP
  | _ => exact ⟨_, rfl, hP⟩
/-! ### a drawn strength -/
def w_law_any_strength (F_law_draw : FT) (F_law_of : FT) : WS :=
    (wsSeq (wsPar 2 3 (wCons (wCall (fun ds P R => ds.length = 2 ∧ F_law_draw ds P R) [] (wCons (wVar 0) (wCons (wC (.int 4)) wNil))) (wCons (wOp rdAdd (wC (.int 1)) (wCall (fun ds P R => ds.length = 2 ∧ F_law_draw ds P R) [] (wCons (wVar 0) (wCons (wCall (fun ds P R => ds.length = 2 ∧ F_law_of ds P R) [] (wCons (wVar 0) (wCons (wLst (wCons (wC (.int 3)) (wCons (wC (.int 999)) wNil))) wNil))) wNil)))) wNil)))
    (wsSeq (wsIf (wAnd (wTest (wOp rdNe (wVar 1) (wC (.str "keep")))) (wTest (wOp rdEq (wVar 2) (wC (.int 0))))) (wsRet (wC .non)) wsNext)
    (wsSeq (wsIf (wAnd (wTest (wOp rdNe (wVar 1) (wC (.str "keep")))) (wTest (wOp rdEq (wVar 2) (wC (.int 1))))) (wsRet (wTup (wCons (wVar 3) (wCons (wOp rdAdd (wOp rdAdd (wVar 3) (wC (.int 1))) (wCall (fun ds P R => ds.length = 2 ∧ F_law_draw ds P R) [] (wCons (wVar 0) (wCons (wOp rdSub (wC (.int 1000)) (wVar 3)) wNil)))) wNil)))) wsNext)
    (wsSeq (wsSet 4 (wCall (fun ds P R => ds.length = 2 ∧ F_law_of ds P R) [] (wCons (wVar 0) (wCons (wLst (wCons (wC (.int 0)) (wCons (wC (.int 1)) (wCons (wC (.int 1000)) (wCons (wCall (fun ds P R => ds.length = 2 ∧ F_law_draw ds P R) [] (wCons (wVar 0) (wCons (wC (.int 1001)) wNil))) wNil))))) wNil))))
    (wsRet (wIf (wAnd (wTest (wOp (rdIn false) (wVar 1) (wLst (wCons (wC (.str "push")) (wCons (wC (.str "keep")) wNil))))) (wTest (wOp rdEq (wCall (fun ds P R => ds.length = 2 ∧ F_law_draw ds P R) [] (wCons (wVar 0) (wCons (wC (.int 2)) wNil))) (wC (.int 0))))) (wNeg (wVar 4)) (wVar 4)))))))
def F_any_strength : FT := fun ds P _ => ∃ k, ds = [.bag, .str (Kind.nm k)] ∧ ∀ s, strengthB k s = true → pl 1 s = true → P s
theorem pure_any_strength (ds : List D) (P : D → Prop) (R : DX → Prop) (_ : ds.length = 2) (h : F_any_strength ds P R) : w_law_any_strength F_draw F_of (startE 5 ds) { nx := fun _ => P .non, rt := P, ex := fun x _ => R x } := by
  obtain ⟨k, rfl, hP⟩ := h
  refine st_par (fun d e => ∃ a b : Int, d = .int a ∧ e = .int b ∧ 0 ≤ a ∧ 1 ≤ b ∧ b ≤ 999) (fun Pk hPk => ?_) (fun d e hd => ?_)
  · refine ⟨rfl, 4, rfl, by decide, by decide, fun a h0 h1 => ⟨(by show (2 : Nat) ≤ sizeLine; decide), rfl, _, .inl rfl, by simp, (by show (2 : Nat) < 2 ^ 60; decide), fun d hd => ?_⟩⟩
    simp only [List.mem_cons, List.not_mem_nil, or_false] at hd
    rcases hd with rfl | rfl
    · exact ⟨rfl, 3, rfl, by decide, by decide, fun v v0 v1 => hPk _ _ ⟨a, _, rfl, rfl, h0, by omega, by omega⟩⟩
    · exact ⟨rfl, 999, rfl, by decide, by decide, fun v v0 v1 => hPk _ _ ⟨a, _, rfl, rfl, h0, by omega, by omega⟩⟩
  obtain ⟨a, b, rfl, rfl, h0, h1, h2⟩ := hd
  refine st_ifN (!k.isKeep && decide (a = 0)) (fun Pk h => ?_) (fun h => ?_) (fun _ => ?_)
  · refine t_ne_keep k rfl ?_
    show match !k.isKeep with | true => Pk (decide (a = 0)) _ | false => Pk false _
    cases e : k.isKeep with
    | true => rw [e] at h; exact h
    | false => rw [e] at h; exact h
  · rw [Bool.and_eq_true] at h
    exact hP _ (open_non (by simpa using h.1)) rfl
  refine st_ifN (!k.isKeep && decide (a = 1)) (fun Pk h => ?_) (fun h => ?_) (fun _ => ?_)
  · refine t_ne_keep k rfl ?_
    show match !k.isKeep with | true => Pk (decide (a = 1)) _ | false => Pk false _
    cases e : k.isKeep with
    | true => rw [e] at h; exact h
    | false => rw [e] at h; exact h
  · rw [Bool.and_eq_true] at h
    refine ⟨trivial, rfl, 1000 - b, rfl, by omega, ?_, fun v v0 v1 => ⟨(by show (2 : Nat) ≤ sizeLine; decide), ?_⟩⟩
    · exact log_small (by omega)
    exact hP _ (open_pair (by simpa using h.1) h1 (by omega) (by omega)) rfl
  refine st_set (fun d => ∃ n : Int, d = .int n ∧ 0 ≤ n ∧ n ≤ 1000) (fun Pk hPk => ?_) (fun d hd => ?_)
  · refine ⟨rfl, 1001, rfl, by decide, by decide, fun v v0 v1 => ⟨(by show (4 : Nat) ≤ sizeLine; decide), rfl, _, .inl rfl, by simp, (by show (4 : Nat) < 2 ^ 60; decide), fun d hd => ?_⟩⟩
    simp only [List.mem_cons, List.not_mem_nil, or_false] at hd
    rcases hd with rfl | rfl | rfl | rfl
    · exact hPk _ ⟨0, rfl, by decide, by decide⟩
    · exact hPk _ ⟨1, rfl, by decide, by decide⟩
    · exact hPk _ ⟨1000, rfl, by decide, by decide⟩
    · exact hPk _ ⟨v, rfl, v0, by omega⟩
  obtain ⟨n, rfl, n0, n1⟩ := hd
  have pos := hP (.int n) (allows_ok (Int.le_trans (least_le k) n0) n1) rfl
  have two : (2 : Nat) ≤ sizeLine := by decide
  have neg : k.least = -1000 → P (.int (-n)) := fun h => hP _ (allows_ok (by rw [h]; omega) (by omega)) rfl
  have both : k.least = -1000 → ∀ v : Int, match decide (v = 0) with | true => P (.int (-n)) | false => P (.int n) := fun h v => by
    cases decide (v = 0) with
    | true => exact neg h
    | false => exact pos
  cases k with
  | push => exact ⟨two, rfl, rfl, rfl, 2, rfl, by decide, by decide, fun v v0 v1 => both rfl v⟩
  | keep => exact ⟨two, rfl, rfl, rfl, 2, rfl, by decide, by decide, fun v v0 v1 => both rfl v⟩
  | tie => exact ⟨two, rfl, rfl, pos⟩
  | oneway => exact ⟨two, rfl, rfl, pos⟩
  | gate => exact ⟨two, rfl, rfl, pos⟩
end Pu
set_option maxRecDepth 100000
/-! Drawn parts and names, over data -/
namespace Pu
open PySem L2 PySem.Spec PyProof.Rows
def strGet : D → Option Str
  | .str s => some s
  | _ => none
theorem strs_get (ss : List Str) : (ss.map D.str).filterMap strGet = ss := by
  induction ss with
  | nil => rfl
  | cons s ss ih =>
    show s :: (ss.map D.str).filterMap strGet = _
    rw [ih]
theorem strs_perm {l : List D} {ss : List Str} (h : l.Perm (ss.map D.str)) : ∃ xs : List Str, l = xs.map D.str ∧ xs.Perm ss := by
  refine ⟨l.filterMap strGet, ?_, ?_⟩
  · have key : ∀ m : List D, (∀ x ∈ m, ∃ s, x = .str s) → m = (m.filterMap strGet).map D.str := by
      intro m
      induction m with
      | nil => intro _; rfl
      | cons x m ih =>
        intro hm
        obtain ⟨s, rfl⟩ := hm x List.mem_cons_self
        show _ = D.str s :: (m.filterMap strGet).map D.str
        rw [← ih fun y hy => hm y (List.mem_cons_of_mem _ hy)]
    refine key l fun x hx => ?_
    obtain ⟨s, _, e⟩ := List.mem_map.mp (h.subset hx)
    exact ⟨s, e.symm⟩
  · have q := h.filterMap strGet
    rw [strs_get] at q
    exact q
def partNames : List Str := ["a", "b", "c", "p", "q", "r", "s", "t", "u", "v", "w", "tie", "in", "by", "gate", "level", "stream", "zzzzzzzz", "zz", "push", "keep", "work", "wish", "oneway", "ab", "ba"]
def placeNames : List Str := ["a", "b", "c", "x", "in", "zzzzzzzz"]
theorem partNames_ok : ∀ s ∈ partNames, isName s = true := by decide +kernel
theorem placeNames_ok : ∀ s ∈ placeNames, isName s = true := by decide +kernel
theorem partNames_nd : partNames.Nodup := by decide +kernel
theorem placeNames_nd : placeNames.Nodup := by decide +kernel
def w_law_part_names (F_law_mixed : FT) : WS :=
    (wsRet (wCall (fun ds P R => ds.length = 2 ∧ F_law_mixed ds P R) [] (wCons (wVar 0) (wCons (wLst (wCons (wC (.str "a")) (wCons (wC (.str "b")) (wCons (wC (.str "c")) (wCons (wC (.str "p")) (wCons (wC (.str "q")) (wCons (wC (.str "r")) (wCons (wC (.str "s")) (wCons (wC (.str "t")) (wCons (wC (.str "u")) (wCons (wC (.str "v")) (wCons (wC (.str "w")) (wCons (wC (.str "tie")) (wCons (wC (.str "in")) (wCons (wC (.str "by")) (wCons (wC (.str "gate")) (wCons (wC (.str "level")) (wCons (wC (.str "stream")) (wCons (wC (.str "zzzzzzzz")) (wCons (wC (.str "zz")) (wCons (wC (.str "push")) (wCons (wC (.str "keep")) (wCons (wC (.str "work")) (wCons (wC (.str "wish")) (wCons (wC (.str "oneway")) (wCons (wC (.str "ab")) (wCons (wC (.str "ba")) wNil))))))))))))))))))))))))))) wNil))))
def F_part_names : FT := fun ds P _ => ds = [.bag] ∧ ∀ xs : List Str, xs.length = 26 → xs.Nodup → (∀ s ∈ xs, isName s = true) → P (.lst (xs.map D.str))
theorem pure_part_names (ds : List D) (P : D → Prop) (R : DX → Prop) (_ : ds.length = 1) (h : F_part_names ds P R) : w_law_part_names F_mixed (startE 1 ds) { nx := fun _ => P .non, rt := P, ex := fun x _ => R x } := by
  obtain ⟨rfl, hP⟩ := h
  refine ⟨(by show (26 : Nat) ≤ sizeLine; decide), rfl, partNames.map D.str, .inl rfl, (by show (26 : Nat) ≤ 1000; decide), fun l' hl => ?_⟩
  obtain ⟨xs, rfl, hx⟩ := strs_perm hl
  exact hP xs hx.length_eq (hx.nodup_iff.mpr partNames_nd) fun s hs => partNames_ok s (hx.subset hs)
def w_law_place_names (F_law_mixed : FT) : WS :=
    (wsRet (wCall (fun ds P R => ds.length = 2 ∧ F_law_mixed ds P R) [] (wCons (wVar 0) (wCons (wLst (wCons (wC (.str "a")) (wCons (wC (.str "b")) (wCons (wC (.str "c")) (wCons (wC (.str "x")) (wCons (wC (.str "in")) (wCons (wC (.str "zzzzzzzz")) wNil))))))) wNil))))
def F_place_names : FT := fun ds P _ => ds = [.bag] ∧ ∀ xs : List Str, xs.length = 6 → xs.Nodup → (∀ s ∈ xs, isName s = true) → P (.lst (xs.map D.str))
theorem pure_place_names (ds : List D) (P : D → Prop) (R : DX → Prop) (_ : ds.length = 1) (h : F_place_names ds P R) : w_law_place_names F_mixed (startE 1 ds) { nx := fun _ => P .non, rt := P, ex := fun x _ => R x } := by
  obtain ⟨rfl, hP⟩ := h
  refine ⟨(by show (6 : Nat) ≤ sizeLine; decide), rfl, placeNames.map D.str, .inl rfl, (by show (6 : Nat) ≤ 1000; decide), fun l' hl => ?_⟩
  obtain ⟨xs, rfl, hx⟩ := strs_perm hl
  exact hP xs hx.length_eq (hx.nodup_iff.mpr placeNames_nd) fun s hs => placeNames_ok s (hx.subset hs)
theorem at_0 {a : D} {r : List D} : atI (a :: r) 0 = some a := by
  unfold atI ixN
  rw [if_pos (by decide), if_pos (by rw [List.length_cons]; omega)]
  rfl
theorem at_1 {a b : D} {r : List D} : atI (a :: b :: r) 1 = some b := by
  unfold atI ixN
  rw [if_pos (by decide), if_pos (by rw [List.length_cons, List.length_cons]; omega)]
  rfl
/-! ### a drawn part -/
/-- a part that is one -/
def GoodPart (name : Str) (p : D) : Prop := ∃ k l s, p = .tup [.str name, .str (Kind.nm k), .tup l, s] ∧ endsOk k l = true ∧ strengthB k s = true ∧ pl 1 s = true
def w_law_some_part (F_law_any_strength : FT) (F_law_mixed : FT) (F_law_of : FT) : WS :=
    (wsSeq (wsSet 3 (wCall (fun ds P R => ds.length = 2 ∧ F_law_of ds P R) [] (wCons (wVar 0) (wCons (wLst (wCons (wC (.str "tie")) (wCons (wC (.str "oneway")) (wCons (wC (.str "gate")) (wCons (wC (.str "push")) (wCons (wC (.str "keep")) wNil)))))) wNil))))
    (wsSeq (wsPar 4 5 (wCons (wCall (fun ds P R => ds.length = 2 ∧ F_law_mixed ds P R) [] (wCons (wVar 0) (wCons (wOp rdAdd (wVar 2) (wLst (wCons (wC (.str "ground")) wNil))) wNil))) (wCons (wCall (fun ds P R => ds.length = 2 ∧ F_law_mixed ds P R) [] (wCons (wVar 0) (wCons (wOp rdAdd (wVar 2) (wLst (wCons (wC (.str "ground")) wNil))) wNil))) wNil)))
    (wsSeq (wsSet 6 (wCall (fun ds P R => ds.length = 2 ∧ F_law_of ds P R) [] (wCons (wVar 0) (wCons (wVar 2) wNil))))
    (wsSeq (wsSet 7 (wTup (wCons (wVar 6) wNil)))
    (wsSeq (wsIf (wTest (wOp rdEq (wVar 3) (wC (.str "oneway")))) (wsSet 7 (wTup (wCons (wVar 6) (wCons (wOp rdIx (wLc [8] (wIt (wVar 4)) (wgName 8) (wTest (wOp rdNe (wVar 8) (wVar 6))) (wVar 8)) (wC (.int 0))) wNil)))) (wsIf (wTest (wOp rdEq (wVar 3) (wC (.str "tie")))) (wsSet 7 (wTup (wCons (wOp rdIx (wVar 4) (wC (.int 0))) (wCons (wOp rdIx (wVar 4) (wC (.int 1))) wNil)))) (wsIf (wTest (wOp rdEq (wVar 3) (wC (.str "gate")))) (wsSet 7 (wTup (wCons (wOp rdIx (wVar 4) (wC (.int 0))) (wCons (wOp rdIx (wVar 4) (wC (.int 1))) (wCons (wOp rdIx (wVar 5) (wC (.int 0))) (wCons (wOp rdIx (wVar 5) (wC (.int 1))) wNil)))))) wsNext)))
    (wsRet (wTup (wCons (wVar 1) (wCons (wVar 3) (wCons (wVar 7) (wCons (wCall (fun ds P R => ds.length = 2 ∧ F_law_any_strength ds P R) [] (wCons (wVar 0) (wCons (wVar 3) wNil))) wNil)))))))))))
def F_some_part : FT := fun ds P _ => ∃ (name : Str) (ss : List Str), ds = [.bag, .str name, .lst (ss.map D.str)] ∧ ss ≠ [] ∧ ss.length ≤ 6 ∧ ss.Nodup ∧ (∀ s ∈ ss, isName s = true) ∧ ∀ p, GoodPart name p → P p
theorem isName_ground : isName groundS = false := by decide +kernel
theorem end_of_name {s : Str} (h : isName s = true) : isEndB (.str s) = true := by
  show (isName s || decide (s = groundS)) = true
  rw [h]
  rfl
theorem end_ground : isEndB (.str groundS) = true := by
  show (isName groundS || decide (groundS = groundS)) = true
  rw [isName_ground, decide_eq_true rfl]
  rfl
theorem two_of {α : Type} {xs : List α} (h : 2 ≤ xs.length) (hn : xs.Nodup) : ∃ a b r, xs = a :: b :: r ∧ a ≠ b := by
  match xs, h, hn with
  | a :: b :: r, _, hn =>
    refine ⟨a, b, r, rfl, fun e => ?_⟩
    subst e
    simp at hn
set_option maxHeartbeats 1000000 in
theorem pure_some_part (ds : List D) (P : D → Prop) (R : DX → Prop) (_ : ds.length = 3) (h : F_some_part ds P R) : w_law_some_part F_any_strength F_mixed F_of (startE 9 ds) { nx := fun _ => P .non, rt := P, ex := fun x _ => R x } := by
  obtain ⟨name, ss, rfl, h0, hl, hn, hs, hP⟩ := h
  have hln : (ss.map D.str).length = ss.length := List.length_map _
  have szs : (100 : Nat) ≤ sizeLine := by decide
  -- the kind
  refine st_set (fun d => ∃ k, d = .str (Kind.nm k)) (fun Pk hPk => ?_) (fun d hd => ?_)
  · refine ⟨(by show (5 : Nat) ≤ sizeLine; decide), rfl, _, .inl rfl, by simp, (by show (5 : Nat) < 2 ^ 60; decide), fun d hd => hPk _ ?_⟩
    simp only [List.mem_cons, List.not_mem_nil, or_false] at hd
    rcases hd with rfl | rfl | rfl | rfl | rfl
    · exact ⟨.tie, rfl⟩
    · exact ⟨.oneway, rfl⟩
    · exact ⟨.gate, rfl⟩
    · exact ⟨.push, rfl⟩
    · exact ⟨.keep, rfl⟩
  obtain ⟨k, rfl⟩ := hd
  -- the ends
  have hadd : ss.map D.str ++ [D.str "ground"] = (ss ++ [groundS]).map D.str := by rw [List.map_append]; rfl
  refine st_par (fun d e => ∃ xs ys : List Str, d = .lst (xs.map D.str) ∧ e = .lst (ys.map D.str) ∧ xs.Perm (ss ++ [groundS]) ∧ ys.Perm (ss ++ [groundS])) (fun Pk hPk => ?_) (fun d e hd => ?_)
  · refine ⟨(by show (1 : Nat) ≤ sizeLine; decide), by rw [hln]; show ss.length + 1 ≤ sizeLine; omega, rfl, _, .inl rfl, by rw [List.length_append, hln]; show ss.length + 1 ≤ 1000; omega, fun l1 p1 => ?_⟩
    refine ⟨(by show (1 : Nat) ≤ sizeLine; decide), by rw [hln]; show ss.length + 1 ≤ sizeLine; omega, rfl, _, .inl rfl, by rw [List.length_append, hln]; show ss.length + 1 ≤ 1000; omega, fun l2 p2 => ?_⟩
    have p1' : l1.Perm ((ss ++ [groundS]).map D.str) := hadd ▸ p1
    have p2' : l2.Perm ((ss ++ [groundS]).map D.str) := hadd ▸ p2
    obtain ⟨xs, rfl, hx⟩ := strs_perm p1'
    obtain ⟨ys, rfl, hy⟩ := strs_perm p2'
    exact hPk _ _ ⟨xs, ys, rfl, rfl, hx, hy⟩
  obtain ⟨xs, ys, rfl, rfl, hx, hy⟩ := hd
  have nd : (ss ++ [groundS]).Nodup := by
    rw [List.nodup_append]
    refine ⟨hn, by simp, fun a ha b hb => ?_⟩
    rw [List.mem_singleton] at hb
    intro e
    rw [e, hb] at ha
    have := hs _ ha
    rw [isName_ground] at this
    cases this
  have allE : ∀ s ∈ ss ++ [groundS], isEndB (.str s) = true := fun s h => by
    rcases List.mem_append.mp h with z | z
    · exact end_of_name (hs s z)
    · rw [List.mem_singleton] at z
      rw [z]
      exact end_ground
  have len2 : 2 ≤ (ss ++ [groundS]).length := by
    rw [List.length_append]
    have := List.length_pos_iff.mpr h0
    show 2 ≤ ss.length + 1
    omega
  -- the one
  refine st_set (fun d => ∃ o ∈ ss, d = .str o) (fun Pk hPk => ?_) (fun d hd => ?_)
  · refine ⟨rfl, _, .inl rfl, fun z => h0 (List.map_eq_nil_iff.mp z), by rw [hln]; omega, fun d hd => ?_⟩
    obtain ⟨o, ho, rfl⟩ := List.mem_map.mp hd
    exact hPk _ ⟨o, ho, rfl⟩
  obtain ⟨o, ho, rfl⟩ := hd
  refine st_set (fun d => d = .tup [.str o]) (fun Pk hPk => ⟨(by show (1 : Nat) ≤ sizeLine; decide), hPk _ rfl⟩) (fun d hd => ?_)
  subst hd
  have fin : ∀ l, endsOk k l = true → wsRet (wTup (wCons (wVar 1) (wCons (wVar 3) (wCons (wVar 7) (wCons (wCall (fun ds P R => ds.length = 2 ∧ F_any_strength ds P R) [] (wCons (wVar 0) (wCons (wVar 3) wNil))) wNil))))) [.v .bag, .v (.str name), .v (.lst (ss.map D.str)), .v (.str (Kind.nm k)), .v (.lst (xs.map D.str)), .v (.lst (ys.map D.str)), .v (.str o), .v (.tup l), .no] { nx := fun _ => P .non, rt := P, ex := fun x _ => R x } := fun l h => by
    refine ⟨rfl, k, rfl, fun s s1 s2 => ⟨(by show (4 : Nat) ≤ sizeLine; decide), hP _ ⟨k, l, s, rfl, h, s1, s2⟩⟩⟩
  have nameO : isEndB (.str o) = true := end_of_name (hs o ho)
  have oG : ¬ o = groundS := fun e => by
    have := hs o ho
    rw [e, isName_ground] at this
    cases this
  have single : (isEndB (.str o) && !decide (o = groundS)) = true := by rw [nameO, decide_eq_false oG]; rfl
  obtain ⟨a, b, r, ex, ab⟩ := two_of (by rw [hx.length_eq]; exact len2) (hx.nodup_iff.mpr nd)
  obtain ⟨c, d, r2, ey, cd⟩ := two_of (by rw [hy.length_eq]; exact len2) (hy.nodup_iff.mpr nd)
  have ea : isEndB (.str a) = true := allE a (hx.subset (by rw [ex]; simp))
  have eb : isEndB (.str b) = true := allE b (hx.subset (by rw [ex]; simp))
  have ec : isEndB (.str c) = true := allE c (hy.subset (by rw [ey]; simp))
  have ed : isEndB (.str d) = true := allE d (hy.subset (by rw [ey]; simp))
  cases k with
  | push =>
    refine st_if false (fun Pk h => h) (fun h => nomatch h) (fun _ => ?_)
    refine st_if1 false (fun Pk h => h) (fun h => nomatch h) (fun _ => ?_)
    refine st_if1 false (fun Pk h => h) (fun h => nomatch h) (fun _ => ?_)
    exact fin [.str o] single
  | keep =>
    refine st_if false (fun Pk h => h) (fun h => nomatch h) (fun _ => ?_)
    refine st_if1 false (fun Pk h => h) (fun h => nomatch h) (fun _ => ?_)
    refine st_if1 false (fun Pk h => h) (fun h => nomatch h) (fun _ => ?_)
    exact fin [.str o] single
  | tie =>
    refine st_if false (fun Pk h => h) (fun h => nomatch h) (fun _ => ?_)
    refine st_if1 true (fun Pk h => h) (fun _ => ?_) (fun h => nomatch h)
    subst ex
    refine ⟨.str a, at_0, .str b, at_1, (by show (2 : Nat) ≤ sizeLine; decide), fin [.str a, .str b] ?_⟩
    show (isEndB (.str a) && isEndB (.str b) && !decide (a = b)) = true
    rw [ea, eb, decide_eq_false ab]
    rfl
  | gate =>
    refine st_if false (fun Pk h => h) (fun h => nomatch h) (fun _ => ?_)
    refine st_if1 false (fun Pk h => h) (fun h => nomatch h) (fun _ => ?_)
    refine st_if1 true (fun Pk h => h) (fun _ => ?_) (fun h => nomatch h)
    subst ex ey
    refine ⟨.str a, at_0, .str b, at_1, .str c, at_0, .str d, at_1, (by show (4 : Nat) ≤ sizeLine; decide), fin [.str a, .str b, .str c, .str d] ?_⟩
    show (isEndB (.str a) && isEndB (.str b) && isEndB (.str c) && isEndB (.str d) && (!decide (a = b) && !decide (c = d))) = true
    rw [ea, eb, ec, ed, decide_eq_false ab, decide_eq_false cd]
    rfl
  | oneway =>
    refine st_if true (fun Pk h => h) (fun _ => ?_) (fun h => nomatch h)
    have gin : groundS ∈ xs := hx.symm.subset (by simp)
    -- the ends that are not the one
    have hf : ∃ e r3, (xs.map D.str).filter (fun d => match d with | .str s => !decide (s = o) | _ => false) = D.str e :: r3 ∧ e ∈ xs ∧ e ≠ o := by
      have mem : D.str groundS ∈ (xs.map D.str).filter (fun d => match d with | .str s => !decide (s = o) | _ => false) := by
        rw [List.mem_filter]
        refine ⟨List.mem_map.mpr ⟨_, gin, rfl⟩, ?_⟩
        show (!decide (groundS = o)) = true
        rw [decide_eq_false fun e => oG e.symm]
        rfl
      match e : (xs.map D.str).filter (fun d => match d with | .str s => !decide (s = o) | _ => false) with
      | [] => rw [e] at mem; cases mem
      | y :: r3 =>
        have hy : y ∈ (xs.map D.str).filter (fun d => match d with | .str s => !decide (s = o) | _ => false) := by rw [e]; exact List.mem_cons_self
        rw [List.mem_filter] at hy
        obtain ⟨s, hs1, rfl⟩ := List.mem_map.mp hy.1
        refine ⟨s, r3, e, hs1, fun z => ?_⟩
        have q : (!decide (s = o)) = true := hy.2
        rw [decide_eq_true z] at q
        cases q
    obtain ⟨e, r3, f1, f2, f3⟩ := hf
    refine st_set1 (fun z => z = .tup [.str o, .str e]) (fun Pk hPk => ?_) (fun z hz => ?_)
    rotate_left
    · subst hz
      refine fin [.str o, .str e] ?_
      show (isEndB (.str o) && isEndB (.str e) && (!decide (o = e) && !decide (o = groundS))) = true
      rw [nameO, allE e (hx.subset f2), decide_eq_false (fun z => f3 z.symm), decide_eq_false oG]
      rfl
    refine wLc_filter (R := fun x _ => R x) (P := fun d e => rdIx d (.int 0) fun z => ([.str o, z].length ≤ sizeLine ∧ Pk (.tup [.str o, z]) e)) (wi := wIt (wVar 4)) (wt := wTest (wOp rdNe (wVar 8) (wVar 6))) (env := [.v .bag, .v (.str name), .v (.lst (ss.map D.str)), .v (.str (Kind.nm .oneway)), .v (.lst (xs.map D.str)), .v (.lst (ys.map D.str)), .v (.str o), .v (.tup [.str o]), .no]) (f := fun d => match d with | .str s => !decide (s = o) | _ => false) (l := xs.map D.str) (i := 8) (by show 8 < 9; decide) (fun Pk h => h) (by rw [List.length_map, hx.length_eq, List.length_append]; show ss.length + 1 ≤ 100000; omega) (fun x hx' Pk h => ?_) ?_
    · obtain ⟨s, _, rfl⟩ := List.mem_map.mp hx'
      exact h
    · rw [f1]
      exact ⟨.str e, at_0, (by show (2 : Nat) ≤ sizeLine; decide), hPk _ rfl⟩
end Pu
set_option maxRecDepth 100000
/-! split, startswith, over data -/
namespace Pu
open PySem L2 PySem.Spec PyProof.Rows
theorem strs_rep {w : Wd} {G : Hp} : ∀ l : List Str, Reps w G (l.map V.str) (l.map D.str)
  | [] => .nil
  | _ :: l => .cons .str (strs_rep l)
def rdSplit : RDM := fun o ds P => match o, ds with
  | .str a, [.str b] => (b.length == 0) = false ∧ a.length + 2 ≤ sizeLine ∧ P (.lst ((Txt.split a b).map D.str))
  | _, _ => False
def rdStarts : RDM := fun o ds P => match o, ds with
  | .str a, [.str b] => P (.bl (Txt.startswith a b))
  | _, _ => False
section
variable {X : Cx} {W : WX}
theorem px_split {o e : Expr} {wo wa : WE} {apos pos : Pos} (ho : PX X W o wo) (he : PX X W e wa) (hs : starEach [e] X.env = [(false, eval e X.env)] := by rfl) (hbase : attributeBase o "split" X.env (eval o X.env) = eval o X.env := by rfl) (hline : (apos.endLine == pos.line) = true := by rfl) :
    PX X W (.Call (.Attribute o "split" apos) [e] [] pos) (wM1 rdSplit wo wa) := by
  obtain ⟨t, a1, a2⟩ := ho.ex
  obtain ⟨u, b1, b2⟩ := he.ex
  refine ⟨⟨_, pe_split a1 b1 hs hbase hline, fun F env σ G H P R Q hx hs hw hq hk => a2 F env σ G H _ R _ hx hs hw (fun d1 e1 v1 G1 H1 p1 s1 x1 r1 => ?_) hk⟩⟩
  cases d1 <;> first | exact p1.elim | skip
  refine ⟨⟨_, r1.asStr⟩, b2 F e1 σ G1 H1 _ R _ hx s1 p1 (fun d2 e2 v2 G2 H2 p2 s2 x2 r2 => ?_) hk⟩
  cases d2 <;> first | exact p2.elim | skip
  cases r1
  cases r2
  rename_i x y
  obtain ⟨h1, h2, h3⟩ := p2
  refine ⟨_, _, rfl, rfl, h1, h2, fun p hp => ?_⟩
  have po := Post.new1 (o := .lst ((Txt.split x y).map V.str)) s2.pre hp
  exact hq _ e2 _ _ _ h3 (s2.step po) (x1.trans (x2.trans po.ex)) (.lst upd_same (strs_rep _))
theorem px_starts {o e : Expr} {wo wa : WE} {apos pos : Pos} (ho : PX X W o wo) (he : PX X W e wa) (hs : starEach [e] X.env = [(false, eval e X.env)] := by rfl) (hbase : attributeBase o "startswith" X.env (eval o X.env) = eval o X.env := by rfl) (hline : (apos.endLine == pos.line) = true := by rfl) :
    PX X W (.Call (.Attribute o "startswith" apos) [e] [] pos) (wM1 rdStarts wo wa) := by
  obtain ⟨t, a1, a2⟩ := ho.ex
  obtain ⟨u, b1, b2⟩ := he.ex
  refine ⟨⟨_, pe_m1 F.slot_str_startswith F.type_str_startswith mt_startswith a1 b1 hs hbase hline, fun F env σ G H P R Q hx hs hw hq hk => a2 F env σ G H _ R _ hx hs hw (fun d1 e1 v1 G1 H1 p1 s1 x1 r1 => ?_) hk⟩⟩
  cases d1 <;> first | exact p1.elim | skip
  refine ⟨⟨_, r1.asStr⟩, b2 F e1 σ G1 H1 _ R _ hx s1 p1 (fun d2 e2 v2 G2 H2 p2 s2 x2 r2 => ?_) hk⟩
  cases d2 <;> first | exact p2.elim | skip
  cases r1
  cases r2
  exact ⟨_, _, rfl, rfl, hq _ e2 _ G2 H2 p2 s2 (x1.trans x2) .bl⟩
end
end Pu
set_option maxRecDepth 100000
/-! Number texts; is_plain, over data -/
namespace Pu
open PySem L2 PySem.Spec PyProof.Rows
open TL
abbrev numS (i : Int) : Str := Str.ofString (toString i)
theorem tl_numS (i : Int) : tl (numS i) = if i < 0 then 45 :: numL i.natAbs else numL i.natAbs := by
  cases i with
  | ofNat n =>
    rw [if_neg (by show ¬ ((n : Int) < 0); omega)]
    exact tl_num n
  | negSucc n =>
    rw [if_pos (Int.negSucc_lt_zero n)]
    have e : numS (Int.negSucc n) = Str.ofString ("-" ++ toString ((n + 1 : Nat) : Int)) := rfl
    have e2 := tl_num (n + 1)
    rw [e]
    rw [Str.ofString_eq_toList] at e2 ⊢
    show (("-" ++ toString ((n + 1 : Nat) : Int)).toList.map Char.toNat).toArray.toList = _
    have e3 : ((toString ((n + 1 : Nat) : Int)).toList.map Char.toNat).toArray.toList = numL (n + 1) := e2
    rw [List.toList_toArray] at e3 ⊢
    rw [String.toList_append, List.map_append, e3]
    rfl
theorem numS_len_le {i : Int} {k : Nat} (hk : 0 < k) (h : i.natAbs < 10 ^ k) : (numS i).length ≤ k + 1 := by
  rw [len_tl, tl_numS]
  have := numL_len hk h
  split
  · rw [List.length_cons]; omega
  · omega
theorem intText_num (i : Int) (h : (numL i.natAbs).length ≤ 4000) : intText? (numS i) = some i := by
  have e := tl_numS i
  have hl : (numS i).length ≤ 4300 := by
    rw [len_tl, e]
    split
    · rw [List.length_cons]; omega
    · omega
  by_cases hi : i < 0
  · rw [if_pos hi] at e
    rw [intText_neg e (numL_digits _) (numL_ne _) hl, numL_val]
    congr 1
    omega
  · rw [if_neg hi] at e
    have e2 := intText_digits (x := numS i) (by rw [show (numS i).cps.toList = _ from e]; exact numL_digits _) (by rw [show (numS i).cps.toList = _ from e]; exact numL_ne _) hl
    rw [e2, show (numS i).cps.toList = _ from e, numL_val]
    congr 1
    omega
theorem starts_one (s : Str) (c : Nat) : Txt.startswith s ⟨#[c]⟩ = decide ((tl s).head? = some c) := by
  unfold Txt.startswith
  rw [PySem.StrLaws.subAt_eq]
  have e1 : (⟨#[c]⟩ : Str).length = 1 := rfl
  rw [e1, len_tl]
  show (decide (0 + 1 ≤ (tl s).length) && List.take 1 (List.drop 0 (tl s)) == [c]) = _
  cases h : tl s with
  | nil => rfl
  | cons x l =>
    rw [decide_eq_true (by rw [List.length_cons]; omega), Bool.true_and]
    by_cases z : x = c
    · subst z
      simp
    · simp [z]
def digB (c : Nat) : Bool := decide (c ∈ ("0123456789" : Str).cps.toList)
def signOff (l : List Nat) : List Nat := if l.head? = some 45 then l.drop 1 else l
def plainL (l : List Nat) : Bool := (decide (1 ≤ (signOff l).length) && decide ((signOff l).length ≤ 30) && (signOff l).all digB) && (decide (l = [48]) || !decide ((signOff l).head? = some 48))
def w_is_plain  : WS :=
    (wsSeq (wsSet 1 (wIf (wTest (wM1 rdStarts (wVar 0) (wC (.str "-")))) (wSl (wVar 0) (wPart (wC (.int 1))) wNoPart) (wVar 0)))
    (wsSeq (wsIf (wOr (wNot (wTest (wChain rdLe rdLe (wC (.int 1)) (wCB rdLen (wCons (wVar 1) wNil)) (wC (.int 30))))) (wNot (wTest (wCB rdAll (wCons (wLc [2] (wIt (wVar 1)) (wgName 2) wYes (wOp (rdIn false) (wVar 2) (wC (.str "0123456789")))) wNil))))) (wsRet (wC (.bl false))) wsNext)
    (wsRet (wOrV (wOp rdEq (wVar 0) (wC (.str "0"))) (wNotV (wM1 rdStarts (wVar 1) (wC (.str "0"))))))))
def F_is_plain : FT := fun ds P _ => ∃ s, ds = [.str s] ∧ s.length ≤ sizeLine ∧ P (.bl (plainL (tl s)))
/-- all([sign in Z for sign in text]) -/
theorem lc_signs {i j : Nat} {Z : Str} {env : En} {P : D → En → Prop} {R : QX} {s : Str} (hl : s.length ≤ 100000) (hi : i < env.length) (hj : env[j]? = some (.v (.str s)))
    (hP : P (.bl ((tl s).all fun c => decide (c ∈ Z.cps.toList))) (backE env env [i])) : wCB rdAll (wCons (wLc [i] (wIt (wVar j)) (wgName i) wYes (wOp (rdIn false) (wVar i) (wC (.str Z)))) wNil) env P R := by
  show wLc [i] (wIt (wVar j)) (wgName i) wYes _ env (fun d e => rdAll [d] fun z => P z e) R
  refine wLc_in (fun ds => ds = signsD s) (fun x d => ∃ c : Nat, x = .str ⟨#[c]⟩ ∧ d = .bl (decide (c ∈ Z.cps.toList))) (fun Pk h => ?_) (fun ds h => by rw [h, signs_len]; exact hl) (fun ds h x hx Pk hk => ?_) (fun ds out h ho => ?_)
  · unfold wIt wVar
    rw [hj]
    exact h _ rfl
  · subst h
    unfold signsD at hx
    obtain ⟨c, hc, rfl⟩ := List.mem_map.mp hx
    have hlen : i < (wipeE env [i]).length := by rw [wipeE_length]; exact hi
    have e : ((wipeE env [i]).set i (.v (.str ⟨#[c]⟩)))[i]? = some (.v (.str ⟨#[c]⟩)) := by rw [List.getElem?_set, if_pos rfl, if_pos hlen]
    dsimp only [wgName, wOp, wC, wVar]
    rw [e]
    refine hk _ _ ⟨c, rfl, rfl⟩ ?_
    show ((((env.set i .no).set i (.v (.str ⟨#[c]⟩))).set i .no) : En) = (env.set i .no)
    rw [List.set_set, List.set_set]
  · subst h
    have key : ∀ (l : List Nat) (out : List D), Rels (fun x d => ∃ c : Nat, x = .str ⟨#[c]⟩ ∧ d = .bl (decide (c ∈ Z.cps.toList))) (l.map fun c => D.str ⟨#[c]⟩) out → out = l.map fun c => D.bl (decide (c ∈ Z.cps.toList)) := by
      intro l
      induction l with
      | nil => intro out h; cases h; rfl
      | cons c l ih =>
        intro out h
        cases h with
        | cons r t =>
          obtain ⟨c', e1, e2⟩ := r
          have e3 : c' = c := by
            have := D.str.inj e1
            have := congrArg (fun s : Str => s.cps.toList) this
            simpa using this.symm
          rw [List.map_cons, e2, ih _ t, e3]
    rw [key _ _ ho]
    refine ⟨_, bools_map _ _, ?_⟩
    rw [List.all_map]
    exact hP
theorem cut_1 (s : Str) : tl (cutS s (some 1) none) = (tl s).drop 1 := by
  unfold cutS
  show (((s.cps.toList.drop (HT.sIx s.length 0 (some 1))).take (HT.sIx s.length s.length none - HT.sIx s.length 0 (some 1))).toArray).toList = _
  rw [List.toList_toArray]
  have e1 : HT.sIx s.length 0 (some 1) = min 1 s.length := by
    show (if (1 : Int) < 0 then (1 + (s.length : Int)).toNat else min (1 : Int).toNat s.length) = _
    rw [if_neg (by decide)]
    rfl
  have e2 : HT.sIx s.length s.length none = s.length := rfl
  rw [e1, e2]
  show (s.cps.toList.drop (min 1 s.length)).take (s.length - min 1 s.length) = s.cps.toList.drop 1
  have hl : s.cps.toList.length = s.length := by rw [Array.length_toList]; rfl
  by_cases h : s.length = 0
  · have : s.cps.toList = [] := List.length_eq_zero_iff.mp (by omega)
    rw [this]; simp
  · rw [show min 1 s.length = 1 by omega]
    rw [List.take_of_length_le (by rw [List.length_drop]; omega)]
theorem mk_eq_iff (s t : Str) : s = t ↔ tl s = tl t := by
  constructor
  · intro h; rw [h]
  · intro h
    obtain ⟨a⟩ := s
    obtain ⟨b⟩ := t
    congr 1
    exact Array.toList_inj.mp h
set_option maxHeartbeats 1000000 in
theorem pure_is_plain (ds : List D) (P : D → Prop) (R : DX → Prop) (_ : ds.length = 1) (h : F_is_plain ds P R) : w_is_plain (startE 3 ds) { nx := fun _ => P .non, rt := P, ex := fun x _ => R x } := by
  obtain ⟨s, rfl, hs, hP⟩ := h
  refine st_set (fun d => ∃ t, d = .str t ∧ tl t = signOff (tl s) ∧ t.length ≤ sizeLine) (fun Pk hPk => ?_) (fun d hd => ?_)
  · show match Txt.startswith s "-" with | true => _ | false => _
    have e : Txt.startswith s "-" = decide ((tl s).head? = some 45) := starts_one s 45
    rw [e]
    by_cases h : (tl s).head? = some 45
    · rw [decide_eq_true h]
      refine ⟨hs, hPk _ ⟨_, rfl, ?_, Nat.le_trans (cutS_length _ _ _) hs⟩⟩
      rw [cut_1]
      unfold signOff
      rw [if_pos h]
    · rw [decide_eq_false h]
      refine hPk _ ⟨_, rfl, ?_, hs⟩
      unfold signOff
      rw [if_neg h]
  obtain ⟨t, rfl, ht, htl⟩ := hd
  have hlen : t.length = (signOff (tl s)).length := by rw [len_tl, ht]
  refine st_ifN (!((decide (1 ≤ (signOff (tl s)).length) && decide ((signOff (tl s)).length ≤ 30)) && (signOff (tl s)).all digB)) (fun Pk h => ?_) (fun h => ?_) (fun h => ?_)
  · show t.length ≤ sizeLine ∧ _
    refine ⟨htl, ?_⟩
    show True ∧ match D.bl (decide ((1 : Int) ≤ (t.length : Int))) with | .bl true => _ | .bl false => _ | _ => False
    refine ⟨trivial, ?_⟩
    by_cases h1 : 1 ≤ (signOff (tl s)).length
    · rw [decide_eq_true (show (1 : Int) ≤ (t.length : Int) by omega)]
      rw [decide_eq_true h1] at h
      show True ∧ _
      refine ⟨trivial, ?_⟩
      by_cases h2 : (signOff (tl s)).length ≤ 30
      · rw [decide_eq_true h2] at h
        show match !decide ((t.length : Int) ≤ 30) with | true => _ | false => _
        rw [decide_eq_true (show (t.length : Int) ≤ 30 by omega)]
        refine lc_signs (s := t) (j := 1) (i := 2) (Z := "0123456789") (env := [.v (.str s), .v (.str t), .no]) (by omega) (by show 2 < 3; decide) rfl ?_
        rw [ht]
        exact h
      · rw [decide_eq_false h2] at h
        show match !decide ((t.length : Int) ≤ 30) with | true => _ | false => _
        rw [decide_eq_false (show ¬ (t.length : Int) ≤ 30 by omega)]
        exact h
    · rw [decide_eq_false (show ¬ (1 : Int) ≤ (t.length : Int) by omega)]
      rw [decide_eq_false h1] at h
      exact h
  · have e : plainL (tl s) = false := by
      unfold plainL
      rw [Bool.not_eq_true'] at h
      rw [h, Bool.false_and]
    rw [e] at hP
    exact hP
  · rw [Bool.not_eq_false'] at h
    have e : plainL (tl s) = (decide (tl s = [48]) || !decide ((signOff (tl s)).head? = some 48)) := by
      unfold plainL
      rw [h, Bool.true_and]
    rw [e] at hP
    have e0 : decide (s = ("0" : Str)) = decide (tl s = [48]) := by
      rw [decide_eq_decide]
      exact mk_eq_iff s "0"
    show match D.bl (decide (s = ("0" : Str))) with | .bl true => _ | .bl false => _ | _ => _
    rw [e0]
    by_cases z : tl s = [48]
    · rw [decide_eq_true z] at hP ⊢
      exact hP
    · rw [decide_eq_false z] at hP ⊢
      show P (.bl (!Txt.startswith t "0"))
      have e1 : Txt.startswith t "0" = decide ((tl t).head? = some 48) := starts_one t 48
      rw [e1, ht]
      exact hP
/-! what a number's text is -/
theorem numL_head {n : Nat} (h : 0 < n) : (numL n).head? ≠ some 48 := by
  induction n using Nat.strongRecOn with
  | _ n ih =>
    by_cases h1 : n < 10
    · rw [numL_lt h1]
      intro z
      have := Option.some.inj z
      omega
    · rw [numL_step (by omega)]
      have q := ih (n / 10) (by omega) (by omega)
      intro z
      refine q ?_
      cases e : numL (n / 10) with
      | nil => exact absurd e (numL_ne _)
      | cons x l => rw [e] at z; exact z
theorem digB_of {c : Nat} (h : 48 ≤ c ∧ c ≤ 57) : digB c = true := by
  have : c = 48 ∨ c = 49 ∨ c = 50 ∨ c = 51 ∨ c = 52 ∨ c = 53 ∨ c = 54 ∨ c = 55 ∨ c = 56 ∨ c = 57 := by omega
  rcases this with rfl | rfl | rfl | rfl | rfl | rfl | rfl | rfl | rfl | rfl <;> decide +kernel
theorem num_pos_len (n : Nat) : 1 ≤ (numL n).length := List.length_pos_iff.mpr (numL_ne n)
theorem signOff_num (i : Int) : signOff (tl (numS i)) = numL i.natAbs := by
  unfold signOff
  rw [tl_numS]
  by_cases h : i < 0
  · rw [if_pos h]
    rfl
  · rw [if_neg h]
    rw [if_neg]
    intro z
    cases e : numL i.natAbs with
    | nil => exact absurd e (numL_ne _)
    | cons x l =>
      rw [e] at z
      have hx := numL_digits i.natAbs x (by rw [e]; exact List.mem_cons_self)
      have : x = 45 := Option.some.inj z
      omega
theorem plain_num {i : Int} (h : i.natAbs < 10 ^ 30) : plainL (tl (numS i)) = true := by
  unfold plainL
  rw [signOff_num]
  have h1 := num_pos_len i.natAbs
  have h2 := numL_len (k := 30) (by decide) h
  have h3 : (numL i.natAbs).all digB = true := List.all_eq_true.mpr fun c hc => digB_of (numL_digits _ c hc)
  rw [decide_eq_true h1, decide_eq_true h2, h3]
  by_cases z : i = 0
  · subst z
    rfl
  · rw [decide_eq_false (numL_head (by omega))]
    simp
theorem num_free32 (i : Int) : 32 ∉ tl (numS i) := by
  rw [tl_numS]
  have h := numL_free (n := i.natAbs) (s := 32) (.inl (by decide))
  split
  · intro z
    rcases List.mem_cons.mp z with z | z
    · cases z
    · exact h z
  · exact h
end Pu
set_option maxRecDepth 100000
/-! Texts of parts, over data -/
namespace Pu
open PySem L2 PySem.Spec PyProof.Rows
open TL
theorem cut_to {α : Type} (l : List α) (n : Nat) : cutD l none (some (n : Int)) = l.take n := by
  unfold cutD
  have e1 : HT.sIx l.length 0 none = 0 := rfl
  have e2 : HT.sIx l.length l.length (some (n : Int)) = min n l.length := by
    show (if (n : Int) < 0 then ((n : Int) + (l.length : Int)).toNat else min (n : Int).toNat l.length) = _
    rw [if_neg (by omega)]
    rfl
  rw [e1, e2, List.drop_zero, Nat.sub_zero]
  by_cases h : n ≤ l.length
  · rw [Nat.min_eq_left h]
  · rw [Nat.min_eq_right (by omega), List.take_length, List.take_of_length_le (by omega)]
theorem cut_mid {α : Type} (l : List α) (m n : Nat) : cutD l (some (m : Int)) (some (n : Int)) = (l.drop m).take (n - m) := by
  unfold cutD
  have e1 : ∀ d (n : Nat), HT.sIx l.length d (some (n : Int)) = min n l.length := fun d n => by
    show (if (n : Int) < 0 then ((n : Int) + (l.length : Int)).toNat else min (n : Int).toNat l.length) = _
    rw [if_neg (by omega)]
    rfl
  rw [e1, e1]
  by_cases h : m ≤ l.length
  · rw [Nat.min_eq_left h]
    by_cases h2 : n ≤ l.length
    · rw [Nat.min_eq_left h2]
    · rw [Nat.min_eq_right (by omega), List.take_of_length_le (by rw [List.length_drop]; omega), List.take_of_length_le (by rw [List.length_drop]; omega)]
  · rw [Nat.min_eq_right (show l.length ≤ m by omega), List.drop_of_length_le (Nat.le_refl _), List.drop_of_length_le (by omega)]
    simp
theorem cut_from {α : Type} (l : List α) (m : Nat) : cutD l (some (m : Int)) none = l.drop m := by
  unfold cutD
  have e1 : HT.sIx l.length 0 (some (m : Int)) = min m l.length := by
    show (if (m : Int) < 0 then ((m : Int) + (l.length : Int)).toNat else min (m : Int).toNat l.length) = _
    rw [if_neg (by omega)]
    rfl
  have e2 : HT.sIx l.length l.length none = l.length := rfl
  rw [e1, e2]
  by_cases h : m ≤ l.length
  · rw [Nat.min_eq_left h, List.take_of_length_le (by rw [List.length_drop]; omega)]
  · rw [Nat.min_eq_right (show l.length ≤ m by omega), List.drop_of_length_le (Nat.le_refl _), List.drop_of_length_le (by omega)]
    simp
theorem strsOf_map (ss : List Str) : strsOf (ss.map D.str) = some ss := by
  induction ss with
  | nil => rfl
  | cons s ss ih =>
    show (strsOf (ss.map D.str)).map (s :: ·) = _
    rw [ih]
    rfl
/-! ### forms -/
theorem ends_form {k : Kind} {l : List D} (h : endsOk k l = true) : ∃ ss : List Str, l = ss.map D.str ∧ ss.length = Kind.size k ∧ ∀ s ∈ ss, isEndB (.str s) = true := by
  unfold endsOk at h
  split at h
  all_goals first | cases h; done | simp only [Bool.and_eq_true] at h
  · rename_i a b
    refine ⟨[a, b], rfl, rfl, fun s hs => ?_⟩
    simp only [List.mem_cons, List.not_mem_nil, or_false] at hs
    rcases hs with rfl | rfl
    · exact h.1.1
    · exact h.1.2
  · rename_i a b
    refine ⟨[a, b], rfl, rfl, fun s hs => ?_⟩
    simp only [List.mem_cons, List.not_mem_nil, or_false] at hs
    rcases hs with rfl | rfl
    · exact h.1.1
    · exact h.1.2
  · rename_i a b c d
    refine ⟨[a, b, c, d], rfl, rfl, fun s hs => ?_⟩
    simp only [List.mem_cons, List.not_mem_nil, or_false] at hs
    rcases hs with rfl | rfl | rfl | rfl
    · exact h.1.1.1.1
    · exact h.1.1.1.2
    · exact h.1.1.2
    · exact h.1.2
  · rename_i a
    refine ⟨[a], rfl, rfl, fun s hs => ?_⟩
    rw [List.mem_singleton] at hs
    rw [hs]
    exact h.1
  · rename_i a
    refine ⟨[a], rfl, rfl, fun s hs => ?_⟩
    rw [List.mem_singleton] at hs
    rw [hs]
    exact h.1
inductive SForm : D → Prop
  | non : SForm .non
  | pair {a b : Int} : 1 ≤ a → a < b → b ≤ 1000 → SForm (.tup [.int a, .int b])
  | one {i : Int} : -1000 ≤ i → i ≤ 1000 → SForm (.int i)
theorem pair_form {d : D} (h : isPairB d = true) : SForm d := by
  unfold isPairB at h
  split at h
  · simp only [Bool.and_eq_true, decide_eq_true_iff] at h
    exact .pair h.1 h.2.1 h.2.2
  · cases h
theorem strength_form {k : Kind} {d : D} (h : strengthB k d = true) : SForm d := by
  unfold strengthB at h
  rw [Bool.or_eq_true] at h
  rcases h with h | h
  · have h' : (isNon d || isPairB d) = true := by cases k <;> first | exact h | cases h
    rw [Bool.or_eq_true] at h'
    rcases h' with z | z
    · cases d <;> first | exact .non | cases z
    · exact pair_form z
  · unfold allowsB at h
    split at h
    · rw [Bool.and_eq_true, decide_eq_true_iff, decide_eq_true_iff] at h
      have q : -1000 ≤ k.least := by cases k <;> decide
      exact .one (Int.le_trans q h.1) h.2
    · cases h
/-! ### the words of a part -/
def endW : Kind → List Str → List Str
  | .gate, [a, b, c, d] => [a, b, "by", c, d]
  | _, l => l
def sW : D → List Str
  | .tup [.int a, .int b] => ["in", numS a, numS b]
  | .int i => ["=", numS i]
  | _ => []
def partW (name : Str) (k : Kind) (ss : List Str) (s : D) : List Str := name :: Kind.nm k :: (endW k ss ++ sW s)
def textOf (name : Str) (k : Kind) (ss : List Str) (s : D) : Str := Txt.join " " (partW name k ss s)
/-- a short word without blanks -/
def WordOk (w : Str) : Prop := w.length ≤ 8 ∧ 32 ∉ tl w ∧ PyData.strOk w = true
theorem strOk_iff {s : Str} : PyData.strOk s = true ↔ ∀ c ∈ tl s, c < 0x110000 := by
  unfold PyData.strOk
  rw [Array.all_eq_true']
  constructor
  · intro h c hc
    exact of_decide_eq_true (h c (Array.mem_toList_iff.mp hc))
  · intro h c hc
    exact decide_eq_true (h c (Array.mem_toList_iff.mpr hc))
theorem small_ok {s : Str} (h : ∀ c ∈ tl s, c ∈ smallS.cps.toList) : PyData.strOk s = true := strOk_iff.mpr fun c hc => by
  have q : ∀ c ∈ smallS.cps.toList, c < 0x110000 := by decide +kernel
  exact q c (h c hc)
theorem num_okS (i : Int) : PyData.strOk (numS i) = true := strOk_iff.mpr fun c hc => by
  rw [tl_numS] at hc
  have q : ∀ c ∈ numL i.natAbs, c < 0x110000 := fun c hc => by
    have := numL_digits _ c hc
    omega
  split at hc
  · rcases List.mem_cons.mp hc with z | z
    · omega
    · exact q c z
  · exact q c hc
theorem small_free {s : Str} (h : ∀ c ∈ tl s, c ∈ smallS.cps.toList) : 32 ∉ tl s := fun z => by
  have := h 32 z
  revert this
  decide +kernel
theorem word_name {s : Str} (h : isName s = true) : WordOk s := by
  unfold isName at h
  simp only [Bool.and_eq_true, decide_eq_true_iff, List.all_eq_true] at h
  exact ⟨h.1.1.2, small_free fun c hc => h.2 c hc, small_ok fun c hc => h.2 c hc⟩
theorem word_of {s : Str} (h : (decide (s.length ≤ 8) && decide (32 ∉ tl s) && PyData.strOk s) = true) : WordOk s := by
  rw [Bool.and_eq_true, Bool.and_eq_true, decide_eq_true_iff, decide_eq_true_iff] at h
  exact ⟨h.1.1, h.1.2, h.2⟩
theorem word_end {s : Str} (h : isEndB (.str s) = true) : WordOk s := by
  have h' : (isName s || decide (s = groundS)) = true := h
  rw [Bool.or_eq_true] at h'
  rcases h' with z | z
  · exact word_name z
  · rw [of_decide_eq_true z]
    exact word_of (by decide +kernel)
theorem word_num {i : Int} (h1 : -1000 ≤ i) (h2 : i ≤ 1000) : WordOk (numS i) := ⟨Nat.le_trans (numS_len_le (k := 4) (by decide) (by show i.natAbs < 10000; omega)) (by decide), num_free32 i, num_okS i⟩
theorem words_ok {name : Str} {k : Kind} {ss : List Str} {s : D} (hn : isName name = true) (hs : ∀ x ∈ ss, isEndB (.str x) = true) (f : SForm s) : ∀ w ∈ partW name k ss s, WordOk w := by
  intro w hw
  unfold partW at hw
  rcases List.mem_cons.mp hw with rfl | hw
  · exact word_name hn
  rcases List.mem_cons.mp hw with rfl | hw
  · cases k <;> exact word_of (by decide +kernel)
  rcases List.mem_append.mp hw with hw | hw
  · have key : w ∈ ss ∨ w = "by" := by
      unfold endW at hw
      split at hw
      · simp only [List.mem_cons, List.not_mem_nil, or_false] at hw ⊢
        rcases hw with z | z | z | z | z
        · exact .inl (.inl z)
        · exact .inl (.inr (.inl z))
        · exact .inr z
        · exact .inl (.inr (.inr (.inl z)))
        · exact .inl (.inr (.inr (.inr z)))
      · exact .inl hw
    rcases key with z | rfl
    · exact word_end (hs w z)
    · exact word_of (by decide +kernel)
  · cases f with
    | non => cases hw
    | pair h1 h2 h3 =>
      have hw' : w ∈ (["in", numS _, numS _] : List Str) := hw
      simp only [List.mem_cons, List.not_mem_nil, or_false] at hw'
      rcases hw' with rfl | rfl | rfl
      · exact word_of (by decide +kernel)
      · exact word_num (by omega) (by omega)
      · exact word_num (by omega) (by omega)
    | one h1 h2 =>
      have hw' : w ∈ (["=", numS _] : List Str) := hw
      simp only [List.mem_cons, List.not_mem_nil, or_false] at hw'
      rcases hw' with rfl | rfl
      · exact word_of (by decide +kernel)
      · exact word_num (by omega) (by omega)
theorem sum_le : ∀ {ws : List Str}, (∀ w ∈ ws, WordOk w) → (ws.map (·.length)).sum ≤ ws.length * 8
  | [], _ => Nat.le_refl _
  | w :: ws, h => by
    have := sum_le fun x hx => h x (List.mem_cons_of_mem w hx)
    have q := (h w List.mem_cons_self).1
    rw [List.map_cons, List.sum_cons, List.length_cons]
    omega
theorem joinL_len (S : List Nat) : ∀ l : List (List Nat), (joinL S l).length ≤ (l.map (·.length)).sum + l.length * S.length
  | [] => by simp [joinL]
  | [p] => by simp [joinL]
  | p :: q :: r => by
    have := joinL_len S (q :: r)
    show (p ++ (S ++ joinL S (q :: r))).length ≤ _
    rw [List.length_append, List.length_append, List.map_cons, List.sum_cons, List.length_cons, Nat.add_mul]
    omega
theorem join_len (y : Str) (ws : List Str) : (Txt.join y ws).length ≤ (ws.map (·.length)).sum + ws.length * y.length := by
  rw [join_eq, len_tl, tl_join, len_tl]
  have := joinL_len (tl y) (ws.map tl)
  rw [List.map_map, List.length_map] at this
  have e : ws.map ((fun x => x.length) ∘ tl) = ws.map (·.length) := List.map_congr_left fun x _ => (len_tl x).symm
  rw [e] at this
  exact this
theorem partW_len {name : Str} {k : Kind} {ss : List Str} {s : D} (hl : ss.length = Kind.size k) (f : SForm s) : 3 ≤ (partW name k ss s).length ∧ (partW name k ss s).length ≤ 10 := by
  unfold partW
  rw [List.length_cons, List.length_cons, List.length_append]
  have h1 : ss.length ≤ (endW k ss).length ∧ (endW k ss).length ≤ 5 := by
    unfold endW
    split
    · exact ⟨by show 4 ≤ 5; decide, Nat.le_refl _⟩
    · rw [hl]
      cases k <;> decide
  have h2 : (sW s).length ≤ 3 := by
    cases f with
    | non => decide
    | pair => exact Nat.le_refl 3
    | one => show 2 ≤ 3; decide
  have h3 : 1 ≤ Kind.size k := by cases k <;> decide
  omega
theorem join_bound {ws : List Str} (h : ∀ w ∈ ws, WordOk w) (hl : ws.length ≤ 20) : (ws.map (·.length)).sum + ws.length * (" " : Str).length ≤ 16777216 := by
  have := sum_le h
  show _ + ws.length * 1 ≤ _
  omega
theorem split_words {ws : List Str} (h0 : ws ≠ []) (h : ∀ w ∈ ws, WordOk w) : Txt.split (Txt.join " " ws) " " = ws :=
  split_join (s := 32) (S := []) (by decide +kernel) (by decide +kernel) h0 fun p hp => (h p hp).2.1
theorem text_len {ws : List Str} (h : ∀ w ∈ ws, WordOk w) (hl : ws.length ≤ 20) : (Txt.join " " ws).length ≤ 1000 := by
  have h1 := join_len " " ws
  have h2 := sum_le h
  have e : (" " : Str).length = 1 := by decide +kernel
  rw [e] at h1
  omega
structure PartIs (name : Str) (k : Kind) (ss : List Str) (s : D) : Prop where
  nm : isName name = true
  ok : endsOk k (ss.map D.str) = true
  len : ss.length = Kind.size k
  ends : ∀ x ∈ ss, isEndB (.str x) = true
  str : strengthB k s = true
  form : SForm s
def partD (name : Str) (k : Kind) (ss : List Str) (s : D) : D := .tup [.str name, .str (Kind.nm k), .tup (ss.map D.str), s]
theorem good_is {name : Str} {p : D} (hn : isName name = true) (h : GoodPart name p) : ∃ k ss s, p = partD name k ss s ∧ PartIs name k ss s := by
  obtain ⟨k, l, s, rfl, he, hs, hps⟩ := h
  obtain ⟨ss, rfl, h1, h2⟩ := ends_form he
  exact ⟨k, ss, s, rfl, hn, he, h1, h2, hs, strength_form hs⟩
theorem PartIs.words {name : Str} {k : Kind} {ss : List Str} {s : D} (h : PartIs name k ss s) : ∀ w ∈ partW name k ss s, WordOk w := words_ok h.nm h.ends h.form
theorem PartIs.wlen {name : Str} {k : Kind} {ss : List Str} {s : D} (h : PartIs name k ss s) : 3 ≤ (partW name k ss s).length ∧ (partW name k ss s).length ≤ 10 := partW_len h.len h.form
theorem log_1920 {n : Nat} (h : n < 2 ^ 60) : n.log2 < 1920 := by
  by_cases h0 : n = 0
  · rw [h0]
    decide
  · have := (Nat.log2_lt h0).mpr h
    omega
/-! ### part_text -/
def w_law_part_text  : WS :=
    (wsSeq (wsSet 1 (wOp rdAdd (wLst (wCons (wOp rdIx (wVar 0) (wC (.int 0))) (wCons (wOp rdIx (wVar 0) (wC (.int 1))) (wCons (wOp rdIx (wOp rdIx (wVar 0) (wC (.int 2))) (wC (.int 0))) wNil)))) (wCB rdList (wCons (wSl (wOp rdIx (wVar 0) (wC (.int 2))) (wPart (wC (.int 1))) (wPart (wC (.int 2)))) wNil))))
    (wsSeq (wsIf (wTest (wOp rdEq (wOp rdIx (wVar 0) (wC (.int 1))) (wC (.str "gate")))) (wsSet 1 (wOp rdAdd (wVar 1) (wLst (wCons (wC (.str "by")) (wCons (wOp rdIx (wOp rdIx (wVar 0) (wC (.int 2))) (wC (.int 2))) (wCons (wOp rdIx (wOp rdIx (wVar 0) (wC (.int 2))) (wC (.int 3))) wNil)))))) wsNext)
    (wsSeq (wsIf (wTest (wOp rdIs (wOp rdIx (wVar 0) (wC (.int 3))) (wC .non))) (wsRet (wM1 rdJoin (wC (.str " ")) (wVar 1))) wsNext)
    (wsSeq (wsIf (wTest (wIsi .tuple (wOp rdIx (wVar 0) (wC (.int 3))))) (wsRet (wM1 rdJoin (wC (.str " ")) (wOp rdAdd (wVar 1) (wLst (wCons (wC (.str "in")) (wCons (wCB rdStr (wCons (wOp rdIx (wOp rdIx (wVar 0) (wC (.int 3))) (wC (.int 0))) wNil)) (wCons (wCB rdStr (wCons (wOp rdIx (wOp rdIx (wVar 0) (wC (.int 3))) (wC (.int 1))) wNil)) wNil))))))) wsNext)
    (wsRet (wM1 rdJoin (wC (.str " ")) (wOp rdAdd (wVar 1) (wLst (wCons (wC (.str "=")) (wCons (wCB rdStr (wCons (wOp rdIx (wVar 0) (wC (.int 3))) wNil)) wNil))))))))))
def w_part_text  : WS :=
    (wsSeq (wsAsg (wVar 0) (wgTup 4 (wgCons (wgName 1) (wgCons (wgName 2) (wgCons (wgName 3) (wgCons (wgName 4) wgNil))))))
    (wsSeq (wsSet 5 (wIf (wTest (wOp rdNe (wVar 2) (wC (.str "gate")))) (wCB rdList (wCons (wVar 3) wNil)) (wOp rdAdd (wOp rdAdd (wCB rdList (wCons (wSl (wVar 3) wNoPart (wPart (wC (.int 2)))) wNil)) (wLst (wCons (wC (.str "by")) wNil))) (wCB rdList (wCons (wSl (wVar 3) (wPart (wC (.int 2))) wNoPart) wNil)))))
    (wsSeq (wsSet 6 (wOp rdAdd (wLst (wCons (wVar 1) (wCons (wVar 2) wNil))) (wVar 5)))
    (wsSeq (wsIf (wTest (wOp rdIs (wVar 4) (wC .non))) (wsRet (wM1 rdJoin (wC (.str " ")) (wVar 6))) wsNext)
    (wsSeq (wsIf (wTest (wIsi .tuple (wVar 4))) (wsRet (wM1 rdJoin (wC (.str " ")) (wOp rdAdd (wVar 6) (wLst (wCons (wC (.str "in")) (wCons (wCB rdStr (wCons (wOp rdIx (wVar 4) (wC (.int 0))) wNil)) (wCons (wCB rdStr (wCons (wOp rdIx (wVar 4) (wC (.int 1))) wNil)) wNil))))))) wsNext)
    (wsRet (wM1 rdJoin (wC (.str " ")) (wOp rdAdd (wVar 6) (wLst (wCons (wC (.str "=")) (wCons (wCB rdStr (wCons (wVar 4) wNil)) wNil)))))))))))
def F_part_text : FT := fun ds P _ => ∃ name k ss s, ds = [partD name k ss s] ∧ PartIs name k ss s ∧ P (.str (textOf name k ss s))
theorem st_join {w : WE} {env : En} {K : EnD} {ws : List Str} (hw : ∀ Pk : D → En → Prop, Pk (.lst (ws.map D.str)) env → w env Pk K.ex) (h1 : ∀ x ∈ ws, WordOk x) (h2 : ws.length ≤ 20) (hK : K.rt (.str (Txt.join " " ws))) : wsRet (wM1 rdJoin (wC (.str " ")) w) env K :=
  hw _ ⟨ws, strsOf_map ws, join_bound h1 h2, hK⟩
set_option maxHeartbeats 4000000 in
theorem pure_part_text (ds : List D) (P : D → Prop) (R : DX → Prop) (_ : ds.length = 1) (h : F_part_text ds P R) : w_part_text (startE 7 ds) { nx := fun _ => P .non, rt := P, ex := fun x _ => R x } := by
  obtain ⟨name, k, ss, s, rfl, hp, hP⟩ := h
  have hw := hp.words
  have hl := hp.wlen
  have szs : (100 : Nat) ≤ sizeLine := by decide
  refine st_tup4 (fun Pk h => h) ?_
  refine st_set (fun d => d = .lst ((endW k ss).map D.str)) (fun Pk hPk => ?_) (fun d hd => ?_)
  · have q := hPk _ rfl
    have hs := hp.len
    cases k with
    | tie => match ss, hs with | [a, b], _ => exact q
    | oneway => match ss, hs with | [a, b], _ => exact q
    | gate => match ss, hs with | [a, b, c, d], _ => exact ⟨(by show (1 : Nat) ≤ sizeLine; omega), (by show (3 : Nat) ≤ sizeLine; omega), (by show (5 : Nat) ≤ sizeLine; omega), q⟩
    | push => match ss, hs with | [a], _ => exact q
    | keep => match ss, hs with | [a], _ => exact q
  subst hd
  refine st_set (fun d => d = .lst ((name :: Kind.nm k :: endW k ss).map D.str)) (fun Pk hPk => ?_) (fun d hd => ?_)
  · refine ⟨(by show (2 : Nat) ≤ sizeLine; omega), ?_, hPk _ rfl⟩
    have e : (partW name k ss s).length = 2 + (endW k ss).length + (sW s).length := by
      unfold partW
      rw [List.length_cons, List.length_cons, List.length_append]
      omega
    show 2 + ((endW k ss).map D.str).length ≤ sizeLine
    rw [List.length_map]
    omega
  subst hd
  have hk : ∀ (tail : List Str), sW s = tail → ((name :: Kind.nm k :: endW k ss).map D.str) ++ tail.map D.str = (partW name k ss s).map D.str := fun tail e => by
    rw [← List.map_append, ← e]
    rfl
  have hle : ((name :: Kind.nm k :: endW k ss).map D.str).length + 3 ≤ sizeLine := by
    rw [List.length_map]
    have e : (partW name k ss s).length = (name :: Kind.nm k :: endW k ss).length + (sW s).length := by
      unfold partW
      simp only [List.length_cons, List.length_append]
      omega
    omega
  have hP' : P (.str (Txt.join " " (partW name k ss s))) := hP
  cases hp.form with
  | non =>
    refine st_ifN true (fun Pk h => h) (fun _ => ?_) (fun h => nomatch h)
    refine st_join (ws := partW name k ss .non) (fun Pk h => ?_) hw (by omega) hP'
    rw [← hk [] rfl, List.map_nil, List.append_nil] at h
    exact h
  | @pair a b h1 h2 h3 =>
    refine st_ifN false (fun Pk h => h) (fun h => nomatch h) (fun _ => ?_)
    refine st_ifN true (fun Pk h => h) (fun _ => ?_) (fun h => nomatch h)
    refine st_join (ws := partW name k ss (.tup [.int a, .int b])) (fun Pk h => ?_) hw (by omega) hP'
    rw [← hk ["in", numS a, numS b] rfl] at h
    refine ⟨_, at_0, log_1920 (by omega), _, at_1, log_1920 (by omega), (by show (3 : Nat) ≤ sizeLine; omega), hle, h⟩
  | @one i h1 h2 =>
    refine st_ifN false (fun Pk h => h) (fun h => nomatch h) (fun _ => ?_)
    refine st_ifN false (fun Pk h => h) (fun h => nomatch h) (fun _ => ?_)
    refine st_join (ws := partW name k ss (.int i)) (fun Pk h => ?_) hw (by omega) hP'
    rw [← hk ["=", numS i] rfl] at h
    exact ⟨log_1920 (by omega), (by show (2 : Nat) ≤ sizeLine; omega), (by show _ + 2 ≤ sizeLine; omega), h⟩
set_option maxHeartbeats 4000000 in
theorem pure_law_part_text (ds : List D) (P : D → Prop) (R : DX → Prop) (_ : ds.length = 1) (h : F_part_text ds P R) : w_law_part_text (startE 2 ds) { nx := fun _ => P .non, rt := P, ex := fun x _ => R x } := by
  obtain ⟨name, k, ss, s, rfl, hp, hP⟩ := h
  have hw := hp.words
  have hl := hp.wlen
  have szs : (100 : Nat) ≤ sizeLine := by decide
  have hs := hp.len
  have hle : ((name :: Kind.nm k :: endW k ss).map D.str).length + 3 ≤ sizeLine := by
    rw [List.length_map]
    have e : (partW name k ss s).length = (name :: Kind.nm k :: endW k ss).length + (sW s).length := by
      unfold partW
      simp only [List.length_cons, List.length_append]
      omega
    omega
  have at2 : ∀ {a b c d : D}, atI [a, b, c, d] 2 = some c := fun {a b c d} => rfl
  have at3 : ∀ {a b c d : D}, atI [a, b, c, d] 3 = some d := fun {a b c d} => rfl
  have z1 : (1 : Nat) ≤ sizeLine := by omega
  have z2 : (2 : Nat) ≤ sizeLine := by omega
  have z3 : (3 : Nat) ≤ sizeLine := by omega
  have z4 : (4 : Nat) ≤ sizeLine := by omega
  have z8 : (8 : Nat) ≤ sizeLine := by omega
  have rest : wsSeq (wsIf (wTest (wOp rdIs (wOp rdIx (wVar 0) (wC (.int 3))) (wC .non))) (wsRet (wM1 rdJoin (wC (.str " ")) (wVar 1))) wsNext)
    (wsSeq (wsIf (wTest (wIsi .tuple (wOp rdIx (wVar 0) (wC (.int 3))))) (wsRet (wM1 rdJoin (wC (.str " ")) (wOp rdAdd (wVar 1) (wLst (wCons (wC (.str "in")) (wCons (wCB rdStr (wCons (wOp rdIx (wOp rdIx (wVar 0) (wC (.int 3))) (wC (.int 0))) wNil)) (wCons (wCB rdStr (wCons (wOp rdIx (wOp rdIx (wVar 0) (wC (.int 3))) (wC (.int 1))) wNil)) wNil))))))) wsNext)
    (wsRet (wM1 rdJoin (wC (.str " ")) (wOp rdAdd (wVar 1) (wLst (wCons (wC (.str "=")) (wCons (wCB rdStr (wCons (wOp rdIx (wVar 0) (wC (.int 3))) wNil)) wNil)))))))
    [.v (partD name k ss s), .v (.lst ((name :: Kind.nm k :: endW k ss).map D.str))] { nx := fun _ => P .non, rt := P, ex := fun x _ => R x } := by
    have hk : ∀ (tail : List Str), sW s = tail → ((name :: Kind.nm k :: endW k ss).map D.str) ++ tail.map D.str = (partW name k ss s).map D.str := fun tail e => by
      rw [← List.map_append, ← e]
      rfl
    have hP' : P (.str (Txt.join " " (partW name k ss s))) := hP
    cases hp.form with
    | non =>
      refine st_ifN true (fun Pk h => ⟨_, at3, h⟩) (fun _ => ?_) (fun h => nomatch h)
      refine st_join (ws := partW name k ss .non) (fun Pk h => ?_) hw (by omega) hP'
      rw [← hk [] rfl, List.map_nil, List.append_nil] at h
      exact h
    | @pair a b h1 h2 h3 =>
      refine st_ifN false (fun Pk h => ⟨_, at3, h⟩) (fun h => nomatch h) (fun _ => ?_)
      refine st_ifN true (fun Pk h => ⟨_, at3, h⟩) (fun _ => ?_) (fun h => nomatch h)
      refine st_join (ws := partW name k ss (.tup [.int a, .int b])) (fun Pk h => ?_) hw (by omega) hP'
      rw [← hk ["in", numS a, numS b] rfl] at h
      refine ⟨_, at3, _, at_0, log_1920 (by omega), _, at3, _, at_1, log_1920 (by omega), z3, hle, h⟩
    | @one i h1 h2 =>
      refine st_ifN false (fun Pk h => ⟨_, at3, h⟩) (fun h => nomatch h) (fun _ => ?_)
      refine st_ifN false (fun Pk h => ⟨_, at3, h⟩) (fun h => nomatch h) (fun _ => ?_)
      refine st_join (ws := partW name k ss (.int i)) (fun Pk h => ?_) hw (by omega) hP'
      rw [← hk ["=", numS i] rfl] at h
      exact ⟨_, at3, log_1920 (by omega), z2, (by show _ + 2 ≤ sizeLine; omega), h⟩
  cases k with
  | tie =>
    match ss, hs, rest with
    | [a, b], _, rest =>
      refine st_set (fun d => d = .lst (([name, "tie", a, b] : List Str).map D.str)) (fun Pk hPk => ⟨_, at_0, _, at_1, _, at2, _, at_0, z3, _, at2, z4, hPk _ rfl⟩) (fun d hd => ?_)
      subst hd
      exact st_ifN false (fun Pk h => ⟨_, at_1, h⟩) (fun h => nomatch h) (fun _ => rest)
  | oneway =>
    match ss, hs, rest with
    | [a, b], _, rest =>
      refine st_set (fun d => d = .lst (([name, "oneway", a, b] : List Str).map D.str)) (fun Pk hPk => ⟨_, at_0, _, at_1, _, at2, _, at_0, z3, _, at2, z4, hPk _ rfl⟩) (fun d hd => ?_)
      subst hd
      exact st_ifN false (fun Pk h => ⟨_, at_1, h⟩) (fun h => nomatch h) (fun _ => rest)
  | push =>
    match ss, hs, rest with
    | [a], _, rest =>
      refine st_set (fun d => d = .lst (([name, "push", a] : List Str).map D.str)) (fun Pk hPk => ⟨_, at_0, _, at_1, _, at2, _, at_0, z3, _, at2, z3, hPk _ rfl⟩) (fun d hd => ?_)
      subst hd
      exact st_ifN false (fun Pk h => ⟨_, at_1, h⟩) (fun h => nomatch h) (fun _ => rest)
  | keep =>
    match ss, hs, rest with
    | [a], _, rest =>
      refine st_set (fun d => d = .lst (([name, "keep", a] : List Str).map D.str)) (fun Pk hPk => ⟨_, at_0, _, at_1, _, at2, _, at_0, z3, _, at2, z3, hPk _ rfl⟩) (fun d hd => ?_)
      subst hd
      exact st_ifN false (fun Pk h => ⟨_, at_1, h⟩) (fun h => nomatch h) (fun _ => rest)
  | gate =>
    match ss, hs, rest with
    | [a, b, c, e], _, rest =>
      refine st_set (fun d => d = .lst (([name, "gate", a, b] : List Str).map D.str)) (fun Pk hPk => ⟨_, at_0, _, at_1, _, at2, _, at_0, z3, _, at2, z4, hPk _ rfl⟩) (fun d hd => ?_)
      subst hd
      refine st_if true (fun Pk h => ⟨_, at_1, h⟩) (fun _ => ?_) (fun h => nomatch h)
      exact ⟨_, at2, _, at2, _, at2, _, at3, z3, (by show (7 : Nat) ≤ sizeLine; omega), rest⟩
/-! ### == of lists of texts -/
theorem toPs_strs (l : List Str) : toPs (l.map D.str) = some (l.map PyData.str) := by
  induction l with
  | nil => rfl
  | cons s l ih =>
    show (match toP (.str s), toPs (l.map D.str) with | some p, some ps => some (p :: ps) | _, _ => none) = _
    rw [ih]
    rfl
theorem shaped_strs {l : List Str} (h : ∀ s ∈ l, PyData.strOk s = true) : SeqAt.shaped (.list (l.map PyData.str)) = true := by
  have h1 : ∀ {l : List Str}, (∀ s ∈ l, PyData.strOk s = true) → PyData.canLayAll0 (l.map PyData.str) = true ∧ PyData.depthAll (l.map PyData.str) = 0 := by
    intro l
    induction l with
    | nil => intro _; exact ⟨rfl, rfl⟩
    | cons s l ih =>
      intro h
      obtain ⟨i1, i2⟩ := ih fun x hx => h x (List.mem_cons_of_mem _ hx)
      refine ⟨?_, ?_⟩
      · show (PyData.strOk s && PyData.canLayAll0 (l.map PyData.str)) = true
        rw [i1, h s List.mem_cons_self]
        rfl
      · show max 0 (PyData.depthAll (l.map PyData.str)) = 0
        rw [i2]
        rfl
  obtain ⟨q1, q2⟩ := h1 h
  show (PyData.canLayAll0 (l.map PyData.str) && decide (PyData.depthAll (l.map PyData.str) + 1 ≤ 64)) = true
  rw [q1, q2]
  rfl
theorem eqv_strs : ∀ a b : List Str, PyData.eqvAll (a.map PyData.str) (b.map PyData.str) = decide (a = b)
  | [], [] => rfl
  | [], _ :: _ => rfl
  | _ :: _, [] => rfl
  | x :: a, y :: b => by
    show ((x == y) && PyData.eqvAll (a.map PyData.str) (b.map PyData.str)) = _
    rw [eqv_strs a b]
    by_cases h : x = y
    · subst h
      simp
    · simp [h]
theorem rdEq_strs {a b : List Str} {P : D → Prop} (ha : ∀ s ∈ a, PyData.strOk s = true) (hb : ∀ s ∈ b, PyData.strOk s = true) (h : P (.bl (decide (a = b)))) : rdEq (.lst (a.map D.str)) (.lst (b.map D.str)) P := by
  refine ⟨.list (a.map PyData.str), .list (b.map PyData.str), ?_, ?_, shaped_strs ha, shaped_strs hb, ?_⟩
  · show (toPs _).map _ = _
    rw [toPs_strs]
    rfl
  · show (toPs _).map _ = _
    rw [toPs_strs]
    rfl
  · show P (.bl (PyData.eqvAll _ _))
    rw [eqv_strs]
    exact h
/-! ### strength_of_words -/
def w_strength_of_words (F_is_plain : FT) : WS :=
    (wsSeq (wsIf (wTest (wOp rdEq (wVar 0) (wLst wNil))) (wsRet (wC .non)) wsNext)
    (wsSeq (wsSet 1 (wSl (wVar 0) (wPart (wC (.int 1))) wNoPart))
    (wsSeq (wsIf (wNot (wTest (wCB rdAll (wCons (wLc [2] (wIt (wVar 1)) (wgName 2) wYes (wCall (fun ds P R => ds.length = 1 ∧ F_is_plain ds P R) [] (wCons (wVar 2) wNil))) wNil)))) (wsRet (wC (.str ""))) wsNext)
    (wsSeq (wsIf (wAnd (wTest (wOp rdEq (wOp rdIx (wVar 0) (wC (.int 0))) (wC (.str "=")))) (wTest (wOp rdEq (wCB rdLen (wCons (wVar 1) wNil)) (wC (.int 1))))) (wsRet (wCB rdInt (wCons (wOp rdIx (wVar 1) (wC (.int 0))) wNil))) wsNext)
    (wsSeq (wsIf (wAnd (wTest (wOp rdEq (wOp rdIx (wVar 0) (wC (.int 0))) (wC (.str "in")))) (wTest (wOp rdEq (wCB rdLen (wCons (wVar 1) wNil)) (wC (.int 2))))) (wsRet (wTup (wCons (wCB rdInt (wCons (wOp rdIx (wVar 1) (wC (.int 0))) wNil)) (wCons (wCB rdInt (wCons (wOp rdIx (wVar 1) (wC (.int 1))) wNil)) wNil)))) wsNext)
    (wsRet (wC (.str ""))))))))
def F_strength_of_words : FT := fun ds P _ => ∃ s, ds = [.lst ((sW s).map D.str)] ∧ SForm s ∧ P s
def plainD : D → Bool
  | .str s => plainL (tl s)
  | _ => false
theorem words_short {s : D} (f : SForm s) : ∀ w ∈ sW s, PyData.strOk w = true := fun w hw => by
  exact (words_ok (name := "a") (k := .tie) (ss := []) (by decide +kernel) (by simp) f w (by unfold partW; exact List.mem_cons_of_mem _ (List.mem_cons_of_mem _ (List.mem_append_right _ hw)))).2.2
theorem plain_k {i : Int} (h1 : -1000 ≤ i) (h2 : i ≤ 1000) : plainL (tl (numS i)) = true := plain_num (by
  have : (1001 : Nat) ≤ 10 ^ 30 := by decide
  omega)
theorem num_ok {i : Int} (h1 : -1000 ≤ i) (h2 : i ≤ 1000) : intText? (numS i) = some i ∧ (numS i).length ≤ 640 := by
  have h := numL_len (n := i.natAbs) (k := 4) (by decide) (by show i.natAbs < 10000; omega)
  refine ⟨intText_num i (by omega), ?_⟩
  have := numS_len_le (i := i) (k := 4) (by decide) (by show i.natAbs < 10000; omega)
  omega
theorem pure_strength_of_words (ds : List D) (P : D → Prop) (R : DX → Prop) (_ : ds.length = 1) (h : F_strength_of_words ds P R) : w_strength_of_words F_is_plain (startE 3 ds) { nx := fun _ => P .non, rt := P, ex := fun x _ => R x } := by
  obtain ⟨s, rfl, hf, hP⟩ := h
  have hf' := hf
  cases hf with
  | non =>
    exact st_ifN true (fun Pk h => ⟨(by decide), rdEq_strs (b := []) (words_short hf') (by simp) h⟩) (fun _ => hP) (fun h => nomatch h)
  | @pair a b h1 h2 h3 =>
    obtain ⟨a1, a2⟩ := num_ok (i := a) (by omega) (by omega)
    obtain ⟨b1, b2⟩ := num_ok (i := b) (by omega) (by omega)
    refine st_ifN false (fun Pk h => ⟨(by decide), rdEq_strs (b := []) (words_short hf') (by simp) h⟩) (fun h => nomatch h) (fun _ => ?_)
    refine st_set (fun d => d = .lst [.str (numS a), .str (numS b)]) (fun Pk hPk => hPk _ rfl) (fun d hd => ?_)
    subst hd
    refine st_ifN false (fun Pk h => ?_) (fun h => nomatch h) (fun _ => ?_)
    · refine lc_all (f := plainD) (i := 2) (l := [.str (numS a), .str (numS b)]) (by show 2 ≤ 100000; decide) (by show 2 < 3; decide) (fun Pk h => h) (fun x hx Q R q => ?_) ?_
      · simp only [List.mem_cons, List.not_mem_nil, or_false] at hx
        rcases hx with rfl | rfl
        · exact ⟨_, rfl, sz_of (by omega), q⟩
        · exact ⟨_, rfl, sz_of (by omega), q⟩
      · have e : ([.str (numS a), .str (numS b)] : List D).all plainD = true := by
          show (plainL (tl (numS a)) && (plainL (tl (numS b)) && true)) = true
          rw [plain_k (by omega) (by omega), plain_k (by omega) (by omega)]
          rfl
        rw [e]
        exact h
    refine st_ifN false (fun Pk h => ⟨_, at_0, h⟩) (fun h => nomatch h) (fun _ => ?_)
    refine st_ifN true (fun Pk h => ⟨_, at_0, h⟩) (fun _ => ?_) (fun h => nomatch h)
    exact ⟨_, at_0, a, a1, a2, _, at_1, b, b1, b2, (by show (2 : Nat) ≤ sizeLine; decide), hP⟩
  | @one i h1 h2 =>
    obtain ⟨a1, a2⟩ := num_ok (i := i) (by omega) (by omega)
    refine st_ifN false (fun Pk h => ⟨(by decide), rdEq_strs (b := []) (words_short hf') (by simp) h⟩) (fun h => nomatch h) (fun _ => ?_)
    refine st_set (fun d => d = .lst [.str (numS i)]) (fun Pk hPk => hPk _ rfl) (fun d hd => ?_)
    subst hd
    refine st_ifN false (fun Pk h => ?_) (fun h => nomatch h) (fun _ => ?_)
    · refine lc_all (f := plainD) (i := 2) (l := [.str (numS i)]) (by show 1 ≤ 100000; decide) (by show 2 < 3; decide) (fun Pk h => h) (fun x hx Q R q => ?_) ?_
      · rw [List.mem_singleton] at hx
        subst hx
        exact ⟨_, rfl, sz_of (by omega), q⟩
      · have e : ([.str (numS i)] : List D).all plainD = true := by
          show (plainL (tl (numS i)) && true) = true
          rw [plain_k (by omega) (by omega)]
          rfl
        rw [e]
        exact h
    refine st_ifN true (fun Pk h => ⟨_, at_0, h⟩) (fun _ => ?_) (fun h => nomatch h)
    exact ⟨_, at_0, i, a1, a2, hP⟩
/-! ### read_part -/
theorem pl_mono : ∀ (n : Nat) (d : D), pl n d = true → pl (n + 1) d = true
  | 0, d, h => by cases d <;> first | exact h | cases h
  | n + 1, d, h => by
    cases d <;> first | exact h | skip
    all_goals
      rename_i l
      have h' : (decide (l.length ≤ 100000) && l.all (pl n)) = true := h
      show (decide (l.length ≤ 100000) && l.all (pl (n + 1))) = true
      rw [Bool.and_eq_true] at h' ⊢
      exact ⟨h'.1, List.all_eq_true.mpr fun x hx => pl_mono n x (List.all_eq_true.mp h'.2 x hx)⟩
theorem pl4 {a b c d : D} (h1 : pl 2 a = true) (h2 : pl 2 b = true) (h3 : pl 2 c = true) (h4 : pl 2 d = true) : pl 3 (.tup [a, b, c, d]) = true := by
  show (true && (pl 2 a && (pl 2 b && (pl 2 c && (pl 2 d && true))))) = true
  rw [h1, h2, h3, h4]
  rfl
theorem kindOf_nm (k : Kind) : kindOf (Kind.nm k) = some k := by cases k <;> rfl
theorem pl_word {n : Nat} {s : Str} (h : WordOk s) : pl n (.str s) = true := by
  have e : pl n (.str s) = decide (s.length ≤ 100000) := by cases n <;> rfl
  rw [e]
  exact decide_eq_true (by have := h.1; omega)
theorem pl_form {s : D} (h : SForm s) : pl 2 s = true := by
  cases h <;> rfl
theorem PartIs.isPart {name : Str} {k : Kind} {ss : List Str} {s : D} (h : PartIs name k ss s) : isPartB (partD name k ss s) = true ∧ pl 3 (partD name k ss s) = true := by
  have q : pl 2 (.tup (ss.map D.str)) = true := by
    show (decide ((ss.map D.str).length ≤ 100000) && (ss.map D.str).all (pl 1)) = true
    have h1 : (ss.map D.str).length ≤ 100000 := by
      rw [List.length_map, h.len]
      have : Kind.size k ≤ 4 := by cases k <;> decide
      omega
    have h2 : (ss.map D.str).all (pl 1) = true := List.all_eq_true.mpr fun x hx => by
      obtain ⟨y, hy, rfl⟩ := List.mem_map.mp hx
      exact pl_word (word_end (h.ends y hy))
    rw [decide_eq_true h1, h2]
    rfl
  refine ⟨?_, pl4 (pl_word (word_name h.nm)) (by cases k <;> decide +kernel) q (pl_form h.form)⟩
  show (isNameB (.str name) && restB (kindOf (Kind.nm k)) (.tup (ss.map D.str)) s) = true
  rw [kindOf_nm]
  show (isName name && (endsOk k (ss.map D.str) && strengthB k s)) = true
  rw [h.nm, h.ok, h.str]
  rfl
def w_read_part (F_is_part : FT) (F_strength_of_words : FT) : WS :=
    (wsSeq (wsIf (wNot (wTest (wIsi .str (wVar 0)))) wsNever wsNext)
    (wsSeq (wsSet 1 (wM1 rdSplit (wVar 0) (wC (.str " "))))
    (wsSeq (wsIf (wOr (wTest (wOp rdLt (wCB rdLen (wCons (wVar 1) wNil)) (wC (.int 3)))) (wTest (wOp (rdIn true) (wOp rdIx (wVar 1) (wC (.int 1))) (wC (.tup [.str "tie", .str "oneway", .str "gate", .str "push", .str "keep"]))))) wsNever wsNext)
    (wsSeq (wsSet 2 (wOp rdIx (wVar 1) (wC (.int 1))))
    (wsSeq (wsIf (wTest (wOp rdEq (wVar 2) (wC (.str "gate")))) (wsSeq (wsIf (wOr (wTest (wOp rdLt (wCB rdLen (wCons (wVar 1) wNil)) (wC (.int 7)))) (wTest (wOp rdNe (wOp rdIx (wVar 1) (wC (.int 4))) (wC (.str "by"))))) wsNever wsNext)
    (wsSet 1 (wOp rdAdd (wSl (wVar 1) wNoPart (wPart (wC (.int 4)))) (wSl (wVar 1) (wPart (wC (.int 5))) wNoPart)))) wsNext)
    (wsSeq (wsSet 3 (wOp rdAdd (wC (.int 2)) (wKD [("tie", 2), ("oneway", 2), ("gate", 4), ("push", 1), ("keep", 1)] (wVar 2))))
    (wsSeq (wsSet 4 (wTup (wCons (wOp rdIx (wVar 1) (wC (.int 0))) (wCons (wVar 2) (wCons (wCB rdTuple (wCons (wSl (wVar 1) (wPart (wC (.int 2))) (wPart (wVar 3))) wNil)) (wCons (wCall (fun ds P R => ds.length = 1 ∧ F_strength_of_words ds P R) [] (wCons (wSl (wVar 1) (wPart (wVar 3)) wNoPart) wNil)) wNil))))))
    (wsSeq (wsIf (wNot (wTest (wCall (fun ds P R => ds.length = 1 ∧ F_is_part ds P R) [] (wCons (wVar 4) wNil)))) wsNever wsNext)
    (wsRet (wVar 4))))))))))
def F_read_part : FT := fun ds P _ => ∃ name k ss s, ds = [.str (textOf name k ss s)] ∧ PartIs name k ss s ∧ P (partD name k ss s)
theorem c_cons {w : WE} {u : WA} {env : En} {P : List D → En → Prop} {R : QX} (A : D) (hw : ∀ Pk : D → En → Prop, Pk A env → w env Pk R) (hu : u env (fun ds e => P (A :: ds) e) R) : wCons w u env P R := hw _ hu
theorem or_f {w u : WT} {env : En} {P : Bool → En → Prop} {R : QX} (hw : ∀ Pk : Bool → En → Prop, Pk false env → w env Pk R) (hu : u env P R) : wOr w u env P R := hw _ hu
theorem t_len_lt {i : Nat} {l : List D} {n : Int} {env : En} {P : Bool → En → Prop} {R : QX} (hv : env[i]? = some (.v (.lst l))) (b : Bool) (e : decide ((l.length : Int) < n) = b) (h : P b env) : wTest (wOp rdLt (wCB rdLen (wCons (wVar i) wNil)) (wC (.int n))) env P R := by
  unfold wTest wOp wCB wCons wVar
  rw [hv]
  refine ⟨trivial, ?_⟩
  show P (decide ((l.length : Int) < n)) env
  rw [e]
  exact h
theorem all_flat_kinds : ([.str "tie", .str "oneway", .str "gate", .str "push", .str "keep"] : List D).all flatD = true := rfl
set_option maxHeartbeats 4000000 in
theorem pure_read_part (ds : List D) (P : D → Prop) (R : DX → Prop) (_ : ds.length = 1) (h : F_read_part ds P R) : w_read_part F_is_part F_strength_of_words (startE 5 ds) { nx := fun _ => P .non, rt := P, ex := fun x _ => R x } := by
  obtain ⟨name, k, ss, s, rfl, hp, hP⟩ := h
  have hw := hp.words
  have hl := hp.wlen
  have szs : (2000 : Nat) ≤ sizeLine := by decide
  have ne : partW name k ss s ≠ [] := by unfold partW; simp
  have tlen : (textOf name k ss s).length ≤ 1000 := text_len hw (by omega)
  refine st_ifN false (fun Pk h => h) (fun h => nomatch h) (fun _ => ?_)
  refine st_set (fun d => d = .lst ((partW name k ss s).map D.str)) (fun Pk hPk => ⟨rfl, by omega, ?_⟩) (fun d hd => ?_)
  · have e : Txt.split (textOf name k ss s) " " = partW name k ss s := split_words ne hw
    rw [e]
    exact hPk _ rfl
  subst hd
  have e1 : atI ((partW name k ss s).map D.str) 1 = some (.str (Kind.nm k)) := at_1
  refine st_ifN false (fun Pk h => ?_) (fun h => nomatch h) (fun _ => ?_)
  · have e : ¬ ((((partW name k ss s).map D.str).length : Int) < 3) := by rw [List.length_map]; omega
    refine or_f (fun Pk h => t_len_lt rfl _ (decide_eq_false e) h) ?_
    refine ⟨_, e1, rfl, rfl, ?_⟩
    show Pk (if true then !inD (.str (Kind.nm k)) _ else _) _
    rw [if_pos rfl, kind_in k]
    exact h
  refine st_set (fun d => d = .str (Kind.nm k)) (fun Pk hPk => ⟨_, e1, hPk _ rfl⟩) (fun d hd => ?_)
  subst hd
  refine (?_ : ∀ (b : WS) (K : EnD), b [.v (.str (textOf name k ss s)), .v (.lst ((name :: Kind.nm k :: (ss ++ sW s)).map D.str)), .v (.str (Kind.nm k)), .no, .no] K → wsSeq (wsIf (wTest (wOp rdEq (wVar 2) (wC (.str "gate")))) (wsSeq (wsIf (wOr (wTest (wOp rdLt (wCB rdLen (wCons (wVar 1) wNil)) (wC (.int 7)))) (wTest (wOp rdNe (wOp rdIx (wVar 1) (wC (.int 4))) (wC (.str "by"))))) wsNever wsNext)
    (wsSet 1 (wOp rdAdd (wSl (wVar 1) wNoPart (wPart (wC (.int 4)))) (wSl (wVar 1) (wPart (wC (.int 5))) wNoPart)))) wsNext) b [.v (.str (textOf name k ss s)), .v (.lst ((partW name k ss s).map D.str)), .v (.str (Kind.nm k)), .no, .no] K) _ _ ?_
  · intro b K hb
    have hs := hp.len
    cases k with
    | gate =>
      match ss, hs, hb with
      | [x, y, u, v], _, hb =>
        refine st_if true (fun Pk h => h) (fun _ => ?_) (fun h => nomatch h)
        have hW : partW name .gate [x, y, u, v] s = [name, "gate", x, y, "by", u, v] ++ sW s := rfl
        have hlen : ¬ ((((partW name .gate [x, y, u, v] s).map D.str).length : Int) < 7) := by
          rw [hW, List.length_map, List.length_append]
          show ¬ (((7 + (sW s).length : Nat) : Int) < 7)
          omega
        have e4 : atI ((partW name .gate [x, y, u, v] s).map D.str) 4 = some (.str "by") := by
          unfold atI ixN
          rw [if_pos (by decide), if_pos (by rw [hW, List.length_map, List.length_append]; show (4 : Int) < ((7 + (sW s).length : Nat) : Int); omega)]
          rfl
        refine st_ifN false (fun Pk h => ?_) (fun h => nomatch h) (fun _ => ?_)
        · exact or_f (fun Pk h => t_len_lt rfl _ (decide_eq_false hlen) h) ⟨_, e4, h⟩
        refine st_set1 (fun d => d = .lst ((name :: Kind.nm .gate :: ([x, y, u, v] ++ sW s)).map D.str)) (fun Pk hPk => ?_) (fun d hd => ?_)
        · show (cutD ((partW name .gate [x, y, u, v] s).map D.str) none (some ((4 : Nat) : Int))).length + (cutD ((partW name .gate [x, y, u, v] s).map D.str) (some ((5 : Nat) : Int)) none).length ≤ sizeLine ∧ Pk (.lst (cutD ((partW name .gate [x, y, u, v] s).map D.str) none (some ((4 : Nat) : Int)) ++ cutD ((partW name .gate [x, y, u, v] s).map D.str) (some ((5 : Nat) : Int)) none)) _
          rw [cut_to, cut_from]
          refine ⟨?_, hPk _ ?_⟩
          · rw [List.length_take, List.length_drop, List.length_map]
            omega
          · rw [hW]
            rfl
        subst hd
        exact hb
    | tie => exact st_if false (fun Pk h => h) (fun h => nomatch h) (fun _ => hb)
    | oneway => exact st_if false (fun Pk h => h) (fun h => nomatch h) (fun _ => hb)
    | push => exact st_if false (fun Pk h => h) (fun h => nomatch h) (fun _ => hb)
    | keep => exact st_if false (fun Pk h => h) (fun h => nomatch h) (fun _ => hb)
  refine st_set (fun d => d = .int ((2 + Kind.size k : Nat) : Int)) (fun Pk hPk => ⟨(Kind.size k : Int), kd_size k, hPk _ ?_⟩) (fun d hd => ?_)
  · congr 1
  subst hd
  refine st_set (fun d => d = partD name k ss s) (fun Pk hPk => ?_) (fun d hd => ?_)
  · have q1 : cutD ((name :: Kind.nm k :: (ss ++ sW s)).map D.str) (some ((2 : Nat) : Int)) (some ((2 + Kind.size k : Nat) : Int)) = ss.map D.str := by
      rw [cut_mid, Nat.add_sub_cancel_left]
      show ((ss ++ sW s).map D.str).take (Kind.size k) = _
      rw [List.map_append, List.take_append_of_le_length (by rw [List.length_map, hp.len]; exact Nat.le_refl _), List.take_of_length_le (by rw [List.length_map, hp.len]; exact Nat.le_refl _)]
    have q2 : cutD ((name :: Kind.nm k :: (ss ++ sW s)).map D.str) (some ((2 + Kind.size k : Nat) : Int)) none = (sW s).map D.str := by
      rw [cut_from, Nat.add_comm]
      show ((ss ++ sW s).map D.str).drop (Kind.size k) = _
      rw [List.map_append, List.drop_append_of_le_length (by rw [List.length_map, hp.len]; exact Nat.le_refl _), List.drop_of_length_le (by rw [List.length_map, hp.len]; exact Nat.le_refl _), List.nil_append]
    refine (?_ : wTup _ _ _ _)
    refine (?_ : wCons _ _ _ _ _)
    refine c_cons (.str name) (fun Pk h => ⟨_, at_0, h⟩) ?_
    refine c_cons (.str (Kind.nm k)) (fun Pk h => h) ?_
    refine c_cons (.tup (ss.map D.str)) (fun Pk h => ?_) ?_
    · rw [← q1] at h
      exact h
    refine c_cons s (fun Pk h => ?_) ⟨(by show (4 : Nat) ≤ sizeLine; omega), hPk _ rfl⟩
    have h2 : ([D.lst (cutD ((name :: Kind.nm k :: (ss ++ sW s)).map D.str) (some ((2 + Kind.size k : Nat) : Int)) none)] : List D).length = 1 ∧ F_strength_of_words [D.lst (cutD ((name :: Kind.nm k :: (ss ++ sW s)).map D.str) (some ((2 + Kind.size k : Nat) : Int)) none)] (fun d => Pk d ([Sl.v (.str (textOf name k ss s)), .v (.lst ((name :: Kind.nm k :: (ss ++ sW s)).map D.str)), .v (.str (Kind.nm k)), .v (.int ((2 + Kind.size k : Nat) : Int)), .no] : En)) (fun x => R x) := by
      rw [q2]
      exact ⟨rfl, s, rfl, hp.form, h⟩
    exact h2
  subst hd
  obtain ⟨p1, p2⟩ := hp.isPart
  refine st_ifN false (fun Pk h => ⟨rfl, _, 3, rfl, p2, ?_⟩) (fun h => nomatch h) (fun _ => hP)
  rw [p1]
  exact h
end Pu
namespace Pu
open PySem L2 PySem.Spec PyProof.Rows
/-! ### the text by its places -/
def top (i : Nat) : Stmt := PySem.Challenge.pw_partswing_k27_texts_of_parts.main.body.getD i (.Pass ⟨0, 0, 0, 0⟩)
structure Txt (w : World) (K : PySem.W.Frag) (mg : Str → Option Value) where
  f_law_bag : Addr
  fd_law_bag : FuncData
  fn_law_bag : Fun K "_law_bag" "_law_bag" (top 23) f_law_bag fd_law_bag
  g_law_bag : mg "_law_bag" = some (.ref f_law_bag)
  bd_law_bag : Binds K fd_law_bag ["_law_script"] []
  f_law_draw : Addr
  fd_law_draw : FuncData
  fn_law_draw : Fun K "_law_draw" "_law_draw" (top 24) f_law_draw fd_law_draw
  g_law_draw : mg "_law_draw" = some (.ref f_law_draw)
  bd_law_draw : Binds K fd_law_draw ["_law_bag_here", "_law_many"] []
  f_law_of : Addr
  fd_law_of : FuncData
  fn_law_of : Fun K "_law_of" "_law_of" (top 25) f_law_of fd_law_of
  g_law_of : mg "_law_of" = some (.ref f_law_of)
  bd_law_of : Binds K fd_law_of ["_law_bag_here", "_law_some"] []
  f_law_mixed : Addr
  fd_law_mixed : FuncData
  fn_law_mixed : Fun K "_law_mixed" "_law_mixed" (top 26) f_law_mixed fd_law_mixed
  g_law_mixed : mg "_law_mixed" = some (.ref f_law_mixed)
  bd_law_mixed : Binds K fd_law_mixed ["_law_bag_here", "_law_some"] []
  f_law_same : Addr
  fd_law_same : FuncData
  fn_law_same : Fun K "_law_same" "_law_same" (top 27) f_law_same fd_law_same
  g_law_same : mg "_law_same" = some (.ref f_law_same)
  bd_law_same : Binds K fd_law_same ["_law_found", "_law_due"] []
  f_is_name : Addr
  fd_is_name : FuncData
  fn_is_name : Fun K "is_name" "is_name" (top 8) f_is_name fd_is_name
  g_is_name : mg "is_name" = some (.ref f_is_name)
  bd_is_name : Binds K fd_is_name ["value"] []
  f_is_plain : Addr
  fd_is_plain : FuncData
  fn_is_plain : Fun K "is_plain" "is_plain" (top 5) f_is_plain fd_is_plain
  g_is_plain : mg "is_plain" = some (.ref f_is_plain)
  bd_is_plain : Binds K fd_is_plain ["text"] []
  f_is_integer_value : Addr
  fd_is_integer_value : FuncData
  fn_is_integer_value : Fun K "is_integer_value" "is_integer_value" (top 4) f_is_integer_value fd_is_integer_value
  g_is_integer_value : mg "is_integer_value" = some (.ref f_is_integer_value)
  bd_is_integer_value : Binds K fd_is_integer_value ["value"] []
  f_is_end : Addr
  fd_is_end : FuncData
  fn_is_end : Fun K "is_end" "is_end" (top 14) f_is_end fd_is_end
  g_is_end : mg "is_end" = some (.ref f_is_end)
  bd_is_end : Binds K fd_is_end ["value"] []
  f_are_places : Addr
  fd_are_places : FuncData
  fn_are_places : Fun K "are_places" "are_places" (top 15) f_are_places fd_are_places
  g_are_places : mg "are_places" = some (.ref f_are_places)
  bd_are_places : Binds K fd_are_places ["kind", "places"] []
  f_is_pair : Addr
  fd_is_pair : FuncData
  fn_is_pair : Fun K "is_pair" "is_pair" (top 16) f_is_pair fd_is_pair
  g_is_pair : mg "is_pair" = some (.ref f_is_pair)
  bd_is_pair : Binds K fd_is_pair ["value"] []
  f_allows : Addr
  fd_allows : FuncData
  fn_allows : Fun K "allows" "allows" (top 17) f_allows fd_allows
  g_allows : mg "allows" = some (.ref f_allows)
  bd_allows : Binds K fd_allows ["kind", "number"] []
  f_is_part : Addr
  fd_is_part : FuncData
  fn_is_part : Fun K "is_part" "is_part" (top 18) f_is_part fd_is_part
  g_is_part : mg "is_part" = some (.ref f_is_part)
  bd_is_part : Binds K fd_is_part ["value"] []
  f_part_text : Addr
  fd_part_text : FuncData
  fn_part_text : Fun K "part_text" "part_text" (top 19) f_part_text fd_part_text
  g_part_text : mg "part_text" = some (.ref f_part_text)
  bd_part_text : Binds K fd_part_text ["part"] []
  kb_part_text : KBinds K fd_part_text ["part"] ["part"] (fun us ws => us ++ ws) (fun vs zs => vs ++ zs)
  f_strength_of_words : Addr
  fd_strength_of_words : FuncData
  fn_strength_of_words : Fun K "strength_of_words" "strength_of_words" (top 20) f_strength_of_words fd_strength_of_words
  g_strength_of_words : mg "strength_of_words" = some (.ref f_strength_of_words)
  bd_strength_of_words : Binds K fd_strength_of_words ["words"] []
  f_read_part : Addr
  fd_read_part : FuncData
  fn_read_part : Fun K "read_part" "read_part" (top 21) f_read_part fd_read_part
  g_read_part : mg "read_part" = some (.ref f_read_part)
  bd_read_part : Binds K fd_read_part ["text"] []
  kb_read_part : KBinds K fd_read_part ["text"] ["text"] (fun us ws => us ++ ws) (fun vs zs => vs ++ zs)
  f_law_any_strength : Addr
  fd_law_any_strength : FuncData
  fn_law_any_strength : Fun K "_law_any_strength" "_law_any_strength" (top 28) f_law_any_strength fd_law_any_strength
  g_law_any_strength : mg "_law_any_strength" = some (.ref f_law_any_strength)
  bd_law_any_strength : Binds K fd_law_any_strength ["_law_bag_here", "_law_kind"] []
  f_law_some_part : Addr
  fd_law_some_part : FuncData
  fn_law_some_part : Fun K "_law_some_part" "_law_some_part" (top 29) f_law_some_part fd_law_some_part
  g_law_some_part : mg "_law_some_part" = some (.ref f_law_some_part)
  bd_law_some_part : Binds K fd_law_some_part ["_law_bag_here", "_law_name", "_law_spots"] []
  f_law_part_text : Addr
  fd_law_part_text : FuncData
  fn_law_part_text : Fun K "_law_part_text" "_law_part_text" (top 30) f_law_part_text fd_law_part_text
  g_law_part_text : mg "_law_part_text" = some (.ref f_law_part_text)
  bd_law_part_text : Binds K fd_law_part_text ["_law_part_z"] []
  f_law_part_names : Addr
  fd_law_part_names : FuncData
  fn_law_part_names : Fun K "_law_part_names" "_law_part_names" (top 31) f_law_part_names fd_law_part_names
  g_law_part_names : mg "_law_part_names" = some (.ref f_law_part_names)
  bd_law_part_names : Binds K fd_law_part_names ["_law_bag_here"] []
  f_law_place_names : Addr
  fd_law_place_names : FuncData
  fn_law_place_names : Fun K "_law_place_names" "_law_place_names" (top 32) f_law_place_names fd_law_place_names
  g_law_place_names : mg "_law_place_names" = some (.ref f_law_place_names)
  bd_law_place_names : Binds K fd_law_place_names ["_law_bag_here"] []
  f_law : Addr
  fd_law : FuncData
  fn_law : Fun K "law" "law" (top 33) f_law fd_law
  g_law : mg "law" = some (.ref f_law)
  bd_law : Binds K fd_law ["_law_script"] []
  b_int : mg "int" = none
  b_list : mg "list" = none
  b_len : mg "len" = none
  b_range : mg "range" = none
  b_isinstance : mg "isinstance" = none
  b_tuple : mg "tuple" = none
  b_zip : mg "zip" = none
  b_all : mg "all" = none
  b_bool : mg "bool" = none
  b_str : mg "str" = none
  c_SMALL : ∃ u, mg "SMALL" = some u ∧ RelV (.str "abcdefghijklmnopqrstuvwxyz") u
  c_GROUND : ∃ u, mg "GROUND" = some u ∧ RelV (.str "ground") u
  c_SIZES : ∃ a, mg "SIZES" = some (.ref a) ∧ ∀ q ∈ ([("tie", 2), ("oneway", 2), ("gate", 4), ("push", 1), ("keep", 1)] : List (Str × Int)), KDct K w a q.1 (.int q.2)
  c_MOST : ∃ u, mg "MOST" = some u ∧ RelV (.int 1000) u
  c_KINDS : ∃ a, mg "KINDS" = some (.ref a) ∧ KTup K a [.str "tie", .str "oneway", .str "gate", .str "push", .str "keep"]
/-! ### _law_bag -/
abbrev s_law_bag : Stmt := top 23
abbrev N_law_bag : List Str := ["_law_script", "_law_mixed_here", "_law_cell"]
abbrev ps_law_bag : List Str := ["_law_script"]
theorem sc_law_bag : FnScope N_law_bag ps_law_bag (defScope s_law_bag) := ⟨rfl, rfl, rfl, by decide +kernel, rfl, by decide +kernel, by decide +kernel⟩
theorem ok_law_bag {P : Program} {w : World} {K : PySem.W.Frag} {mg : Str → Option Value} {base : Heap} (T : Txt w K mg) : FnOk P w K mg base (L2.CX P w) 1 T.f_law_bag T.fd_law_bag ps_law_bag (spBag K) := by
  refine T.fn_law_bag.okX sc_law_bag (fun vs H Q E h => ?_) (fun cdv A outer s H vs Q E hr h => ⟨t_bag K, ?_, pure_bag rfl h⟩)
  · obtain ⟨a, ns, rfl, _⟩ := h
    rfl
  · exact (pss_cons (ps_set (i := 1) sc_law_bag.nd rfl (by first | exact Or.inl rfl | exact Or.inr rfl) pe_int) (pss_cons (ps_for (passes_of rfl) rfl (pi_list (pe_slice sl_list (pv 0) po_none (po_some pe_int))) (pg_name (i := 2) sc_law_bag.nd rfl (by first | exact Or.inl rfl | exact Or.inr rfl)) (pss_one (ps_set (i := 1) sc_law_bag.nd rfl (by first | exact Or.inl rfl | exact Or.inr rfl) (pe_op op_mod (pe_callTy call_int1 (by rfl) T.b_int (by decide +kernel) (pa_cons (pe_op op_add (pe_op op_add (pe_op op_mul (pv 1) pe_int) (pe_op op_mod (pe_callTy call_int1 (by rfl) T.b_int (by decide +kernel) (pa_cons (pv 2) pa_nil)) pe_int)) pe_int) pa_nil)) pe_int)))) (pss_one (ps_ret (pe_lst (pa_cons (pe_callTy call_list_of (by rfl) T.b_list (by decide +kernel) (pa_cons (pe_slice sl_list (pv 0) po_none (po_some pe_int)) pa_nil)) (pa_cons pe_int (pa_cons pe_int (pa_cons (pv 1) (pa_cons pe_int pa_nil))))))))))
/-! ### _law_draw -/
abbrev s_law_draw : Stmt := top 24
abbrev N_law_draw : List Str := ["_law_bag_here", "_law_many", "_law_cell", "_law_digit", "_law_seed"]
abbrev ps_law_draw : List Str := ["_law_bag_here", "_law_many"]
theorem sc_law_draw : FnScope N_law_draw ps_law_draw (defScope s_law_draw) := ⟨rfl, rfl, rfl, by decide +kernel, rfl, by decide +kernel, by decide +kernel⟩
theorem ok_law_draw {P : Program} {w : World} {K : PySem.W.Frag} {mg : Str → Option Value} {base : Heap} (T : Txt w K mg) : FnOk P w K mg base (L2.CX P w) 1 T.f_law_draw T.fd_law_draw ps_law_draw (spP K mg 2 F_draw) := by
  refine T.fn_law_draw.okX sc_law_draw (fun vs H Q E h => spP_len h) (fun cdv A outer s H vs Q E hr h => ⟨t_draw K, ?_, pure_draw rfl h⟩)
  exact (pss_cons (ps_asg (pe_op op_add (pe_ix ix_list (pv 0) pe_int (fun _ _ => rfl)) pe_int) (pg_sub (pv 0) pe_int set_list)) (pss_cons (ps_if (pw_and (pt_cmpR op_eq (pe_ix ix_list (pv 0) pe_int (fun _ _ => rfl)) pe_int (nomark _)) (pw_and1 (pt_cmpR op_lt (pe_ix ix_list (pv 0) pe_int (fun _ _ => rfl)) (pe_callB call_len_seq (by rfl) T.b_len (by decide +kernel) (pa_cons (pe_ix ix_list (pv 0) pe_int (fun _ _ => rfl)) pa_nil)) (nomark _)))).pt (pss_cons (ps_set (i := 2) sc_law_draw.nd rfl (by first | exact Or.inl rfl | exact Or.inr rfl) (pe_ix ix_list (pe_ix ix_list (pv 0) pe_int (fun _ _ => rfl)) (pe_ix ix_list (pv 0) pe_int (fun _ _ => rfl)) (fun _ _ => rfl))) (pss_cons (ps_asg (pe_op op_add (pe_ix ix_list (pv 0) pe_int (fun _ _ => rfl)) pe_int) (pg_sub (pv 0) pe_int set_list)) (pss_one (ps_if (pt_cmpR op_ge (pv 2) (pe_op op_pow pe_int pe_int) (nomark _)) (pss_one (ps_asg (pv 2) (pg_sub (pv 0) pe_int set_list))) (pss_one (ps_asg (pe_op op_mod (pe_callTy call_int1 (by rfl) T.b_int (by decide +kernel) (pa_cons (pe_op op_add (pe_op op_add (pe_op op_mul (pe_ix ix_list (pv 0) pe_int (fun _ _ => rfl)) pe_int) (pe_op op_mul (pe_op op_mod (pe_callTy call_int1 (by rfl) T.b_int (by decide +kernel) (pa_cons (pv 2) pa_nil)) pe_int) pe_int)) pe_int) pa_nil)) pe_int) (pg_sub (pv 0) pe_int set_list))))))) pss_nil) (pss_cons (ps_if (pt_cmpR op_gt (pe_ix ix_list (pv 0) pe_int (fun _ _ => rfl)) pe_int (nomark _)) (pss_cons (ps_set (i := 3) sc_law_draw.nd rfl (by first | exact Or.inl rfl | exact Or.inr rfl) (pe_op op_mod (pe_callTy call_int1 (by rfl) T.b_int (by decide +kernel) (pa_cons (pe_ix ix_list (pv 0) pe_int (fun _ _ => rfl)) pa_nil)) (pv 1))) (pss_cons (ps_asg (pe_op op_fdivW (pe_ix ix_list (pv 0) pe_int (fun _ _ => rfl)) (pv 1)) (pg_sub (pv 0) pe_int set_list)) (pss_one (ps_ret (pv 3))))) pss_nil) (pss_cons (ps_set (i := 4) sc_law_draw.nd rfl (by first | exact Or.inl rfl | exact Or.inr rfl) (pe_callTy call_int1 (by rfl) T.b_int (by decide +kernel) (pa_cons (pe_ix ix_list (pv 0) pe_int (fun _ _ => rfl)) pa_nil))) (pss_cons (ps_asg (pe_op op_mod (pe_callTy call_int1 (by rfl) T.b_int (by decide +kernel) (pa_cons (pe_op op_add (pe_op op_add (pe_op op_add (pe_op op_pow (pv 4) pe_int) (pe_op op_mul (pv 4) pe_int)) (pe_op op_mul (pe_ix ix_list (pv 0) pe_int (fun _ _ => rfl)) pe_int)) pe_int) pa_nil)) pe_int) (pg_sub (pv 0) pe_int set_list)) (pss_one (ps_ret (pe_op op_mod (pe_callTy call_int1 (by rfl) T.b_int (by decide +kernel) (pa_cons (pe_op op_add (pe_op op_fdiv (pe_ix ix_list (pv 0) pe_int (fun _ _ => rfl)) pe_int) (pe_op op_mul (pe_op op_mod (pe_callTy call_int1 (by rfl) T.b_int (by decide +kernel) (pa_cons (pe_ix ix_list (pv 0) pe_int (fun _ _ => rfl)) pa_nil)) pe_int) pe_int)) pa_nil)) (pv 1)))))))))
/-! ### _law_of -/
abbrev s_law_of : Stmt := top 25
abbrev N_law_of : List Str := ["_law_bag_here", "_law_some"]
abbrev ps_law_of : List Str := ["_law_bag_here", "_law_some"]
theorem sc_law_of : FnScope N_law_of ps_law_of (defScope s_law_of) := ⟨rfl, rfl, rfl, by decide +kernel, rfl, by decide +kernel, by decide +kernel⟩
section
variable {P : Program} {w : World} {K : PySem.W.Frag} {mg : Str → Option Value} {base : Heap}
theorem ok_law_of {F : FT} {k : Nat} (T : Txt w K mg) {k_law_draw : Nat} (h_law_draw : k_law_draw ≤ k) {F_law_draw : FT} (G_law_draw : FnOk P w K mg base (L2.CX P w) k_law_draw T.f_law_draw T.fd_law_draw ps_law_draw (spP K mg 2 F_law_draw))
    (pure : ∀ (ds : List D) (Pd : D → Prop) (R : DX → Prop), ds.length = 2 → F ds Pd R → w_law_of F_law_draw (startE 2 ds) { nx := fun _ => Pd .non, rt := Pd, ex := fun x _ => R x }) :
    FnOk P w K mg base (L2.CX P w) (k + 1) T.f_law_of T.fd_law_of ps_law_of (spP K mg 2 F) := by
  refine def_ok T.fn_law_of sc_law_of fun cdv A outer s H E hr => ⟨w_law_of F_law_draw, ?_, pure⟩
  have tk := takes_of (X := cxOf (L2.CX P w) P w K mg base N_law_of "_law_of" (defScope s_law_of) T.f_law_of cdv A outer s H E) rfl rfl rfl rfl
  have po := passes_of (X := cxOf (L2.CX P w) P w K mg base N_law_of "_law_of" (defScope s_law_of) T.f_law_of cdv A outer s H E) rfl
  have hc : (cxOf (L2.CX P w) P w K mg base N_law_of "_law_of" (defScope s_law_of) T.f_law_of cdv A outer s H E).calm = true := rfl
  have hu := hr.units
  exact (pb_one (ps_ret' (px_ix (px_var 1 (pv 1)) (px_call' G_law_draw (hr.mono (by omega)) (by rfl) T.g_law_draw T.fn_law_draw.kp T.bd_law_draw tk (pa_cons' (px_var 0 (pv 0)) (pa_cons' (px_callB pc_len (by rfl) T.b_len (by decide +kernel) (pa_cons' (px_var 1 (pv 1)) pa_nil')) pa_nil')) rfl) (fun _ _ => rfl))))
end
/-! ### _law_mixed -/
abbrev s_law_mixed : Stmt := top 26
abbrev N_law_mixed : List Str := ["_law_bag_here", "_law_some", "_law_left", "_law_found", "_law_lap"]
abbrev ps_law_mixed : List Str := ["_law_bag_here", "_law_some"]
theorem sc_law_mixed : FnScope N_law_mixed ps_law_mixed (defScope s_law_mixed) := ⟨rfl, rfl, rfl, by decide +kernel, rfl, by decide +kernel, by decide +kernel⟩
section
variable {P : Program} {w : World} {K : PySem.W.Frag} {mg : Str → Option Value} {base : Heap}
theorem ok_law_mixed {F : FT} {k : Nat} (T : Txt w K mg) {k_law_draw : Nat} (h_law_draw : k_law_draw ≤ k) {F_law_draw : FT} (G_law_draw : FnOk P w K mg base (L2.CX P w) k_law_draw T.f_law_draw T.fd_law_draw ps_law_draw (spP K mg 2 F_law_draw))
    (pure : ∀ (ds : List D) (Pd : D → Prop) (R : DX → Prop), ds.length = 2 → F ds Pd R → w_law_mixed F_law_draw (startE 5 ds) { nx := fun _ => Pd .non, rt := Pd, ex := fun x _ => R x }) :
    FnOk P w K mg base (L2.CX P w) (k + 1) T.f_law_mixed T.fd_law_mixed ps_law_mixed (spP K mg 2 F) := by
  refine def_ok T.fn_law_mixed sc_law_mixed fun cdv A outer s H E hr => ⟨w_law_mixed F_law_draw, ?_, pure⟩
  have tk := takes_of (X := cxOf (L2.CX P w) P w K mg base N_law_mixed "_law_mixed" (defScope s_law_mixed) T.f_law_mixed cdv A outer s H E) rfl rfl rfl rfl
  have po := passes_of (X := cxOf (L2.CX P w) P w K mg base N_law_mixed "_law_mixed" (defScope s_law_mixed) T.f_law_mixed cdv A outer s H E) rfl
  have hc : (cxOf (L2.CX P w) P w K mg base N_law_mixed "_law_mixed" (defScope s_law_mixed) T.f_law_mixed cdv A outer s H E).calm = true := rfl
  have hu := hr.units
  exact (pb_cons (ps_own2 (i := 2) (j := 3) hc sc_law_mixed.nd rfl rfl (by decide) rfl rfl (pn_list hc (by rfl) T.b_list (by decide +kernel) (px_var 1 (pv 1))) (pn_lst pa_nil') (by with_unfolding_all rfl))
    (pb_cons (ps_for' po hc (pi_rng1 (by rfl) T.b_range (px_callB pc_len (by rfl) T.b_len (by decide +kernel) (pa_cons' (px_var 1 (pv 1)) pa_nil'))) (pg_name' (pg_name (i := 4) sc_law_mixed.nd rfl (by first | exact Or.inl rfl | exact Or.inr rfl))) (pb_one (ps_app (i := 3) (pv 3) (px_popV 2 (pv 2) (px_call' G_law_draw (hr.mono (by omega)) (by rfl) T.g_law_draw T.fn_law_draw.kp T.bd_law_draw tk (pa_cons' (px_var 0 (pv 0)) (pa_cons' (px_lenV 2 (by rfl) T.b_len (by decide +kernel) (pv 2)) pa_nil')) rfl)))))
    (pb_one (ps_ret' (px_var 3 (pv 3))))))
end
/-! ### _law_same -/
abbrev s_law_same : Stmt := top 27
abbrev N_law_same : List Str := ["_law_found", "_law_due", "_law_one", "_law_two"]
abbrev ps_law_same : List Str := ["_law_found", "_law_due"]
theorem sc_law_same : FnScope N_law_same ps_law_same (defScope s_law_same) := ⟨rfl, rfl, rfl, by decide +kernel, rfl, by decide +kernel, by decide +kernel⟩
section
variable {P : Program} {w : World} {K : PySem.W.Frag} {mg : Str → Option Value} {base : Heap}
theorem ok_law_same {F : FT} {k : Nat} (T : Txt w K mg) {k_law_same : Nat} (h_law_same : k_law_same ≤ k) {F_law_same : FT} (G_law_same : FnOk P w K mg base (L2.CX P w) k_law_same T.f_law_same T.fd_law_same ps_law_same (spP K mg 2 F_law_same))
    (pure : ∀ (ds : List D) (Pd : D → Prop) (R : DX → Prop), ds.length = 2 → F ds Pd R → w_law_same F_law_same (startE 4 ds) { nx := fun _ => Pd .non, rt := Pd, ex := fun x _ => R x }) :
    FnOk P w K mg base (L2.CX P w) (k + 1) T.f_law_same T.fd_law_same ps_law_same (spP K mg 2 F) := by
  refine def_ok T.fn_law_same sc_law_same fun cdv A outer s H E hr => ⟨w_law_same F_law_same, ?_, pure⟩
  have tk := takes_of (X := cxOf (L2.CX P w) P w K mg base N_law_same "_law_same" (defScope s_law_same) T.f_law_same cdv A outer s H E) rfl rfl rfl rfl
  have po := passes_of (X := cxOf (L2.CX P w) P w K mg base N_law_same "_law_same" (defScope s_law_same) T.f_law_same cdv A outer s H E) rfl
  have hc : (cxOf (L2.CX P w) P w K mg base N_law_same "_law_same" (defScope s_law_same) T.f_law_same cdv A outer s H E).calm = true := rfl
  have hu := hr.units
  exact (pb_cons (ps_if' (pw_pt (pw_or' (pt_cmp' pr_is (px_var 1 (pv 1)) px_non) (pw_or1' (pt_cmp' pr_is (px_var 0 (pv 0)) px_non)))) (pb_one (ps_ret' (px_and (px_cmp pr_is (px_var 1 (pv 1)) px_non) (px_one (px_cmp pr_is (px_var 0 (pv 0)) px_non))))) pb_nil)
    (pb_cons (ps_if' (pt_bool (px_isi2 .list .tuple (by rfl) T.b_isinstance (by rfl) T.b_list (by decide +kernel) (by rfl) T.b_tuple (by decide +kernel) (px_var 1 (pv 1)))) (pb_cons (ps_if' (pw_pt (pw_or' (pt_cmp' (pr_ne hu) (px_isi .list (by rfl) T.b_isinstance (by rfl) T.b_list (by decide +kernel) (px_var 0 (pv 0))) (px_isi .list (by rfl) T.b_isinstance (by rfl) T.b_list (by decide +kernel) (px_var 1 (pv 1)))) (pw_or1' (pt_cmp' (pr_ne hu) (px_isi .tuple (by rfl) T.b_isinstance (by rfl) T.b_tuple (by decide +kernel) (px_var 0 (pv 0))) (px_isi .tuple (by rfl) T.b_isinstance (by rfl) T.b_tuple (by decide +kernel) (px_var 1 (pv 1))))))) (pb_one (ps_ret' px_bl)) pb_nil)
    (pb_one (ps_ret' (px_and (px_cmp (pr_eq hu) (px_callB pc_len (by rfl) T.b_len (by decide +kernel) (pa_cons' (px_var 0 (pv 0)) pa_nil')) (px_callB pc_len (by rfl) T.b_len (by decide +kernel) (pa_cons' (px_var 1 (pv 1)) pa_nil'))) (px_one (px_callB (pc_all hc) (by rfl) T.b_all (by decide +kernel) (pa_cons' (px_lc (own := [("_law_one", 2), ("_law_two", 3)]) ([2] ++ [3]) hc sc_law_same.nd (pi_zip2 (by rfl) T.b_zip hc (px_var 0 (pv 0)) (px_var 1 (pv 1))) (blkOk_by (own := [("_law_one", 2), ("_law_two", 3)]) (N := N_law_same) (sc := defScope s_law_same) (by decide +kernel)) (fun _ _ _ _ _ => (pg_tup2 hc (pg_name' (pg_name (i := 2) sc_law_same.nd rfl (by first | exact Or.inl rfl | exact Or.inr rfl))) (pg_name' (pg_name (i := 3) sc_law_same.nd rfl (by first | exact Or.inl rfl | exact Or.inr rfl))))) (fun _ _ _ _ _ => pts_nil') (fun _ _ _ _ _ => (px_call' G_law_same (hr.mono (by omega)) (by rfl) T.g_law_same T.fn_law_same.kp T.bd_law_same takes0 (pa_cons' (px_var 2 (pv 2)) (pa_cons' (px_var 3 (pv 3)) pa_nil')) rfl))) pa_nil'))))))) pb_nil)
    (pb_cons (ps_if' (pw_pt (pw_or' (pt_cmp' (pr_ne hu) (px_isi .bool (by rfl) T.b_isinstance (by rfl) T.b_bool (by decide +kernel) (px_var 0 (pv 0))) (px_isi .bool (by rfl) T.b_isinstance (by rfl) T.b_bool (by decide +kernel) (px_var 1 (pv 1)))) (pw_or1' (pt_cmp' (pr_ne hu) (px_isi .int (by rfl) T.b_isinstance (by rfl) T.b_int (by decide +kernel) (px_var 0 (pv 0))) (px_isi .int (by rfl) T.b_isinstance (by rfl) T.b_int (by decide +kernel) (px_var 1 (pv 1))))))) (pb_one (ps_ret' px_bl)) pb_nil)
    (pb_one (ps_ret' (px_and (px_cmp (pr_eq hu) (px_isi .str (by rfl) T.b_isinstance (by rfl) T.b_str (by decide +kernel) (px_var 0 (pv 0))) (px_isi .str (by rfl) T.b_isinstance (by rfl) T.b_str (by decide +kernel) (px_var 1 (pv 1)))) (px_one (px_cmp (pr_eq hu) (px_var 0 (pv 0)) (px_var 1 (pv 1))))))))))
end
/-! ### is_name -/
abbrev s_is_name : Stmt := top 8
abbrev N_is_name : List Str := ["value", "sign"]
abbrev ps_is_name : List Str := ["value"]
theorem sc_is_name : FnScope N_is_name ps_is_name (defScope s_is_name) := ⟨rfl, rfl, rfl, by decide +kernel, rfl, by decide +kernel, by decide +kernel⟩
section
variable {P : Program} {w : World} {K : PySem.W.Frag} {mg : Str → Option Value} {base : Heap}
theorem ok_is_name {F : FT} {k : Nat} (T : Txt w K mg)  
    (pure : ∀ (ds : List D) (Pd : D → Prop) (R : DX → Prop), ds.length = 1 → F ds Pd R → w_is_name  (startE 2 ds) { nx := fun _ => Pd .non, rt := Pd, ex := fun x _ => R x }) :
    FnOk P w K mg base (L2.CX P w) (k + 1) T.f_is_name T.fd_is_name ps_is_name (spP K mg 1 F) := by
  refine def_ok T.fn_is_name sc_is_name fun cdv A outer s H E hr => ⟨w_is_name , ?_, pure⟩
  have tk := takes_of (X := cxOf (L2.CX P w) P w K mg base N_is_name "is_name" (defScope s_is_name) T.f_is_name cdv A outer s H E) rfl rfl rfl rfl
  have po := passes_of (X := cxOf (L2.CX P w) P w K mg base N_is_name "is_name" (defScope s_is_name) T.f_is_name cdv A outer s H E) rfl
  have hc : (cxOf (L2.CX P w) P w K mg base N_is_name "is_name" (defScope s_is_name) T.f_is_name cdv A outer s H E).calm = true := rfl
  have hu := hr.units
  exact (pb_cons (ps_if' (pw_pt (pw_or' (pt_not' (pt_bool (px_isi .str (by rfl) T.b_isinstance (by rfl) T.b_str (by decide +kernel) (px_var 0 (pv 0))))) (pw_or' (pt_not' (pt_chain' pr_le pr_le px_int (px_callB pc_len (by rfl) T.b_len (by decide +kernel) (pa_cons' (px_var 0 (pv 0)) pa_nil')) px_int)) (pw_or1' (pt_cmp' (pr_eq hu) (px_var 0 (pv 0)) px_str))))) (pb_one (ps_ret' px_bl)) pb_nil)
    (pb_one (ps_ret' (px_callB (pc_all hc) (by rfl) T.b_all (by decide +kernel) (pa_cons' (px_lc (own := [("sign", 1)]) [1] hc sc_is_name.nd (pi_it (px_var 0 (pv 0))) (blkOk_by (own := [("sign", 1)]) (N := N_is_name) (sc := defScope s_is_name) (by decide +kernel)) (fun _ _ _ _ _ => (pg_name' (pg_name (i := 1) sc_is_name.nd rfl (by first | exact Or.inl rfl | exact Or.inr rfl)))) (fun _ _ _ _ _ => pts_nil') (fun _ _ _ _ _ => (px_cmp pr_in (px_var 1 (pv 1)) (px_globE (by rfl) T.c_SMALL (fun _ _ => .str))))) pa_nil')))))
end
/-! ### is_plain -/
abbrev s_is_plain : Stmt := top 5
abbrev N_is_plain : List Str := ["text", "digits", "sign"]
abbrev ps_is_plain : List Str := ["text"]
theorem sc_is_plain : FnScope N_is_plain ps_is_plain (defScope s_is_plain) := ⟨rfl, rfl, rfl, by decide +kernel, rfl, by decide +kernel, by decide +kernel⟩
section
variable {P : Program} {w : World} {K : PySem.W.Frag} {mg : Str → Option Value} {base : Heap}
theorem ok_is_plain {F : FT} {k : Nat} (T : Txt w K mg)  
    (pure : ∀ (ds : List D) (Pd : D → Prop) (R : DX → Prop), ds.length = 1 → F ds Pd R → w_is_plain  (startE 3 ds) { nx := fun _ => Pd .non, rt := Pd, ex := fun x _ => R x }) :
    FnOk P w K mg base (L2.CX P w) (k + 1) T.f_is_plain T.fd_is_plain ps_is_plain (spP K mg 1 F) := by
  refine def_ok T.fn_is_plain sc_is_plain fun cdv A outer s H E hr => ⟨w_is_plain , ?_, pure⟩
  have tk := takes_of (X := cxOf (L2.CX P w) P w K mg base N_is_plain "is_plain" (defScope s_is_plain) T.f_is_plain cdv A outer s H E) rfl rfl rfl rfl
  have po := passes_of (X := cxOf (L2.CX P w) P w K mg base N_is_plain "is_plain" (defScope s_is_plain) T.f_is_plain cdv A outer s H E) rfl
  have hc : (cxOf (L2.CX P w) P w K mg base N_is_plain "is_plain" (defScope s_is_plain) T.f_is_plain cdv A outer s H E).calm = true := rfl
  have hu := hr.units
  exact (pb_cons (ps_set' (i := 1) sc_is_plain.nd rfl (by first | exact Or.inl rfl | exact Or.inr rfl) (px_if (pt_bool (px_starts (px_var 0 (pv 0)) px_str)) (px_slice (px_var 0 (pv 0)) (po_some' px_int) po_none') (px_var 0 (pv 0))))
    (pb_cons (ps_if' (pw_pt (pw_or' (pt_not' (pt_chain' pr_le pr_le px_int (px_callB pc_len (by rfl) T.b_len (by decide +kernel) (pa_cons' (px_var 1 (pv 1)) pa_nil')) px_int)) (pw_or1' (pt_not' (pt_bool (px_callB (pc_all hc) (by rfl) T.b_all (by decide +kernel) (pa_cons' (px_lc (own := [("sign", 2)]) [2] hc sc_is_plain.nd (pi_it (px_var 1 (pv 1))) (blkOk_by (own := [("sign", 2)]) (N := N_is_plain) (sc := defScope s_is_plain) (by decide +kernel)) (fun _ _ _ _ _ => (pg_name' (pg_name (i := 2) sc_is_plain.nd rfl (by first | exact Or.inl rfl | exact Or.inr rfl)))) (fun _ _ _ _ _ => pts_nil') (fun _ _ _ _ _ => (px_cmp pr_in (px_var 2 (pv 2)) px_str))) pa_nil'))))))) (pb_one (ps_ret' px_bl)) pb_nil)
    (pb_one (ps_ret' (px_or (px_cmp (pr_eq hu) (px_var 0 (pv 0)) px_str) (px_one (px_not (px_starts (px_var 1 (pv 1)) px_str))))))))
end
/-! ### is_integer_value -/
abbrev s_is_integer_value : Stmt := top 4
abbrev N_is_integer_value : List Str := ["value"]
abbrev ps_is_integer_value : List Str := ["value"]
theorem sc_is_integer_value : FnScope N_is_integer_value ps_is_integer_value (defScope s_is_integer_value) := ⟨rfl, rfl, rfl, by decide +kernel, rfl, by decide +kernel, by decide +kernel⟩
section
variable {P : Program} {w : World} {K : PySem.W.Frag} {mg : Str → Option Value} {base : Heap}
theorem ok_is_integer_value {F : FT} {k : Nat} (T : Txt w K mg)  
    (pure : ∀ (ds : List D) (Pd : D → Prop) (R : DX → Prop), ds.length = 1 → F ds Pd R → w_is_integer_value  (startE 1 ds) { nx := fun _ => Pd .non, rt := Pd, ex := fun x _ => R x }) :
    FnOk P w K mg base (L2.CX P w) (k + 1) T.f_is_integer_value T.fd_is_integer_value ps_is_integer_value (spP K mg 1 F) := by
  refine def_ok T.fn_is_integer_value sc_is_integer_value fun cdv A outer s H E hr => ⟨w_is_integer_value , ?_, pure⟩
  have tk := takes_of (X := cxOf (L2.CX P w) P w K mg base N_is_integer_value "is_integer_value" (defScope s_is_integer_value) T.f_is_integer_value cdv A outer s H E) rfl rfl rfl rfl
  have po := passes_of (X := cxOf (L2.CX P w) P w K mg base N_is_integer_value "is_integer_value" (defScope s_is_integer_value) T.f_is_integer_value cdv A outer s H E) rfl
  have hc : (cxOf (L2.CX P w) P w K mg base N_is_integer_value "is_integer_value" (defScope s_is_integer_value) T.f_is_integer_value cdv A outer s H E).calm = true := rfl
  have hu := hr.units
  exact (pb_one (ps_ret' (px_and (px_isi .int (by rfl) T.b_isinstance (by rfl) T.b_int (by decide +kernel) (px_var 0 (pv 0))) (px_one (px_not (px_isi .bool (by rfl) T.b_isinstance (by rfl) T.b_bool (by decide +kernel) (px_var 0 (pv 0))))))))
end
/-! ### is_end -/
abbrev s_is_end : Stmt := top 14
abbrev N_is_end : List Str := ["value"]
abbrev ps_is_end : List Str := ["value"]
theorem sc_is_end : FnScope N_is_end ps_is_end (defScope s_is_end) := ⟨rfl, rfl, rfl, by decide +kernel, rfl, by decide +kernel, by decide +kernel⟩
section
variable {P : Program} {w : World} {K : PySem.W.Frag} {mg : Str → Option Value} {base : Heap}
theorem ok_is_end {F : FT} {k : Nat} (T : Txt w K mg) {k_is_name : Nat} (h_is_name : k_is_name ≤ k) {F_is_name : FT} (G_is_name : FnOk P w K mg base (L2.CX P w) k_is_name T.f_is_name T.fd_is_name ps_is_name (spP K mg 1 F_is_name))
    (pure : ∀ (ds : List D) (Pd : D → Prop) (R : DX → Prop), ds.length = 1 → F ds Pd R → w_is_end F_is_name (startE 1 ds) { nx := fun _ => Pd .non, rt := Pd, ex := fun x _ => R x }) :
    FnOk P w K mg base (L2.CX P w) (k + 1) T.f_is_end T.fd_is_end ps_is_end (spP K mg 1 F) := by
  refine def_ok T.fn_is_end sc_is_end fun cdv A outer s H E hr => ⟨w_is_end F_is_name, ?_, pure⟩
  have tk := takes_of (X := cxOf (L2.CX P w) P w K mg base N_is_end "is_end" (defScope s_is_end) T.f_is_end cdv A outer s H E) rfl rfl rfl rfl
  have po := passes_of (X := cxOf (L2.CX P w) P w K mg base N_is_end "is_end" (defScope s_is_end) T.f_is_end cdv A outer s H E) rfl
  have hc : (cxOf (L2.CX P w) P w K mg base N_is_end "is_end" (defScope s_is_end) T.f_is_end cdv A outer s H E).calm = true := rfl
  have hu := hr.units
  exact (pb_one (ps_ret' (px_or (px_call' G_is_name (hr.mono (by omega)) (by rfl) T.g_is_name T.fn_is_name.kp T.bd_is_name tk (pa_cons' (px_var 0 (pv 0)) pa_nil') rfl) (px_one (px_and (px_isi .str (by rfl) T.b_isinstance (by rfl) T.b_str (by decide +kernel) (px_var 0 (pv 0))) (px_one (px_cmp (pr_eq hu) (px_var 0 (pv 0)) (px_globE (by rfl) T.c_GROUND (fun _ _ => .str)))))))))
end
/-! ### are_places -/
abbrev s_are_places : Stmt := top 15
abbrev N_are_places : List Str := ["kind", "places", "place"]
abbrev ps_are_places : List Str := ["kind", "places"]
theorem sc_are_places : FnScope N_are_places ps_are_places (defScope s_are_places) := ⟨rfl, rfl, rfl, by decide +kernel, rfl, by decide +kernel, by decide +kernel⟩
section
variable {P : Program} {w : World} {K : PySem.W.Frag} {mg : Str → Option Value} {base : Heap}
theorem ok_are_places {F : FT} {k : Nat} (T : Txt w K mg) {k_is_end : Nat} (h_is_end : k_is_end ≤ k) {F_is_end : FT} (G_is_end : FnOk P w K mg base (L2.CX P w) k_is_end T.f_is_end T.fd_is_end ps_is_end (spP K mg 1 F_is_end))
    (pure : ∀ (ds : List D) (Pd : D → Prop) (R : DX → Prop), ds.length = 2 → F ds Pd R → w_are_places F_is_end (startE 3 ds) { nx := fun _ => Pd .non, rt := Pd, ex := fun x _ => R x }) :
    FnOk P w K mg base (L2.CX P w) (k + 1) T.f_are_places T.fd_are_places ps_are_places (spP K mg 2 F) := by
  refine def_ok T.fn_are_places sc_are_places fun cdv A outer s H E hr => ⟨w_are_places F_is_end, ?_, pure⟩
  have tk := takes_of (X := cxOf (L2.CX P w) P w K mg base N_are_places "are_places" (defScope s_are_places) T.f_are_places cdv A outer s H E) rfl rfl rfl rfl
  have po := passes_of (X := cxOf (L2.CX P w) P w K mg base N_are_places "are_places" (defScope s_are_places) T.f_are_places cdv A outer s H E) rfl
  have hc : (cxOf (L2.CX P w) P w K mg base N_are_places "are_places" (defScope s_are_places) T.f_are_places cdv A outer s H E).calm = true := rfl
  have hu := hr.units
  exact (pb_cons (ps_if' (pw_pt (pw_or' (pt_not' (pt_bool (px_isi .tuple (by rfl) T.b_isinstance (by rfl) T.b_tuple (by decide +kernel) (px_var 1 (pv 1))))) (pw_or1' (pt_cmp' (pr_ne hu) (px_callB pc_len (by rfl) T.b_len (by decide +kernel) (pa_cons' (px_var 1 (pv 1)) pa_nil')) (px_kd (by rfl) T.c_SIZES (px_var 0 (pv 0)) (fun _ _ => rfl)))))) (pb_one (ps_ret' px_bl)) pb_nil)
    (pb_cons (ps_if' (pt_not' (pt_bool (px_callB (pc_all hc) (by rfl) T.b_all (by decide +kernel) (pa_cons' (px_lc (own := [("place", 2)]) [2] hc sc_are_places.nd (pi_it (px_var 1 (pv 1))) (blkOk_by (own := [("place", 2)]) (N := N_are_places) (sc := defScope s_are_places) (by decide +kernel)) (fun _ _ _ _ _ => (pg_name' (pg_name (i := 2) sc_are_places.nd rfl (by first | exact Or.inl rfl | exact Or.inr rfl)))) (fun _ _ _ _ _ => pts_nil') (fun _ _ _ _ _ => (px_call' G_is_end (hr.mono (by omega)) (by rfl) T.g_is_end T.fn_is_end.kp T.bd_is_end takes0 (pa_cons' (px_var 2 (pv 2)) pa_nil') rfl))) pa_nil')))) (pb_one (ps_ret' px_bl)) pb_nil)
    (pb_cons (ps_if' (pt_cmp' pr_in (px_var 0 (pv 0)) (px_lst (pa_cons' px_str (pa_cons' px_str pa_nil')))) (pb_one (ps_ret' (px_cmp (pr_ne hu) (px_ix (px_var 1 (pv 1)) px_int (fun _ _ => rfl)) (px_globE (by rfl) T.c_GROUND (fun _ _ => .str))))) pb_nil)
    (pb_cons (ps_if' (pw_pt (pw_or' (pt_cmp' (pr_eq hu) (px_ix (px_var 1 (pv 1)) px_int (fun _ _ => rfl)) (px_ix (px_var 1 (pv 1)) px_int (fun _ _ => rfl))) (pw_or1' (pw_pt (pw_and' (pt_cmp' (pr_eq hu) (px_var 0 (pv 0)) px_str) (pw_and1' (pt_cmp' (pr_eq hu) (px_ix (px_var 1 (pv 1)) px_int (fun _ _ => rfl)) (px_globE (by rfl) T.c_GROUND (fun _ _ => .str))))))))) (pb_one (ps_ret' px_bl)) pb_nil)
    (pb_one (ps_ret' (px_or (px_cmp (pr_ne hu) (px_var 0 (pv 0)) px_str) (px_one (px_cmp (pr_ne hu) (px_ix (px_var 1 (pv 1)) px_int (fun _ _ => rfl)) (px_ix (px_var 1 (pv 1)) px_int (fun _ _ => rfl)))))))))))
end
/-! ### is_pair -/
abbrev s_is_pair : Stmt := top 16
abbrev N_is_pair : List Str := ["value", "bound"]
abbrev ps_is_pair : List Str := ["value"]
theorem sc_is_pair : FnScope N_is_pair ps_is_pair (defScope s_is_pair) := ⟨rfl, rfl, rfl, by decide +kernel, rfl, by decide +kernel, by decide +kernel⟩
section
variable {P : Program} {w : World} {K : PySem.W.Frag} {mg : Str → Option Value} {base : Heap}
theorem ok_is_pair {F : FT} {k : Nat} (T : Txt w K mg) {k_is_integer_value : Nat} (h_is_integer_value : k_is_integer_value ≤ k) {F_is_integer_value : FT} (G_is_integer_value : FnOk P w K mg base (L2.CX P w) k_is_integer_value T.f_is_integer_value T.fd_is_integer_value ps_is_integer_value (spP K mg 1 F_is_integer_value))
    (pure : ∀ (ds : List D) (Pd : D → Prop) (R : DX → Prop), ds.length = 1 → F ds Pd R → w_is_pair F_is_integer_value (startE 2 ds) { nx := fun _ => Pd .non, rt := Pd, ex := fun x _ => R x }) :
    FnOk P w K mg base (L2.CX P w) (k + 1) T.f_is_pair T.fd_is_pair ps_is_pair (spP K mg 1 F) := by
  refine def_ok T.fn_is_pair sc_is_pair fun cdv A outer s H E hr => ⟨w_is_pair F_is_integer_value, ?_, pure⟩
  have tk := takes_of (X := cxOf (L2.CX P w) P w K mg base N_is_pair "is_pair" (defScope s_is_pair) T.f_is_pair cdv A outer s H E) rfl rfl rfl rfl
  have po := passes_of (X := cxOf (L2.CX P w) P w K mg base N_is_pair "is_pair" (defScope s_is_pair) T.f_is_pair cdv A outer s H E) rfl
  have hc : (cxOf (L2.CX P w) P w K mg base N_is_pair "is_pair" (defScope s_is_pair) T.f_is_pair cdv A outer s H E).calm = true := rfl
  have hu := hr.units
  exact (pb_cons (ps_if' (pw_pt (pw_or' (pt_not' (pt_bool (px_isi .tuple (by rfl) T.b_isinstance (by rfl) T.b_tuple (by decide +kernel) (px_var 0 (pv 0))))) (pw_or1' (pt_cmp' (pr_ne hu) (px_callB pc_len (by rfl) T.b_len (by decide +kernel) (pa_cons' (px_var 0 (pv 0)) pa_nil')) px_int)))) (pb_one (ps_ret' px_bl)) pb_nil)
    (pb_cons (ps_if' (pt_not' (pt_bool (px_callB (pc_all hc) (by rfl) T.b_all (by decide +kernel) (pa_cons' (px_lc (own := [("bound", 1)]) [1] hc sc_is_pair.nd (pi_it (px_var 0 (pv 0))) (blkOk_by (own := [("bound", 1)]) (N := N_is_pair) (sc := defScope s_is_pair) (by decide +kernel)) (fun _ _ _ _ _ => (pg_name' (pg_name (i := 1) sc_is_pair.nd rfl (by first | exact Or.inl rfl | exact Or.inr rfl)))) (fun _ _ _ _ _ => pts_nil') (fun _ _ _ _ _ => (px_call' G_is_integer_value (hr.mono (by omega)) (by rfl) T.g_is_integer_value T.fn_is_integer_value.kp T.bd_is_integer_value takes0 (pa_cons' (px_var 1 (pv 1)) pa_nil') rfl))) pa_nil')))) (pb_one (ps_ret' px_bl)) pb_nil)
    (pb_one (ps_ret' (px_chain3 pr_le pr_lt pr_le px_int (px_ix (px_var 0 (pv 0)) px_int (fun _ _ => rfl)) (px_ix (px_var 0 (pv 0)) px_int (fun _ _ => rfl)) (px_globE (by rfl) T.c_MOST (fun _ _ => .int)))))))
end
/-! ### allows -/
abbrev s_allows : Stmt := top 17
abbrev N_allows : List Str := ["kind", "number", "least"]
abbrev ps_allows : List Str := ["kind", "number"]
theorem sc_allows : FnScope N_allows ps_allows (defScope s_allows) := ⟨rfl, rfl, rfl, by decide +kernel, rfl, by decide +kernel, by decide +kernel⟩
section
variable {P : Program} {w : World} {K : PySem.W.Frag} {mg : Str → Option Value} {base : Heap}
theorem ok_allows {F : FT} {k : Nat} (T : Txt w K mg) {k_is_integer_value : Nat} (h_is_integer_value : k_is_integer_value ≤ k) {F_is_integer_value : FT} (G_is_integer_value : FnOk P w K mg base (L2.CX P w) k_is_integer_value T.f_is_integer_value T.fd_is_integer_value ps_is_integer_value (spP K mg 1 F_is_integer_value))
    (pure : ∀ (ds : List D) (Pd : D → Prop) (R : DX → Prop), ds.length = 2 → F ds Pd R → w_allows F_is_integer_value (startE 3 ds) { nx := fun _ => Pd .non, rt := Pd, ex := fun x _ => R x }) :
    FnOk P w K mg base (L2.CX P w) (k + 1) T.f_allows T.fd_allows ps_allows (spP K mg 2 F) := by
  refine def_ok T.fn_allows sc_allows fun cdv A outer s H E hr => ⟨w_allows F_is_integer_value, ?_, pure⟩
  have tk := takes_of (X := cxOf (L2.CX P w) P w K mg base N_allows "allows" (defScope s_allows) T.f_allows cdv A outer s H E) rfl rfl rfl rfl
  have po := passes_of (X := cxOf (L2.CX P w) P w K mg base N_allows "allows" (defScope s_allows) T.f_allows cdv A outer s H E) rfl
  have hc : (cxOf (L2.CX P w) P w K mg base N_allows "allows" (defScope s_allows) T.f_allows cdv A outer s H E).calm = true := rfl
  have hu := hr.units
  exact (pb_cons (ps_set' (i := 2) sc_allows.nd rfl (by first | exact Or.inl rfl | exact Or.inr rfl) (px_if (pt_cmp' pr_in (px_var 0 (pv 0)) (px_lst (pa_cons' px_str (pa_cons' px_str pa_nil')))) (px_neg (px_globE (by rfl) T.c_MOST (fun _ _ => .int))) px_int))
    (pb_one (ps_ret' (px_and (px_call' G_is_integer_value (hr.mono (by omega)) (by rfl) T.g_is_integer_value T.fn_is_integer_value.kp T.bd_is_integer_value tk (pa_cons' (px_var 1 (pv 1)) pa_nil') rfl) (px_one (px_chain pr_le pr_le (px_var 2 (pv 2)) (px_var 1 (pv 1)) (px_globE (by rfl) T.c_MOST (fun _ _ => .int))))))))
end
/-! ### is_part -/
abbrev s_is_part : Stmt := top 18
abbrev N_is_part : List Str := ["value", "name", "kind", "places", "strength"]
abbrev ps_is_part : List Str := ["value"]
theorem sc_is_part : FnScope N_is_part ps_is_part (defScope s_is_part) := ⟨rfl, rfl, rfl, by decide +kernel, rfl, by decide +kernel, by decide +kernel⟩
section
variable {P : Program} {w : World} {K : PySem.W.Frag} {mg : Str → Option Value} {base : Heap}
theorem ok_is_part {F : FT} {k : Nat} (T : Txt w K mg) {k_allows : Nat} (h_allows : k_allows ≤ k) {k_are_places : Nat} (h_are_places : k_are_places ≤ k) {k_is_name : Nat} (h_is_name : k_is_name ≤ k) {k_is_pair : Nat} (h_is_pair : k_is_pair ≤ k) {F_allows : FT} (G_allows : FnOk P w K mg base (L2.CX P w) k_allows T.f_allows T.fd_allows ps_allows (spP K mg 2 F_allows)) {F_are_places : FT} (G_are_places : FnOk P w K mg base (L2.CX P w) k_are_places T.f_are_places T.fd_are_places ps_are_places (spP K mg 2 F_are_places)) {F_is_name : FT} (G_is_name : FnOk P w K mg base (L2.CX P w) k_is_name T.f_is_name T.fd_is_name ps_is_name (spP K mg 1 F_is_name)) {F_is_pair : FT} (G_is_pair : FnOk P w K mg base (L2.CX P w) k_is_pair T.f_is_pair T.fd_is_pair ps_is_pair (spP K mg 1 F_is_pair))
    (pure : ∀ (ds : List D) (Pd : D → Prop) (R : DX → Prop), ds.length = 1 → F ds Pd R → w_is_part F_allows F_are_places F_is_name F_is_pair (startE 5 ds) { nx := fun _ => Pd .non, rt := Pd, ex := fun x _ => R x }) :
    FnOk P w K mg base (L2.CX P w) (k + 1) T.f_is_part T.fd_is_part ps_is_part (spP K mg 1 F) := by
  refine def_ok T.fn_is_part sc_is_part fun cdv A outer s H E hr => ⟨w_is_part F_allows F_are_places F_is_name F_is_pair, ?_, pure⟩
  have tk := takes_of (X := cxOf (L2.CX P w) P w K mg base N_is_part "is_part" (defScope s_is_part) T.f_is_part cdv A outer s H E) rfl rfl rfl rfl
  have po := passes_of (X := cxOf (L2.CX P w) P w K mg base N_is_part "is_part" (defScope s_is_part) T.f_is_part cdv A outer s H E) rfl
  have hc : (cxOf (L2.CX P w) P w K mg base N_is_part "is_part" (defScope s_is_part) T.f_is_part cdv A outer s H E).calm = true := rfl
  have hu := hr.units
  exact (pb_cons (ps_if' (pw_pt (pw_or' (pt_not' (pt_bool (px_isi .tuple (by rfl) T.b_isinstance (by rfl) T.b_tuple (by decide +kernel) (px_var 0 (pv 0))))) (pw_or1' (pt_cmp' (pr_ne hu) (px_callB pc_len (by rfl) T.b_len (by decide +kernel) (pa_cons' (px_var 0 (pv 0)) pa_nil')) px_int)))) (pb_one (ps_ret' px_bl)) pb_nil)
    (pb_cons (ps_asg' (px_var 0 (pv 0)) (pg_tupN hc (pgs_cons' (pg_name' (pg_name (i := 1) sc_is_part.nd rfl (by first | exact Or.inl rfl | exact Or.inr rfl))) (pgs_cons' (pg_name' (pg_name (i := 2) sc_is_part.nd rfl (by first | exact Or.inl rfl | exact Or.inr rfl))) (pgs_cons' (pg_name' (pg_name (i := 3) sc_is_part.nd rfl (by first | exact Or.inl rfl | exact Or.inr rfl))) (pgs_cons' (pg_name' (pg_name (i := 4) sc_is_part.nd rfl (by first | exact Or.inl rfl | exact Or.inr rfl))) pgs_nil'))))))
    (pb_cons (ps_if' (pw_pt (pw_or' (pt_not' (pt_bool (px_call' G_is_name (hr.mono (by omega)) (by rfl) T.g_is_name T.fn_is_name.kp T.bd_is_name tk (pa_cons' (px_var 1 (pv 1)) pa_nil') rfl))) (pw_or' (pt_not' (pt_bool (px_isi .str (by rfl) T.b_isinstance (by rfl) T.b_str (by decide +kernel) (px_var 2 (pv 2))))) (pw_or1' (pt_cmp' pr_notIn (px_var 2 (pv 2)) (px_globT (by rfl) T.c_KINDS (by intro _ _; repeat (first | exact .nil | refine .cons .str ?_)))))))) (pb_one (ps_ret' px_bl)) pb_nil)
    (pb_cons (ps_if' (pt_not' (pt_bool (px_call' G_are_places (hr.mono (by omega)) (by rfl) T.g_are_places T.fn_are_places.kp T.bd_are_places tk (pa_cons' (px_var 2 (pv 2)) (pa_cons' (px_var 3 (pv 3)) pa_nil')) rfl))) (pb_one (ps_ret' px_bl)) pb_nil)
    (pb_cons (ps_if' (pw_pt (pw_and' (pt_cmp' (pr_ne hu) (px_var 2 (pv 2)) px_str) (pw_and1' (pw_pt (pw_or' (pt_cmp' pr_is (px_var 4 (pv 4)) px_non) (pw_or1' (pt_bool (px_call' G_is_pair (hr.mono (by omega)) (by rfl) T.g_is_pair T.fn_is_pair.kp T.bd_is_pair tk (pa_cons' (px_var 4 (pv 4)) pa_nil') rfl)))))))) (pb_one (ps_ret' px_bl)) pb_nil)
    (pb_one (ps_ret' (px_call' G_allows (hr.mono (by omega)) (by rfl) T.g_allows T.fn_allows.kp T.bd_allows tk (pa_cons' (px_var 2 (pv 2)) (pa_cons' (px_var 4 (pv 4)) pa_nil')) rfl))))))))
end
/-! ### part_text -/
abbrev s_part_text : Stmt := top 19
abbrev N_part_text : List Str := ["part", "name", "kind", "places", "strength", "ends", "words"]
abbrev ps_part_text : List Str := ["part"]
theorem sc_part_text : FnScope N_part_text ps_part_text (defScope s_part_text) := ⟨rfl, rfl, rfl, by decide +kernel, rfl, by decide +kernel, by decide +kernel⟩
section
variable {P : Program} {w : World} {K : PySem.W.Frag} {mg : Str → Option Value} {base : Heap}
theorem ok_part_text {F : FT} {k : Nat} (T : Txt w K mg)  
    (pure : ∀ (ds : List D) (Pd : D → Prop) (R : DX → Prop), ds.length = 1 → F ds Pd R → w_part_text  (startE 7 ds) { nx := fun _ => Pd .non, rt := Pd, ex := fun x _ => R x }) :
    FnOk P w K mg base (L2.CX P w) (k + 1) T.f_part_text T.fd_part_text ps_part_text (spP K mg 1 F) := by
  refine def_ok T.fn_part_text sc_part_text fun cdv A outer s H E hr => ⟨w_part_text , ?_, pure⟩
  have tk := takes_of (X := cxOf (L2.CX P w) P w K mg base N_part_text "part_text" (defScope s_part_text) T.f_part_text cdv A outer s H E) rfl rfl rfl rfl
  have po := passes_of (X := cxOf (L2.CX P w) P w K mg base N_part_text "part_text" (defScope s_part_text) T.f_part_text cdv A outer s H E) rfl
  have hc : (cxOf (L2.CX P w) P w K mg base N_part_text "part_text" (defScope s_part_text) T.f_part_text cdv A outer s H E).calm = true := rfl
  have hu := hr.units
  exact (pb_cons (ps_asg' (px_var 0 (pv 0)) (pg_tupN hc (pgs_cons' (pg_name' (pg_name (i := 1) sc_part_text.nd rfl (by first | exact Or.inl rfl | exact Or.inr rfl))) (pgs_cons' (pg_name' (pg_name (i := 2) sc_part_text.nd rfl (by first | exact Or.inl rfl | exact Or.inr rfl))) (pgs_cons' (pg_name' (pg_name (i := 3) sc_part_text.nd rfl (by first | exact Or.inl rfl | exact Or.inr rfl))) (pgs_cons' (pg_name' (pg_name (i := 4) sc_part_text.nd rfl (by first | exact Or.inl rfl | exact Or.inr rfl))) pgs_nil'))))))
    (pb_cons (ps_set' (i := 5) sc_part_text.nd rfl (by first | exact Or.inl rfl | exact Or.inr rfl) (px_if (pt_cmp' (pr_ne hu) (px_var 2 (pv 2)) px_str) (px_callTy (pc_list hc) (by rfl) T.b_list (by decide +kernel) (pa_cons' (px_var 3 (pv 3)) pa_nil')) (px_op pr_add (px_op pr_add (px_callTy (pc_list hc) (by rfl) T.b_list (by decide +kernel) (pa_cons' (px_slice (px_var 3 (pv 3)) po_none' (po_some' px_int)) pa_nil')) (px_lst (pa_cons' px_str pa_nil'))) (px_callTy (pc_list hc) (by rfl) T.b_list (by decide +kernel) (pa_cons' (px_slice (px_var 3 (pv 3)) (po_some' px_int) po_none') pa_nil')))))
    (pb_cons (ps_set' (i := 6) sc_part_text.nd rfl (by first | exact Or.inl rfl | exact Or.inr rfl) (px_op pr_add (px_lst (pa_cons' (px_var 1 (pv 1)) (pa_cons' (px_var 2 (pv 2)) pa_nil'))) (px_var 5 (pv 5))))
    (pb_cons (ps_if' (pt_cmp' pr_is (px_var 4 (pv 4)) px_non) (pb_one (ps_ret' (px_join px_str (px_var 6 (pv 6))))) pb_nil)
    (pb_cons (ps_if' (pt_bool (px_isi .tuple (by rfl) T.b_isinstance (by rfl) T.b_tuple (by decide +kernel) (px_var 4 (pv 4)))) (pb_one (ps_ret' (px_join px_str (px_op pr_add (px_var 6 (pv 6)) (px_lst (pa_cons' px_str (pa_cons' (px_callTy pc_str (by rfl) T.b_str (by decide +kernel) (pa_cons' (px_ix (px_var 4 (pv 4)) px_int (fun _ _ => rfl)) pa_nil')) (pa_cons' (px_callTy pc_str (by rfl) T.b_str (by decide +kernel) (pa_cons' (px_ix (px_var 4 (pv 4)) px_int (fun _ _ => rfl)) pa_nil')) pa_nil')))))))) pb_nil)
    (pb_one (ps_ret' (px_join px_str (px_op pr_add (px_var 6 (pv 6)) (px_lst (pa_cons' px_str (pa_cons' (px_callTy pc_str (by rfl) T.b_str (by decide +kernel) (pa_cons' (px_var 4 (pv 4)) pa_nil')) pa_nil'))))))))))))
end
/-! ### strength_of_words -/
abbrev s_strength_of_words : Stmt := top 20
abbrev N_strength_of_words : List Str := ["words", "numbers", "word"]
abbrev ps_strength_of_words : List Str := ["words"]
theorem sc_strength_of_words : FnScope N_strength_of_words ps_strength_of_words (defScope s_strength_of_words) := ⟨rfl, rfl, rfl, by decide +kernel, rfl, by decide +kernel, by decide +kernel⟩
section
variable {P : Program} {w : World} {K : PySem.W.Frag} {mg : Str → Option Value} {base : Heap}
theorem ok_strength_of_words {F : FT} {k : Nat} (T : Txt w K mg) {k_is_plain : Nat} (h_is_plain : k_is_plain ≤ k) {F_is_plain : FT} (G_is_plain : FnOk P w K mg base (L2.CX P w) k_is_plain T.f_is_plain T.fd_is_plain ps_is_plain (spP K mg 1 F_is_plain))
    (pure : ∀ (ds : List D) (Pd : D → Prop) (R : DX → Prop), ds.length = 1 → F ds Pd R → w_strength_of_words F_is_plain (startE 3 ds) { nx := fun _ => Pd .non, rt := Pd, ex := fun x _ => R x }) :
    FnOk P w K mg base (L2.CX P w) (k + 1) T.f_strength_of_words T.fd_strength_of_words ps_strength_of_words (spP K mg 1 F) := by
  refine def_ok T.fn_strength_of_words sc_strength_of_words fun cdv A outer s H E hr => ⟨w_strength_of_words F_is_plain, ?_, pure⟩
  have tk := takes_of (X := cxOf (L2.CX P w) P w K mg base N_strength_of_words "strength_of_words" (defScope s_strength_of_words) T.f_strength_of_words cdv A outer s H E) rfl rfl rfl rfl
  have po := passes_of (X := cxOf (L2.CX P w) P w K mg base N_strength_of_words "strength_of_words" (defScope s_strength_of_words) T.f_strength_of_words cdv A outer s H E) rfl
  have hc : (cxOf (L2.CX P w) P w K mg base N_strength_of_words "strength_of_words" (defScope s_strength_of_words) T.f_strength_of_words cdv A outer s H E).calm = true := rfl
  have hu := hr.units
  exact (pb_cons (ps_if' (pt_cmp' (pr_eq hu) (px_var 0 (pv 0)) (px_lst pa_nil')) (pb_one (ps_ret' px_non)) pb_nil)
    (pb_cons (ps_set' (i := 1) sc_strength_of_words.nd rfl (by first | exact Or.inl rfl | exact Or.inr rfl) (px_slice (px_var 0 (pv 0)) (po_some' px_int) po_none'))
    (pb_cons (ps_if' (pt_not' (pt_bool (px_callB (pc_all hc) (by rfl) T.b_all (by decide +kernel) (pa_cons' (px_lc (own := [("word", 2)]) [2] hc sc_strength_of_words.nd (pi_it (px_var 1 (pv 1))) (blkOk_by (own := [("word", 2)]) (N := N_strength_of_words) (sc := defScope s_strength_of_words) (by decide +kernel)) (fun _ _ _ _ _ => (pg_name' (pg_name (i := 2) sc_strength_of_words.nd rfl (by first | exact Or.inl rfl | exact Or.inr rfl)))) (fun _ _ _ _ _ => pts_nil') (fun _ _ _ _ _ => (px_call' G_is_plain (hr.mono (by omega)) (by rfl) T.g_is_plain T.fn_is_plain.kp T.bd_is_plain takes0 (pa_cons' (px_var 2 (pv 2)) pa_nil') rfl))) pa_nil')))) (pb_one (ps_ret' px_str)) pb_nil)
    (pb_cons (ps_if' (pw_pt (pw_and' (pt_cmp' (pr_eq hu) (px_ix (px_var 0 (pv 0)) px_int (fun _ _ => rfl)) px_str) (pw_and1' (pt_cmp' (pr_eq hu) (px_callB pc_len (by rfl) T.b_len (by decide +kernel) (pa_cons' (px_var 1 (pv 1)) pa_nil')) px_int)))) (pb_one (ps_ret' (px_callTy pc_int' (by rfl) T.b_int (by decide +kernel) (pa_cons' (px_ix (px_var 1 (pv 1)) px_int (fun _ _ => rfl)) pa_nil')))) pb_nil)
    (pb_cons (ps_if' (pw_pt (pw_and' (pt_cmp' (pr_eq hu) (px_ix (px_var 0 (pv 0)) px_int (fun _ _ => rfl)) px_str) (pw_and1' (pt_cmp' (pr_eq hu) (px_callB pc_len (by rfl) T.b_len (by decide +kernel) (pa_cons' (px_var 1 (pv 1)) pa_nil')) px_int)))) (pb_one (ps_ret' (px_tup (pa_cons' (px_callTy pc_int' (by rfl) T.b_int (by decide +kernel) (pa_cons' (px_ix (px_var 1 (pv 1)) px_int (fun _ _ => rfl)) pa_nil')) (pa_cons' (px_callTy pc_int' (by rfl) T.b_int (by decide +kernel) (pa_cons' (px_ix (px_var 1 (pv 1)) px_int (fun _ _ => rfl)) pa_nil')) pa_nil'))))) pb_nil)
    (pb_one (ps_ret' px_str)))))))
end
/-! ### read_part -/
abbrev s_read_part : Stmt := top 21
abbrev N_read_part : List Str := ["text", "words", "kind", "last", "part"]
abbrev ps_read_part : List Str := ["text"]
theorem sc_read_part : FnScope N_read_part ps_read_part (defScope s_read_part) := ⟨rfl, rfl, rfl, by decide +kernel, rfl, by decide +kernel, by decide +kernel⟩
section
variable {P : Program} {w : World} {K : PySem.W.Frag} {mg : Str → Option Value} {base : Heap}
theorem ok_read_part {F : FT} {k : Nat} (T : Txt w K mg) {k_is_part : Nat} (h_is_part : k_is_part ≤ k) {k_strength_of_words : Nat} (h_strength_of_words : k_strength_of_words ≤ k) {F_is_part : FT} (G_is_part : FnOk P w K mg base (L2.CX P w) k_is_part T.f_is_part T.fd_is_part ps_is_part (spP K mg 1 F_is_part)) {F_strength_of_words : FT} (G_strength_of_words : FnOk P w K mg base (L2.CX P w) k_strength_of_words T.f_strength_of_words T.fd_strength_of_words ps_strength_of_words (spP K mg 1 F_strength_of_words))
    (pure : ∀ (ds : List D) (Pd : D → Prop) (R : DX → Prop), ds.length = 1 → F ds Pd R → w_read_part F_is_part F_strength_of_words (startE 5 ds) { nx := fun _ => Pd .non, rt := Pd, ex := fun x _ => R x }) :
    FnOk P w K mg base (L2.CX P w) (k + 1) T.f_read_part T.fd_read_part ps_read_part (spP K mg 1 F) := by
  refine def_ok T.fn_read_part sc_read_part fun cdv A outer s H E hr => ⟨w_read_part F_is_part F_strength_of_words, ?_, pure⟩
  have tk := takes_of (X := cxOf (L2.CX P w) P w K mg base N_read_part "read_part" (defScope s_read_part) T.f_read_part cdv A outer s H E) rfl rfl rfl rfl
  have po := passes_of (X := cxOf (L2.CX P w) P w K mg base N_read_part "read_part" (defScope s_read_part) T.f_read_part cdv A outer s H E) rfl
  have hc : (cxOf (L2.CX P w) P w K mg base N_read_part "read_part" (defScope s_read_part) T.f_read_part cdv A outer s H E).calm = true := rfl
  have hu := hr.units
  exact (pb_cons (ps_if' (pt_not' (pt_bool (px_isi .str (by rfl) T.b_isinstance (by rfl) T.b_str (by decide +kernel) (px_var 0 (pv 0))))) (pb_one ps_never') pb_nil)
    (pb_cons (ps_set' (i := 1) sc_read_part.nd rfl (by first | exact Or.inl rfl | exact Or.inr rfl) (px_split (px_var 0 (pv 0)) px_str))
    (pb_cons (ps_if' (pw_pt (pw_or' (pt_cmp' pr_lt (px_callB pc_len (by rfl) T.b_len (by decide +kernel) (pa_cons' (px_var 1 (pv 1)) pa_nil')) px_int) (pw_or1' (pt_cmp' pr_notIn (px_ix (px_var 1 (pv 1)) px_int (fun _ _ => rfl)) (px_globT (by rfl) T.c_KINDS (by intro _ _; repeat (first | exact .nil | refine .cons .str ?_))))))) (pb_one ps_never') pb_nil)
    (pb_cons (ps_set' (i := 2) sc_read_part.nd rfl (by first | exact Or.inl rfl | exact Or.inr rfl) (px_ix (px_var 1 (pv 1)) px_int (fun _ _ => rfl)))
    (pb_cons (ps_if' (pt_cmp' (pr_eq hu) (px_var 2 (pv 2)) px_str) (pb_cons (ps_if' (pw_pt (pw_or' (pt_cmp' pr_lt (px_callB pc_len (by rfl) T.b_len (by decide +kernel) (pa_cons' (px_var 1 (pv 1)) pa_nil')) px_int) (pw_or1' (pt_cmp' (pr_ne hu) (px_ix (px_var 1 (pv 1)) px_int (fun _ _ => rfl)) px_str)))) (pb_one ps_never') pb_nil)
    (pb_one (ps_set' (i := 1) sc_read_part.nd rfl (by first | exact Or.inl rfl | exact Or.inr rfl) (px_op pr_add (px_slice (px_var 1 (pv 1)) po_none' (po_some' px_int)) (px_slice (px_var 1 (pv 1)) (po_some' px_int) po_none'))))) pb_nil)
    (pb_cons (ps_set' (i := 3) sc_read_part.nd rfl (by first | exact Or.inl rfl | exact Or.inr rfl) (px_op pr_add px_int (px_kd (by rfl) T.c_SIZES (px_var 2 (pv 2)) (fun _ _ => rfl))))
    (pb_cons (ps_set' (i := 4) sc_read_part.nd rfl (by first | exact Or.inl rfl | exact Or.inr rfl) (px_tup (pa_cons' (px_ix (px_var 1 (pv 1)) px_int (fun _ _ => rfl)) (pa_cons' (px_var 2 (pv 2)) (pa_cons' (px_callTy pc_tuple (by rfl) T.b_tuple (by decide +kernel) (pa_cons' (px_slice (px_var 1 (pv 1)) (po_some' px_int) (po_some' (px_var 3 (pv 3)))) pa_nil')) (pa_cons' (px_call' G_strength_of_words (hr.mono (by omega)) (by rfl) T.g_strength_of_words T.fn_strength_of_words.kp T.bd_strength_of_words tk (pa_cons' (px_slice (px_var 1 (pv 1)) (po_some' (px_var 3 (pv 3))) po_none') pa_nil') rfl) pa_nil'))))))
    (pb_cons (ps_if' (pt_not' (pt_bool (px_call' G_is_part (hr.mono (by omega)) (by rfl) T.g_is_part T.fn_is_part.kp T.bd_is_part tk (pa_cons' (px_var 4 (pv 4)) pa_nil') rfl))) (pb_one ps_never') pb_nil)
    (pb_one (ps_ret' (px_var 4 (pv 4))))))))))))
end
/-! ### _law_any_strength -/
abbrev s_law_any_strength : Stmt := top 28
abbrev N_law_any_strength : List Str := ["_law_bag_here", "_law_kind", "_law_way", "_law_low", "_law_number"]
abbrev ps_law_any_strength : List Str := ["_law_bag_here", "_law_kind"]
theorem sc_law_any_strength : FnScope N_law_any_strength ps_law_any_strength (defScope s_law_any_strength) := ⟨rfl, rfl, rfl, by decide +kernel, rfl, by decide +kernel, by decide +kernel⟩
section
variable {P : Program} {w : World} {K : PySem.W.Frag} {mg : Str → Option Value} {base : Heap}
theorem ok_law_any_strength {F : FT} {k : Nat} (T : Txt w K mg) {k_law_draw : Nat} (h_law_draw : k_law_draw ≤ k) {k_law_of : Nat} (h_law_of : k_law_of ≤ k) {F_law_draw : FT} (G_law_draw : FnOk P w K mg base (L2.CX P w) k_law_draw T.f_law_draw T.fd_law_draw ps_law_draw (spP K mg 2 F_law_draw)) {F_law_of : FT} (G_law_of : FnOk P w K mg base (L2.CX P w) k_law_of T.f_law_of T.fd_law_of ps_law_of (spP K mg 2 F_law_of))
    (pure : ∀ (ds : List D) (Pd : D → Prop) (R : DX → Prop), ds.length = 2 → F ds Pd R → w_law_any_strength F_law_draw F_law_of (startE 5 ds) { nx := fun _ => Pd .non, rt := Pd, ex := fun x _ => R x }) :
    FnOk P w K mg base (L2.CX P w) (k + 1) T.f_law_any_strength T.fd_law_any_strength ps_law_any_strength (spP K mg 2 F) := by
  refine def_ok T.fn_law_any_strength sc_law_any_strength fun cdv A outer s H E hr => ⟨w_law_any_strength F_law_draw F_law_of, ?_, pure⟩
  have tk := takes_of (X := cxOf (L2.CX P w) P w K mg base N_law_any_strength "_law_any_strength" (defScope s_law_any_strength) T.f_law_any_strength cdv A outer s H E) rfl rfl rfl rfl
  have po := passes_of (X := cxOf (L2.CX P w) P w K mg base N_law_any_strength "_law_any_strength" (defScope s_law_any_strength) T.f_law_any_strength cdv A outer s H E) rfl
  have hc : (cxOf (L2.CX P w) P w K mg base N_law_any_strength "_law_any_strength" (defScope s_law_any_strength) T.f_law_any_strength cdv A outer s H E).calm = true := rfl
  have hu := hr.units
  exact (pb_cons (ps_par' (i := 2) (j := 3) hc sc_law_any_strength.nd rfl rfl (by decide) rfl rfl (pa_cons' (px_call' G_law_draw (hr.mono (by omega)) (by rfl) T.g_law_draw T.fn_law_draw.kp T.bd_law_draw tk (pa_cons' (px_var 0 (pv 0)) (pa_cons' px_int pa_nil')) rfl) (pa_cons' (px_op pr_add px_int (px_call' G_law_draw (hr.mono (by omega)) (by rfl) T.g_law_draw T.fn_law_draw.kp T.bd_law_draw tk (pa_cons' (px_var 0 (pv 0)) (pa_cons' (px_call' G_law_of (hr.mono (by omega)) (by rfl) T.g_law_of T.fn_law_of.kp T.bd_law_of tk (pa_cons' (px_var 0 (pv 0)) (pa_cons' (px_lst (pa_cons' px_int (pa_cons' px_int pa_nil'))) pa_nil')) rfl) pa_nil')) rfl)) pa_nil')) (by with_unfolding_all rfl))
    (pb_cons (ps_if' (pw_pt (pw_and' (pt_cmp' (pr_ne hu) (px_var 1 (pv 1)) px_str) (pw_and1' (pt_cmp' (pr_eq hu) (px_var 2 (pv 2)) px_int)))) (pb_one (ps_ret' px_non)) pb_nil)
    (pb_cons (ps_if' (pw_pt (pw_and' (pt_cmp' (pr_ne hu) (px_var 1 (pv 1)) px_str) (pw_and1' (pt_cmp' (pr_eq hu) (px_var 2 (pv 2)) px_int)))) (pb_one (ps_ret' (px_tup (pa_cons' (px_var 3 (pv 3)) (pa_cons' (px_op pr_add (px_op pr_add (px_var 3 (pv 3)) px_int) (px_call' G_law_draw (hr.mono (by omega)) (by rfl) T.g_law_draw T.fn_law_draw.kp T.bd_law_draw tk (pa_cons' (px_var 0 (pv 0)) (pa_cons' (px_op pr_sub px_int (px_var 3 (pv 3))) pa_nil')) rfl)) pa_nil'))))) pb_nil)
    (pb_cons (ps_set' (i := 4) sc_law_any_strength.nd rfl (by first | exact Or.inl rfl | exact Or.inr rfl) (px_call' G_law_of (hr.mono (by omega)) (by rfl) T.g_law_of T.fn_law_of.kp T.bd_law_of tk (pa_cons' (px_var 0 (pv 0)) (pa_cons' (px_lst (pa_cons' px_int (pa_cons' px_int (pa_cons' px_int (pa_cons' (px_call' G_law_draw (hr.mono (by omega)) (by rfl) T.g_law_draw T.fn_law_draw.kp T.bd_law_draw tk (pa_cons' (px_var 0 (pv 0)) (pa_cons' px_int pa_nil')) rfl) pa_nil'))))) pa_nil')) rfl))
    (pb_one (ps_ret' (px_if (pw_pt (pw_and' (pt_cmp' pr_in (px_var 1 (pv 1)) (px_lst (pa_cons' px_str (pa_cons' px_str pa_nil')))) (pw_and1' (pt_cmp' (pr_eq hu) (px_call' G_law_draw (hr.mono (by omega)) (by rfl) T.g_law_draw T.fn_law_draw.kp T.bd_law_draw tk (pa_cons' (px_var 0 (pv 0)) (pa_cons' px_int pa_nil')) rfl) px_int)))) (px_neg (px_var 4 (pv 4))) (px_var 4 (pv 4)))))))))
end
/-! ### _law_some_part -/
abbrev s_law_some_part : Stmt := top 29
abbrev N_law_some_part : List Str := ["_law_bag_here", "_law_name", "_law_spots", "_law_kind", "_law_ends", "_law_late", "_law_one", "_law_places", "_law_end"]
abbrev ps_law_some_part : List Str := ["_law_bag_here", "_law_name", "_law_spots"]
theorem sc_law_some_part : FnScope N_law_some_part ps_law_some_part (defScope s_law_some_part) := ⟨rfl, rfl, rfl, by decide +kernel, rfl, by decide +kernel, by decide +kernel⟩
section
variable {P : Program} {w : World} {K : PySem.W.Frag} {mg : Str → Option Value} {base : Heap}
theorem ok_law_some_part {F : FT} {k : Nat} (T : Txt w K mg) {k_law_any_strength : Nat} (h_law_any_strength : k_law_any_strength ≤ k) {k_law_mixed : Nat} (h_law_mixed : k_law_mixed ≤ k) {k_law_of : Nat} (h_law_of : k_law_of ≤ k) {F_law_any_strength : FT} (G_law_any_strength : FnOk P w K mg base (L2.CX P w) k_law_any_strength T.f_law_any_strength T.fd_law_any_strength ps_law_any_strength (spP K mg 2 F_law_any_strength)) {F_law_mixed : FT} (G_law_mixed : FnOk P w K mg base (L2.CX P w) k_law_mixed T.f_law_mixed T.fd_law_mixed ps_law_mixed (spP K mg 2 F_law_mixed)) {F_law_of : FT} (G_law_of : FnOk P w K mg base (L2.CX P w) k_law_of T.f_law_of T.fd_law_of ps_law_of (spP K mg 2 F_law_of))
    (pure : ∀ (ds : List D) (Pd : D → Prop) (R : DX → Prop), ds.length = 3 → F ds Pd R → w_law_some_part F_law_any_strength F_law_mixed F_law_of (startE 9 ds) { nx := fun _ => Pd .non, rt := Pd, ex := fun x _ => R x }) :
    FnOk P w K mg base (L2.CX P w) (k + 1) T.f_law_some_part T.fd_law_some_part ps_law_some_part (spP K mg 3 F) := by
  refine def_ok T.fn_law_some_part sc_law_some_part fun cdv A outer s H E hr => ⟨w_law_some_part F_law_any_strength F_law_mixed F_law_of, ?_, pure⟩
  have tk := takes_of (X := cxOf (L2.CX P w) P w K mg base N_law_some_part "_law_some_part" (defScope s_law_some_part) T.f_law_some_part cdv A outer s H E) rfl rfl rfl rfl
  have po := passes_of (X := cxOf (L2.CX P w) P w K mg base N_law_some_part "_law_some_part" (defScope s_law_some_part) T.f_law_some_part cdv A outer s H E) rfl
  have hc : (cxOf (L2.CX P w) P w K mg base N_law_some_part "_law_some_part" (defScope s_law_some_part) T.f_law_some_part cdv A outer s H E).calm = true := rfl
  have hu := hr.units
  exact (pb_cons (ps_set' (i := 3) sc_law_some_part.nd rfl (by first | exact Or.inl rfl | exact Or.inr rfl) (px_call' G_law_of (hr.mono (by omega)) (by rfl) T.g_law_of T.fn_law_of.kp T.bd_law_of tk (pa_cons' (px_var 0 (pv 0)) (pa_cons' (px_lst (pa_cons' px_str (pa_cons' px_str (pa_cons' px_str (pa_cons' px_str (pa_cons' px_str pa_nil')))))) pa_nil')) rfl))
    (pb_cons (ps_par' (i := 4) (j := 5) hc sc_law_some_part.nd rfl rfl (by decide) rfl rfl (pa_cons' (px_call' G_law_mixed (hr.mono (by omega)) (by rfl) T.g_law_mixed T.fn_law_mixed.kp T.bd_law_mixed tk (pa_cons' (px_var 0 (pv 0)) (pa_cons' (px_op pr_add (px_var 2 (pv 2)) (px_lst (pa_cons' px_str pa_nil'))) pa_nil')) rfl) (pa_cons' (px_call' G_law_mixed (hr.mono (by omega)) (by rfl) T.g_law_mixed T.fn_law_mixed.kp T.bd_law_mixed tk (pa_cons' (px_var 0 (pv 0)) (pa_cons' (px_op pr_add (px_var 2 (pv 2)) (px_lst (pa_cons' px_str pa_nil'))) pa_nil')) rfl) pa_nil')) (by with_unfolding_all rfl))
    (pb_cons (ps_set' (i := 6) sc_law_some_part.nd rfl (by first | exact Or.inl rfl | exact Or.inr rfl) (px_call' G_law_of (hr.mono (by omega)) (by rfl) T.g_law_of T.fn_law_of.kp T.bd_law_of tk (pa_cons' (px_var 0 (pv 0)) (pa_cons' (px_var 2 (pv 2)) pa_nil')) rfl))
    (pb_cons (ps_set' (i := 7) sc_law_some_part.nd rfl (by first | exact Or.inl rfl | exact Or.inr rfl) (px_tup (pa_cons' (px_var 6 (pv 6)) pa_nil')))
    (pb_cons (ps_if' (pt_cmp' (pr_eq hu) (px_var 3 (pv 3)) px_str) (pb_one (ps_set' (i := 7) sc_law_some_part.nd rfl (by first | exact Or.inl rfl | exact Or.inr rfl) (px_tup (pa_cons' (px_var 6 (pv 6)) (pa_cons' (px_ix (px_lc (own := [("_law_end", 8)]) [8] hc sc_law_some_part.nd (pi_it (px_var 4 (pv 4))) (blkOk_by (own := [("_law_end", 8)]) (N := N_law_some_part) (sc := defScope s_law_some_part) (by decide +kernel)) (fun _ _ _ _ _ => (pg_name' (pg_name (i := 8) sc_law_some_part.nd rfl (by first | exact Or.inl rfl | exact Or.inr rfl)))) (fun _ _ _ _ _ => (pts_one' (pt_cmp' (pr_ne hu) (px_var 8 (pv 8)) (px_var 6 (pv 6))))) (fun _ _ _ _ _ => (px_var 8 (pv 8)))) px_int (fun _ _ => rfl)) pa_nil'))))) (pb_one (ps_if' (pt_cmp' (pr_eq hu) (px_var 3 (pv 3)) px_str) (pb_one (ps_set' (i := 7) sc_law_some_part.nd rfl (by first | exact Or.inl rfl | exact Or.inr rfl) (px_tup (pa_cons' (px_ix (px_var 4 (pv 4)) px_int (fun _ _ => rfl)) (pa_cons' (px_ix (px_var 4 (pv 4)) px_int (fun _ _ => rfl)) pa_nil'))))) (pb_one (ps_if' (pt_cmp' (pr_eq hu) (px_var 3 (pv 3)) px_str) (pb_one (ps_set' (i := 7) sc_law_some_part.nd rfl (by first | exact Or.inl rfl | exact Or.inr rfl) (px_tup (pa_cons' (px_ix (px_var 4 (pv 4)) px_int (fun _ _ => rfl)) (pa_cons' (px_ix (px_var 4 (pv 4)) px_int (fun _ _ => rfl)) (pa_cons' (px_ix (px_var 5 (pv 5)) px_int (fun _ _ => rfl)) (pa_cons' (px_ix (px_var 5 (pv 5)) px_int (fun _ _ => rfl)) pa_nil'))))))) pb_nil)))))
    (pb_one (ps_ret' (px_tup (pa_cons' (px_var 1 (pv 1)) (pa_cons' (px_var 3 (pv 3)) (pa_cons' (px_var 7 (pv 7)) (pa_cons' (px_call' G_law_any_strength (hr.mono (by omega)) (by rfl) T.g_law_any_strength T.fn_law_any_strength.kp T.bd_law_any_strength tk (pa_cons' (px_var 0 (pv 0)) (pa_cons' (px_var 3 (pv 3)) pa_nil')) rfl) pa_nil'))))))))))))
end
/-! ### _law_part_text -/
abbrev s_law_part_text : Stmt := top 30
abbrev N_law_part_text : List Str := ["_law_part_z", "_law_words"]
abbrev ps_law_part_text : List Str := ["_law_part_z"]
theorem sc_law_part_text : FnScope N_law_part_text ps_law_part_text (defScope s_law_part_text) := ⟨rfl, rfl, rfl, by decide +kernel, rfl, by decide +kernel, by decide +kernel⟩
section
variable {P : Program} {w : World} {K : PySem.W.Frag} {mg : Str → Option Value} {base : Heap}
theorem ok_law_part_text {F : FT} {k : Nat} (T : Txt w K mg)  
    (pure : ∀ (ds : List D) (Pd : D → Prop) (R : DX → Prop), ds.length = 1 → F ds Pd R → w_law_part_text  (startE 2 ds) { nx := fun _ => Pd .non, rt := Pd, ex := fun x _ => R x }) :
    FnOk P w K mg base (L2.CX P w) (k + 1) T.f_law_part_text T.fd_law_part_text ps_law_part_text (spP K mg 1 F) := by
  refine def_ok T.fn_law_part_text sc_law_part_text fun cdv A outer s H E hr => ⟨w_law_part_text , ?_, pure⟩
  have tk := takes_of (X := cxOf (L2.CX P w) P w K mg base N_law_part_text "_law_part_text" (defScope s_law_part_text) T.f_law_part_text cdv A outer s H E) rfl rfl rfl rfl
  have po := passes_of (X := cxOf (L2.CX P w) P w K mg base N_law_part_text "_law_part_text" (defScope s_law_part_text) T.f_law_part_text cdv A outer s H E) rfl
  have hc : (cxOf (L2.CX P w) P w K mg base N_law_part_text "_law_part_text" (defScope s_law_part_text) T.f_law_part_text cdv A outer s H E).calm = true := rfl
  have hu := hr.units
  exact (pb_cons (ps_set' (i := 1) sc_law_part_text.nd rfl (by first | exact Or.inl rfl | exact Or.inr rfl) (px_op pr_add (px_lst (pa_cons' (px_ix (px_var 0 (pv 0)) px_int (fun _ _ => rfl)) (pa_cons' (px_ix (px_var 0 (pv 0)) px_int (fun _ _ => rfl)) (pa_cons' (px_ix (px_ix (px_var 0 (pv 0)) px_int (fun _ _ => rfl)) px_int (fun _ _ => rfl)) pa_nil')))) (px_callTy (pc_list hc) (by rfl) T.b_list (by decide +kernel) (pa_cons' (px_slice (px_ix (px_var 0 (pv 0)) px_int (fun _ _ => rfl)) (po_some' px_int) (po_some' px_int)) pa_nil'))))
    (pb_cons (ps_if' (pt_cmp' (pr_eq hu) (px_ix (px_var 0 (pv 0)) px_int (fun _ _ => rfl)) px_str) (pb_one (ps_set' (i := 1) sc_law_part_text.nd rfl (by first | exact Or.inl rfl | exact Or.inr rfl) (px_op pr_add (px_var 1 (pv 1)) (px_lst (pa_cons' px_str (pa_cons' (px_ix (px_ix (px_var 0 (pv 0)) px_int (fun _ _ => rfl)) px_int (fun _ _ => rfl)) (pa_cons' (px_ix (px_ix (px_var 0 (pv 0)) px_int (fun _ _ => rfl)) px_int (fun _ _ => rfl)) pa_nil'))))))) pb_nil)
    (pb_cons (ps_if' (pt_cmp' pr_is (px_ix (px_var 0 (pv 0)) px_int (fun _ _ => rfl)) px_non) (pb_one (ps_ret' (px_join px_str (px_var 1 (pv 1))))) pb_nil)
    (pb_cons (ps_if' (pt_bool (px_isi .tuple (by rfl) T.b_isinstance (by rfl) T.b_tuple (by decide +kernel) (px_ix (px_var 0 (pv 0)) px_int (fun _ _ => rfl)))) (pb_one (ps_ret' (px_join px_str (px_op pr_add (px_var 1 (pv 1)) (px_lst (pa_cons' px_str (pa_cons' (px_callTy pc_str (by rfl) T.b_str (by decide +kernel) (pa_cons' (px_ix (px_ix (px_var 0 (pv 0)) px_int (fun _ _ => rfl)) px_int (fun _ _ => rfl)) pa_nil')) (pa_cons' (px_callTy pc_str (by rfl) T.b_str (by decide +kernel) (pa_cons' (px_ix (px_ix (px_var 0 (pv 0)) px_int (fun _ _ => rfl)) px_int (fun _ _ => rfl)) pa_nil')) pa_nil')))))))) pb_nil)
    (pb_one (ps_ret' (px_join px_str (px_op pr_add (px_var 1 (pv 1)) (px_lst (pa_cons' px_str (pa_cons' (px_callTy pc_str (by rfl) T.b_str (by decide +kernel) (pa_cons' (px_ix (px_var 0 (pv 0)) px_int (fun _ _ => rfl)) pa_nil')) pa_nil')))))))))))
end
/-! ### _law_part_names -/
abbrev s_law_part_names : Stmt := top 31
abbrev N_law_part_names : List Str := ["_law_bag_here"]
abbrev ps_law_part_names : List Str := ["_law_bag_here"]
theorem sc_law_part_names : FnScope N_law_part_names ps_law_part_names (defScope s_law_part_names) := ⟨rfl, rfl, rfl, by decide +kernel, rfl, by decide +kernel, by decide +kernel⟩
section
variable {P : Program} {w : World} {K : PySem.W.Frag} {mg : Str → Option Value} {base : Heap}
theorem ok_law_part_names {F : FT} {k : Nat} (T : Txt w K mg) {k_law_mixed : Nat} (h_law_mixed : k_law_mixed ≤ k) {F_law_mixed : FT} (G_law_mixed : FnOk P w K mg base (L2.CX P w) k_law_mixed T.f_law_mixed T.fd_law_mixed ps_law_mixed (spP K mg 2 F_law_mixed))
    (pure : ∀ (ds : List D) (Pd : D → Prop) (R : DX → Prop), ds.length = 1 → F ds Pd R → w_law_part_names F_law_mixed (startE 1 ds) { nx := fun _ => Pd .non, rt := Pd, ex := fun x _ => R x }) :
    FnOk P w K mg base (L2.CX P w) (k + 1) T.f_law_part_names T.fd_law_part_names ps_law_part_names (spP K mg 1 F) := by
  refine def_ok T.fn_law_part_names sc_law_part_names fun cdv A outer s H E hr => ⟨w_law_part_names F_law_mixed, ?_, pure⟩
  have tk := takes_of (X := cxOf (L2.CX P w) P w K mg base N_law_part_names "_law_part_names" (defScope s_law_part_names) T.f_law_part_names cdv A outer s H E) rfl rfl rfl rfl
  have po := passes_of (X := cxOf (L2.CX P w) P w K mg base N_law_part_names "_law_part_names" (defScope s_law_part_names) T.f_law_part_names cdv A outer s H E) rfl
  have hc : (cxOf (L2.CX P w) P w K mg base N_law_part_names "_law_part_names" (defScope s_law_part_names) T.f_law_part_names cdv A outer s H E).calm = true := rfl
  have hu := hr.units
  exact (pb_one (ps_ret' (px_call' G_law_mixed (hr.mono (by omega)) (by rfl) T.g_law_mixed T.fn_law_mixed.kp T.bd_law_mixed tk (pa_cons' (px_var 0 (pv 0)) (pa_cons' (px_lst (pa_cons' px_str (pa_cons' px_str (pa_cons' px_str (pa_cons' px_str (pa_cons' px_str (pa_cons' px_str (pa_cons' px_str (pa_cons' px_str (pa_cons' px_str (pa_cons' px_str (pa_cons' px_str (pa_cons' px_str (pa_cons' px_str (pa_cons' px_str (pa_cons' px_str (pa_cons' px_str (pa_cons' px_str (pa_cons' px_str (pa_cons' px_str (pa_cons' px_str (pa_cons' px_str (pa_cons' px_str (pa_cons' px_str (pa_cons' px_str (pa_cons' px_str (pa_cons' px_str pa_nil'))))))))))))))))))))))))))) pa_nil')) rfl)))
end
/-! ### _law_place_names -/
abbrev s_law_place_names : Stmt := top 32
abbrev N_law_place_names : List Str := ["_law_bag_here"]
abbrev ps_law_place_names : List Str := ["_law_bag_here"]
theorem sc_law_place_names : FnScope N_law_place_names ps_law_place_names (defScope s_law_place_names) := ⟨rfl, rfl, rfl, by decide +kernel, rfl, by decide +kernel, by decide +kernel⟩
section
variable {P : Program} {w : World} {K : PySem.W.Frag} {mg : Str → Option Value} {base : Heap}
theorem ok_law_place_names {F : FT} {k : Nat} (T : Txt w K mg) {k_law_mixed : Nat} (h_law_mixed : k_law_mixed ≤ k) {F_law_mixed : FT} (G_law_mixed : FnOk P w K mg base (L2.CX P w) k_law_mixed T.f_law_mixed T.fd_law_mixed ps_law_mixed (spP K mg 2 F_law_mixed))
    (pure : ∀ (ds : List D) (Pd : D → Prop) (R : DX → Prop), ds.length = 1 → F ds Pd R → w_law_place_names F_law_mixed (startE 1 ds) { nx := fun _ => Pd .non, rt := Pd, ex := fun x _ => R x }) :
    FnOk P w K mg base (L2.CX P w) (k + 1) T.f_law_place_names T.fd_law_place_names ps_law_place_names (spP K mg 1 F) := by
  refine def_ok T.fn_law_place_names sc_law_place_names fun cdv A outer s H E hr => ⟨w_law_place_names F_law_mixed, ?_, pure⟩
  have tk := takes_of (X := cxOf (L2.CX P w) P w K mg base N_law_place_names "_law_place_names" (defScope s_law_place_names) T.f_law_place_names cdv A outer s H E) rfl rfl rfl rfl
  have po := passes_of (X := cxOf (L2.CX P w) P w K mg base N_law_place_names "_law_place_names" (defScope s_law_place_names) T.f_law_place_names cdv A outer s H E) rfl
  have hc : (cxOf (L2.CX P w) P w K mg base N_law_place_names "_law_place_names" (defScope s_law_place_names) T.f_law_place_names cdv A outer s H E).calm = true := rfl
  have hu := hr.units
  exact (pb_one (ps_ret' (px_call' G_law_mixed (hr.mono (by omega)) (by rfl) T.g_law_mixed T.fn_law_mixed.kp T.bd_law_mixed tk (pa_cons' (px_var 0 (pv 0)) (pa_cons' (px_lst (pa_cons' px_str (pa_cons' px_str (pa_cons' px_str (pa_cons' px_str (pa_cons' px_str (pa_cons' px_str pa_nil'))))))) pa_nil')) rfl)))
end
/-! ### law -/
abbrev s_law : Stmt := top 33
abbrev N_law : List Str := ["_law_script", "_law_bag_here", "_law_lap", "_law_spots", "_law_part_z", "_law_text_z", "_law_found"]
abbrev ps_law : List Str := ["_law_script"]
theorem sc_law : FnScope N_law ps_law (defScope s_law) := ⟨rfl, rfl, rfl, by decide +kernel, rfl, by decide +kernel, by decide +kernel⟩
def w_law (F_law_draw : FT) (F_law_part_names : FT) (F_law_part_text : FT) (F_law_place_names : FT) (F_law_same : FT) (F_law_some_part : FT) (F_part_text : FT) (F_read_part : FT) : WS :=
    (wsSeq (wsFor (wRng1 (wC (.int 10))) (wgName 2)
    (wsSeq (wsSet 3 (wSl (wCall (fun ds P R => ds.length = 1 ∧ F_law_place_names ds P R) [] (wCons (wVar 1) wNil)) wNoPart (wPart (wOp rdAdd (wC (.int 1)) (wCall (fun ds P R => ds.length = 2 ∧ F_law_draw ds P R) [] (wCons (wVar 1) (wCons (wC (.int 4)) wNil)))))))
    (wsSeq (wsSet 4 (wCall (fun ds P R => ds.length = 3 ∧ F_law_some_part ds P R) [] (wCons (wVar 1) (wCons (wOp rdIx (wCall (fun ds P R => ds.length = 1 ∧ F_law_part_names ds P R) [] (wCons (wVar 1) wNil)) (wC (.int 0))) (wCons (wVar 3) wNil)))))
    (wsSeq (wsSet 5 (wCall (fun ds P R => ds.length = 1 ∧ F_law_part_text ds P R) [] (wCons (wVar 4) wNil)))
    (wsSeq (wsSet 6 (wLst (wCons (wCall (fun ds P R => ds.length = 1 ∧ F_part_text ds P R) [] (wCons (wVar 4) wNil)) (wCons (wCallK F_part_text 1 (fun ds => ds) (wCons (wVar 4) wNil)) (wCons (wCall (fun ds P R => ds.length = 1 ∧ F_read_part ds P R) [] (wCons (wVar 5) wNil)) (wCons (wCallK F_read_part 1 (fun ds => ds) (wCons (wVar 5) wNil)) (wCons (wCall (fun ds P R => ds.length = 1 ∧ F_read_part ds P R) [] (wCons (wCall (fun ds P R => ds.length = 1 ∧ F_part_text ds P R) [] (wCons (wVar 4) wNil)) wNil)) wNil)))))))
    (wsIf (wNot (wTest (wCall (fun ds P R => ds.length = 2 ∧ F_law_same ds P R) [] (wCons (wVar 6) (wCons (wLst (wCons (wVar 5) (wCons (wVar 5) (wCons (wVar 4) (wCons (wVar 4) (wCons (wVar 4) wNil)))))) wNil))))) (wsRet (wC (.bl false))) wsNext))))))
    (wsRet (wCall (fun ds P R => ds.length = 2 ∧ F_law_same ds P R) [] (wCons (wLst (wCons (wCall (fun ds P R => ds.length = 1 ∧ F_part_text ds P R) [] (wCons (wTup (wCons (wC (.str "g")) (wCons (wC (.str "gate")) (wCons (wTup (wCons (wC (.str "a")) (wCons (wC (.str "b")) (wCons (wC (.str "c")) (wCons (wC (.str "ground")) wNil))))) (wCons (wTup (wCons (wC (.int 1)) (wCons (wC (.int 4)) wNil))) wNil))))) wNil)) (wCons (wCall (fun ds P R => ds.length = 1 ∧ F_part_text ds P R) [] (wCons (wTup (wCons (wC (.str "k")) (wCons (wC (.str "keep")) (wCons (wTup (wCons (wC (.str "a")) wNil)) (wCons (wNeg (wC (.int 5))) wNil))))) wNil)) wNil))) (wCons (wLst (wCons (wC (.str "g gate a b by c ground in 1 4")) (wCons (wC (.str "k keep a = -5")) wNil))) wNil)))))
section
variable {P : Program} {w : World} {K : PySem.W.Frag} {mg : Str → Option Value} {base : Heap}
theorem ok_law {k : Nat} (hk : 1 ≤ k) (T : Txt w K mg) {k_law_draw : Nat} (h_law_draw : k_law_draw ≤ k) {k_law_part_names : Nat} (h_law_part_names : k_law_part_names ≤ k) {k_law_part_text : Nat} (h_law_part_text : k_law_part_text ≤ k) {k_law_place_names : Nat} (h_law_place_names : k_law_place_names ≤ k) {k_law_same : Nat} (h_law_same : k_law_same ≤ k) {k_law_some_part : Nat} (h_law_some_part : k_law_some_part ≤ k) {k_part_text : Nat} (h_part_text : k_part_text ≤ k) {k_read_part : Nat} (h_read_part : k_read_part ≤ k) {F_law_draw : FT} (G_law_draw : FnOk P w K mg base (L2.CX P w) k_law_draw T.f_law_draw T.fd_law_draw ps_law_draw (spP K mg 2 F_law_draw)) {F_law_part_names : FT} (G_law_part_names : FnOk P w K mg base (L2.CX P w) k_law_part_names T.f_law_part_names T.fd_law_part_names ps_law_part_names (spP K mg 1 F_law_part_names)) {F_law_part_text : FT} (G_law_part_text : FnOk P w K mg base (L2.CX P w) k_law_part_text T.f_law_part_text T.fd_law_part_text ps_law_part_text (spP K mg 1 F_law_part_text)) {F_law_place_names : FT} (G_law_place_names : FnOk P w K mg base (L2.CX P w) k_law_place_names T.f_law_place_names T.fd_law_place_names ps_law_place_names (spP K mg 1 F_law_place_names)) {F_law_same : FT} (G_law_same : FnOk P w K mg base (L2.CX P w) k_law_same T.f_law_same T.fd_law_same ps_law_same (spP K mg 2 F_law_same)) {F_law_some_part : FT} (G_law_some_part : FnOk P w K mg base (L2.CX P w) k_law_some_part T.f_law_some_part T.fd_law_some_part ps_law_some_part (spP K mg 3 F_law_some_part)) {F_part_text : FT} (G_part_text : FnOk P w K mg base (L2.CX P w) k_part_text T.f_part_text T.fd_part_text ps_part_text (spP K mg 1 F_part_text)) {F_read_part : FT} (G_read_part : FnOk P w K mg base (L2.CX P w) k_read_part T.f_read_part T.fd_read_part ps_read_part (spP K mg 1 F_read_part))
    (pure : w_law F_law_draw F_law_part_names F_law_part_text F_law_place_names F_law_same F_law_some_part F_part_text F_read_part (lawE 7) { nx := fun _ => False, rt := fun d => d = .bl true, ex := fun _ _ => False }) :
    FnOk P w K mg base (L2.CX P w) (k + 1) T.f_law T.fd_law ps_law (spLaw K) := by
  have G_bag : FnOk P w K mg base (L2.CX P w) 1 T.f_law_bag T.fd_law_bag ps_law_bag (spBag K) := ok_law_bag T
  refine law_ok T.fn_law sc_law rfl (by decide) fun cdv A outer s H E hr => ⟨_, _, w_law F_law_draw F_law_part_names F_law_part_text F_law_place_names F_law_same F_law_some_part F_part_text F_read_part, rfl, ?_, ?_, pure⟩
  · exact ps_set (i := 1) sc_law.nd rfl (by first | exact Or.inl rfl | exact Or.inr rfl) (pe_call G_bag (hr.mono hk) (by rfl) T.g_law_bag T.fn_law_bag.kp T.bd_law_bag .nil passL (pa_cons (pv 0) pa_nil))
  have tk := takes_of (X := (cxOf (L2.CX P w) P w K mg base N_law "law" (defScope s_law) T.f_law cdv A outer s H E)) rfl rfl rfl rfl
  have po := passes_of (X := (cxOf (L2.CX P w) P w K mg base N_law "law" (defScope s_law) T.f_law cdv A outer s H E)) rfl
  have hc : (cxOf (L2.CX P w) P w K mg base N_law "law" (defScope s_law) T.f_law cdv A outer s H E).calm = true := rfl
  have hu := hr.units
  exact (pb_cons (ps_for' po hc (pi_rng1 (by rfl) T.b_range px_int) (pg_name' (pg_name (i := 2) sc_law.nd rfl (by first | exact Or.inl rfl | exact Or.inr rfl))) (pb_cons (ps_set' (i := 3) sc_law.nd rfl (by first | exact Or.inl rfl | exact Or.inr rfl) (px_slice (px_call' G_law_place_names (hr.mono (by omega)) (by rfl) T.g_law_place_names T.fn_law_place_names.kp T.bd_law_place_names tk (pa_cons' (px_var 1 (pv 1)) pa_nil') rfl) po_none' (po_some' (px_op pr_add px_int (px_call' G_law_draw (hr.mono (by omega)) (by rfl) T.g_law_draw T.fn_law_draw.kp T.bd_law_draw tk (pa_cons' (px_var 1 (pv 1)) (pa_cons' px_int pa_nil')) rfl)))))
    (pb_cons (ps_set' (i := 4) sc_law.nd rfl (by first | exact Or.inl rfl | exact Or.inr rfl) (px_call' G_law_some_part (hr.mono (by omega)) (by rfl) T.g_law_some_part T.fn_law_some_part.kp T.bd_law_some_part tk (pa_cons' (px_var 1 (pv 1)) (pa_cons' (px_ix (px_call' G_law_part_names (hr.mono (by omega)) (by rfl) T.g_law_part_names T.fn_law_part_names.kp T.bd_law_part_names tk (pa_cons' (px_var 1 (pv 1)) pa_nil') rfl) px_int (fun _ _ => rfl)) (pa_cons' (px_var 3 (pv 3)) pa_nil'))) rfl))
    (pb_cons (ps_set' (i := 5) sc_law.nd rfl (by first | exact Or.inl rfl | exact Or.inr rfl) (px_call' G_law_part_text (hr.mono (by omega)) (by rfl) T.g_law_part_text T.fn_law_part_text.kp T.bd_law_part_text tk (pa_cons' (px_var 4 (pv 4)) pa_nil') rfl))
    (pb_cons (ps_set' (i := 6) sc_law.nd rfl (by first | exact Or.inl rfl | exact Or.inr rfl) (px_lst (pa_cons' (px_call' G_part_text (hr.mono (by omega)) (by rfl) T.g_part_text T.fn_part_text.kp T.bd_part_text tk (pa_cons' (px_var 4 (pv 4)) pa_nil') rfl) (pa_cons' (px_callK0 G_part_text (hr.mono (by omega)) (by rfl) T.g_part_text T.fn_part_text.kp T.kb_part_text (fun _ _ _ _ r => r) (pk_cons' (px_var 4 (pv 4)) pk_nil')) (pa_cons' (px_call' G_read_part (hr.mono (by omega)) (by rfl) T.g_read_part T.fn_read_part.kp T.bd_read_part tk (pa_cons' (px_var 5 (pv 5)) pa_nil') rfl) (pa_cons' (px_callK0 G_read_part (hr.mono (by omega)) (by rfl) T.g_read_part T.fn_read_part.kp T.kb_read_part (fun _ _ _ _ r => r) (pk_cons' (px_var 5 (pv 5)) pk_nil')) (pa_cons' (px_call' G_read_part (hr.mono (by omega)) (by rfl) T.g_read_part T.fn_read_part.kp T.bd_read_part tk (pa_cons' (px_call' G_part_text (hr.mono (by omega)) (by rfl) T.g_part_text T.fn_part_text.kp T.bd_part_text tk (pa_cons' (px_var 4 (pv 4)) pa_nil') rfl) pa_nil') rfl) pa_nil')))))))
    (pb_one (ps_if' (pt_not' (pt_bool (px_call' G_law_same (hr.mono (by omega)) (by rfl) T.g_law_same T.fn_law_same.kp T.bd_law_same tk (pa_cons' (px_var 6 (pv 6)) (pa_cons' (px_lst (pa_cons' (px_var 5 (pv 5)) (pa_cons' (px_var 5 (pv 5)) (pa_cons' (px_var 4 (pv 4)) (pa_cons' (px_var 4 (pv 4)) (pa_cons' (px_var 4 (pv 4)) pa_nil')))))) pa_nil')) rfl))) (pb_one (ps_ret' px_bl)) pb_nil)))))))
    (pb_one (ps_ret' (px_call' G_law_same (hr.mono (by omega)) (by rfl) T.g_law_same T.fn_law_same.kp T.bd_law_same tk (pa_cons' (px_lst (pa_cons' (px_call' G_part_text (hr.mono (by omega)) (by rfl) T.g_part_text T.fn_part_text.kp T.bd_part_text tk (pa_cons' (px_tup (pa_cons' px_str (pa_cons' px_str (pa_cons' (px_tup (pa_cons' px_str (pa_cons' px_str (pa_cons' px_str (pa_cons' px_str pa_nil'))))) (pa_cons' (px_tup (pa_cons' px_int (pa_cons' px_int pa_nil'))) pa_nil'))))) pa_nil') rfl) (pa_cons' (px_call' G_part_text (hr.mono (by omega)) (by rfl) T.g_part_text T.fn_part_text.kp T.bd_part_text tk (pa_cons' (px_tup (pa_cons' px_str (pa_cons' px_str (pa_cons' (px_tup (pa_cons' px_str pa_nil')) (pa_cons' (px_neg px_int) pa_nil'))))) pa_nil') rfl) pa_nil'))) (pa_cons' (px_lst (pa_cons' px_str (pa_cons' px_str pa_nil'))) pa_nil')) rfl))))
end
end Pu
namespace Pu
open PySem L2 PySem.Spec PyProof.Rows
theorem dep_strs : ∀ ss : List Str, (ss.map D.str).all (dep 0) = true
  | [] => rfl
  | _ :: ss => dep_strs ss
theorem dep_part {name : Str} {k : Kind} {ss : List Str} {s : D} (h : PartIs name k ss s) : dep 2 (partD name k ss s) = true := by
  have h1 : (ss.map D.str).length ≤ 100000 := by
    rw [List.length_map, h.len]
    have : Kind.size k ≤ 4 := by cases k <;> decide
    omega
  have h2 : dep 1 (.tup (ss.map D.str)) = true := by
    show (decide ((ss.map D.str).length ≤ 100000) && (ss.map D.str).all (dep 0)) = true
    rw [decide_eq_true h1, dep_strs]
    rfl
  have h3 : dep 1 s = true := by cases h.form <;> rfl
  show (true && (true && (true && (dep 1 (.tup (ss.map D.str)) && (dep 1 s && true))))) = true
  rw [h2, h3]
  rfl
theorem same5 {t : Str} {p : D} (h : dep 2 p = true) : dep 3 (.lst [.str t, .str t, p, p, p]) = true := by
  show (true && (true && (true && (dep 2 p && (dep 2 p && (dep 2 p && true)))))) = true
  rw [h]
  rfl
theorem gate_is : PartIs "g" .gate ["a", "b", "c", "ground"] (.tup [.int 1, .int 4]) := ⟨by decide +kernel, by decide +kernel, rfl, by decide +kernel, by decide +kernel, .pair (by decide) (by decide) (by decide)⟩
theorem keep_is : PartIs "k" .keep ["a"] (.int (-5)) := ⟨by decide +kernel, by decide +kernel, rfl, by decide +kernel, by decide +kernel, .one (by decide) (by decide)⟩
theorem gate_text : textOf "g" .gate ["a", "b", "c", "ground"] (.tup [.int 1, .int 4]) = "g gate a b by c ground in 1 4" := by decide +kernel
theorem keep_text : textOf "k" .keep ["a"] (.int (-5)) = "k keep a = -5" := by decide +kernel
set_option maxHeartbeats 4000000 in
theorem pure_law : w_law F_draw F_part_names F_part_text F_place_names (F_same 3) F_some_part F_part_text F_read_part (lawE 7) { nx := fun _ => False, rt := fun d => d = .bl true, ex := fun _ _ => False } := by
  unfold w_law
  refine ⟨by decide, ?_⟩
  refine forL_inv (fun env => ∃ x0 x2 x3 x4 x5 x6, env = [x0, .v .bag, x2, x3, x4, x5, x6]) _ _ ?_ ?_ ?_
  · intro x _ env he Kn hk
    obtain ⟨x0, x2, x3, x4, x5, x6, rfl⟩ := he
    refine st_set (fun d => ∃ ss : List Str, d = .lst (ss.map D.str) ∧ ss ≠ [] ∧ ss.length ≤ 6 ∧ ss.Nodup ∧ ∀ s ∈ ss, isName s = true) (fun Pk hPk => ?_) (fun d hd => ?_)
    · refine ⟨rfl, rfl, fun xs h6 hn hs => ⟨rfl, 4, rfl, by decide, by decide, fun v v0 v1 => hPk _ ⟨xs.take (1 + v).toNat, ?_, ?_, ?_, ?_, ?_⟩⟩⟩
      · unfold cutD
        rw [List.length_map, h6]
        have q1 : HT.sIx 6 0 none = 0 := rfl
        have q2 : HT.sIx 6 6 (some (1 + v)) = (1 + v).toNat := by
          show (if 1 + v < 0 then (1 + v + 6).toNat else min (1 + v).toNat 6) = _
          rw [if_neg (by omega)]
          omega
        rw [q1, q2, List.drop_zero, Nat.sub_zero, List.map_take]
      · intro z
        have := congrArg List.length z
        rw [List.length_take, h6] at this
        simp at this
        omega
      · rw [List.length_take, h6]
        omega
      · exact hn.sublist (List.take_sublist _ _)
      · exact fun s h => hs s (List.mem_of_mem_take h)
    obtain ⟨ss, rfl, s0, s1, s2, s3⟩ := hd
    refine st_set (fun d => ∃ name k ss s, d = partD name k ss s ∧ PartIs name k ss s) (fun Pk hPk => ?_) (fun p hp => ?_)
    · refine ⟨rfl, rfl, fun xs h6 hn hs => ?_⟩
      match xs, h6, hs with
      | y :: ys, _, hs =>
        have hy := hs y List.mem_cons_self
        exact ⟨.str y, at_0, rfl, y, ss, rfl, s0, s1, s2, s3, fun p hp => hPk p (by
          obtain ⟨k, ss, s, e, h⟩ := good_is hy hp
          exact ⟨y, k, ss, s, e, h⟩)⟩
    obtain ⟨name, k, l, s, rfl, hp⟩ := hp
    refine st_set (fun d => d = .str (textOf name k l s)) (fun Pk hPk => ⟨rfl, name, k, l, s, rfl, hp, hPk _ rfl⟩) (fun d hd => ?_)
    subst hd
    refine st_set (fun d => d = .lst [.str (textOf name k l s), .str (textOf name k l s), partD name k l s, partD name k l s, partD name k l s]) (fun Pk hPk => ?_) (fun d hd => ?_)
    · exact ⟨rfl, name, k, l, s, rfl, hp, rfl, name, k, l, s, rfl, hp, rfl, name, k, l, s, rfl, hp, rfl, name, k, l, s, rfl, hp, rfl, name, k, l, s, rfl, hp, rfl, name, k, l, s, rfl, hp, (by show (5 : Nat) ≤ sizeLine; decide), hPk _ rfl⟩
    subst hd
    refine st_if1 false (fun Pk hPk => ?_) (fun h => nomatch h) (fun _ => hk _ ⟨_, _, _, _, _, _, rfl⟩)
    exact ⟨(by show (5 : Nat) ≤ sizeLine; decide), rfl, _, rfl, same5 (dep_part hp), hPk⟩
  · exact ⟨_, _, _, _, _, _, rfl⟩
  · intro env he
    obtain ⟨x0, x2, x3, x4, x5, x6, rfl⟩ := he
    have z4 : (4 : Nat) ≤ sizeLine := by decide
    have z2 : (2 : Nat) ≤ sizeLine := by decide
    have z1 : (1 : Nat) ≤ sizeLine := by decide
    refine ⟨z4, z2, z4, rfl, _, _, _, _, rfl, gate_is, z1, z4, rfl, _, _, _, _, rfl, keep_is, z2, z2, rfl, ?_⟩
    refine ⟨.lst [.str "g gate a b by c ground in 1 4", .str "k keep a = -5"], ?_, rfl, rfl⟩
    rw [gate_text, keep_text]
    rfl
end Pu
namespace Pu
open PySem L2 PySem.Spec PyProof.Rows
section
variable {P : Program} {w : World} {K : PySem.W.Frag} {mg : Str → Option Value} {base : Heap}
theorem all_same (T : Txt w K mg) : ∀ n : Nat, FnOk P w K mg base (L2.CX P w) (n + 1) T.f_law_same T.fd_law_same ps_law_same (spP K mg 2 (F_same n))
  | 0 => ok_law_same T (Nat.le_refl 0) fn_false (pure_law_same 0 _ (fun m h => nomatch h))
  | n + 1 => ok_law_same T (Nat.le_refl (n + 1)) (all_same T n) (pure_law_same (n + 1) _ (fun m h => by cases h; rfl))
theorem all_ok (T : Txt w K mg) : FnOk P w K mg base (L2.CX P w) 40 T.f_law T.fd_law ps_law (spLaw K) := by
  have Gd : FnOk P w K mg base (L2.CX P w) 1 T.f_law_draw T.fd_law_draw ps_law_draw (spP K mg 2 F_draw) := ok_law_draw T
  have Go : FnOk P w K mg base (L2.CX P w) 2 T.f_law_of T.fd_law_of ps_law_of (spP K mg 2 F_of) := ok_law_of T (Nat.le_refl 1) Gd pure_law_of
  have Gs := all_same (P := P) (w := w) (base := base) T 3
  have Gm : FnOk P w K mg base (L2.CX P w) 2 T.f_law_mixed T.fd_law_mixed ps_law_mixed (spP K mg 2 F_mixed) := ok_law_mixed T (Nat.le_refl 1) Gd pure_law_mixed
  have Gi : FnOk P w K mg base (L2.CX P w) 1 T.f_is_integer_value T.fd_is_integer_value ps_is_integer_value (spP K mg 1 F_iv) := ok_is_integer_value T pure_iv
  have Gn : FnOk P w K mg base (L2.CX P w) 1 T.f_is_name T.fd_is_name ps_is_name (spP K mg 1 F_is_name) := ok_is_name T pure_is_name
  have Ge : FnOk P w K mg base (L2.CX P w) 2 T.f_is_end T.fd_is_end ps_is_end (spP K mg 1 F_is_end) := ok_is_end T (Nat.le_refl 1) Gn pure_is_end
  have Gp : FnOk P w K mg base (L2.CX P w) 3 T.f_are_places T.fd_are_places ps_are_places (spP K mg 2 F_are_places) := ok_are_places T (Nat.le_refl 2) Ge pure_are_places
  have Gq : FnOk P w K mg base (L2.CX P w) 2 T.f_is_pair T.fd_is_pair ps_is_pair (spP K mg 1 F_is_pair) := ok_is_pair T (Nat.le_refl 1) Gi pure_is_pair
  have Ga : FnOk P w K mg base (L2.CX P w) 2 T.f_allows T.fd_allows ps_allows (spP K mg 2 F_allows) := ok_allows T (Nat.le_refl 1) Gi pure_allows
  have Gx : FnOk P w K mg base (L2.CX P w) 4 T.f_is_part T.fd_is_part ps_is_part (spP K mg 1 F_is_part) := ok_is_part (k := 3) T (k_allows := 2) (by decide) (k_are_places := 3) (by decide) (k_is_name := 1) (by decide) (k_is_pair := 2) (by decide) Ga Gp Gn Gq pure_is_part
  have Gpl0 : FnOk P w K mg base (L2.CX P w) 1 T.f_is_plain T.fd_is_plain ps_is_plain (spP K mg 1 F_is_plain) := ok_is_plain T pure_is_plain
  have Gpt : FnOk P w K mg base (L2.CX P w) 1 T.f_part_text T.fd_part_text ps_part_text (spP K mg 1 F_part_text) := ok_part_text T pure_part_text
  have Glt : FnOk P w K mg base (L2.CX P w) 1 T.f_law_part_text T.fd_law_part_text ps_law_part_text (spP K mg 1 F_part_text) := ok_law_part_text T pure_law_part_text
  have Gsw : FnOk P w K mg base (L2.CX P w) 2 T.f_strength_of_words T.fd_strength_of_words ps_strength_of_words (spP K mg 1 F_strength_of_words) := ok_strength_of_words T (Nat.le_refl 1) Gpl0 pure_strength_of_words
  have Grp : FnOk P w K mg base (L2.CX P w) 5 T.f_read_part T.fd_read_part ps_read_part (spP K mg 1 F_read_part) := ok_read_part (k := 4) T (k_is_part := 4) (by decide) (k_strength_of_words := 2) (by decide) Gx Gsw pure_read_part
  have Gt : FnOk P w K mg base (L2.CX P w) 3 T.f_law_any_strength T.fd_law_any_strength ps_law_any_strength (spP K mg 2 F_any_strength) := ok_law_any_strength (k := 2) T (k_law_draw := 1) (by decide) (k_law_of := 2) (by decide) Gd Go pure_any_strength
  have Gz : FnOk P w K mg base (L2.CX P w) 4 T.f_law_some_part T.fd_law_some_part ps_law_some_part (spP K mg 3 F_some_part) := ok_law_some_part (k := 3) T (k_law_any_strength := 3) (by decide) (k_law_mixed := 2) (by decide) (k_law_of := 2) (by decide) Gt Gm Go pure_some_part
  have Gpn : FnOk P w K mg base (L2.CX P w) 3 T.f_law_part_names T.fd_law_part_names ps_law_part_names (spP K mg 1 F_part_names) := ok_law_part_names T (Nat.le_refl 2) Gm pure_part_names
  have Gpl : FnOk P w K mg base (L2.CX P w) 3 T.f_law_place_names T.fd_law_place_names ps_law_place_names (spP K mg 1 F_place_names) := ok_law_place_names T (Nat.le_refl 2) Gm pure_place_names
  exact ok_law (k := 39) (by decide) T (k_law_draw := 1) (by decide) (k_law_part_names := 3) (by decide) (k_law_part_text := 1) (by decide) (k_law_place_names := 3) (by decide) (k_law_same := 4) (by decide) (k_law_some_part := 4) (by decide) (k_part_text := 1) (by decide) (k_read_part := 5) (by decide) Gd Gpn Glt Gpl Gs Gz Gpt Grp pure_law
end
theorem txt_mk {w : World} {K : PySem.W.Frag} {h : Heap} {mg : Str → Option Value} {fa : Addr} (X : K.In h) (G : h.Ns mainGlobals mg) (hfa : mg "law" = some (.ref fa))
    {od0 an0 : Option Addr} {sl0 : Array (Option Value)} {oc0 kV0 dc0 pm0 cd0 ct0 : Value} {f0 : Addr}
    {od1 an1 : Option Addr} {sl1 : Array (Option Value)} {oc1 kV1 dc1 pm1 cd1 ct1 : Value} {f1 : Addr}
    {od2 an2 : Option Addr} {sl2 : Array (Option Value)} {oc2 kV2 dc2 pm2 cd2 ct2 : Value} {f2 : Addr}
    {od3 an3 : Option Addr} {sl3 : Array (Option Value)} {oc3 kV3 dc3 pm3 cd3 ct3 : Value} {f3 : Addr}
    {od4 an4 : Option Addr} {sl4 : Array (Option Value)} {oc4 kV4 dc4 pm4 cd4 ct4 : Value} {f4 : Addr}
    {od5 an5 : Option Addr} {sl5 : Array (Option Value)} {oc5 kV5 dc5 pm5 cd5 ct5 : Value} {f5 : Addr}
    {od6 an6 : Option Addr} {sl6 : Array (Option Value)} {oc6 kV6 dc6 pm6 cd6 ct6 : Value} {f6 : Addr}
    {od7 an7 : Option Addr} {sl7 : Array (Option Value)} {oc7 kV7 dc7 pm7 cd7 ct7 : Value} {f7 : Addr}
    {od8 an8 : Option Addr} {sl8 : Array (Option Value)} {oc8 kV8 dc8 pm8 cd8 ct8 : Value} {f8 : Addr}
    {od9 an9 : Option Addr} {sl9 : Array (Option Value)} {oc9 kV9 dc9 pm9 cd9 ct9 : Value} {f9 : Addr}
    {od10 an10 : Option Addr} {sl10 : Array (Option Value)} {oc10 kV10 dc10 pm10 cd10 ct10 : Value} {f10 : Addr}
    {od11 an11 : Option Addr} {sl11 : Array (Option Value)} {oc11 kV11 dc11 pm11 cd11 ct11 : Value} {f11 : Addr}
    {od12 an12 : Option Addr} {sl12 : Array (Option Value)} {oc12 kV12 dc12 pm12 cd12 ct12 : Value} {f12 : Addr}
    {od13 an13 : Option Addr} {sl13 : Array (Option Value)} {oc13 kV13 dc13 pm13 cd13 ct13 : Value} {f13 : Addr}
    {od14 an14 : Option Addr} {sl14 : Array (Option Value)} {oc14 kV14 dc14 pm14 cd14 ct14 : Value} {f14 : Addr}
    {od15 an15 : Option Addr} {sl15 : Array (Option Value)} {oc15 kV15 dc15 pm15 cd15 ct15 : Value} {f15 : Addr}
    {od16 an16 : Option Addr} {sl16 : Array (Option Value)} {oc16 kV16 dc16 pm16 cd16 ct16 : Value} {f16 : Addr}
    {od17 an17 : Option Addr} {sl17 : Array (Option Value)} {oc17 kV17 dc17 pm17 cd17 ct17 : Value} {f17 : Addr}
    {od18 an18 : Option Addr} {sl18 : Array (Option Value)} {oc18 kV18 dc18 pm18 cd18 ct18 : Value} {f18 : Addr}
    {od19 an19 : Option Addr} {sl19 : Array (Option Value)} {oc19 kV19 dc19 pm19 cd19 ct19 : Value} {f19 : Addr}
    {od20 an20 : Option Addr} {sl20 : Array (Option Value)} {oc20 kV20 dc20 pm20 cd20 ct20 : Value} {f20 : Addr}
    {od21 an21 : Option Addr} {sl21 : Array (Option Value)} {oc21 kV21 dc21 pm21 cd21 ct21 : Value} {f21 : Addr}
    (a0 : PySem.W.nsIn K mainGlobals "_law_bag" = some (some (.ref f0))) (l0 : K.lookup f0 = some ⟨oc0, od0, .func (PySem.W.fnOf "_law_bag" "_law_bag" (defArgs s_law_bag) (defBody s_law_bag) (defScope s_law_bag) .none kV0 dc0 pm0 an0 cd0 ct0), sl0⟩) (c0 : PySem.W.codeIn K cd0 "_law_bag" = true) (k0 : PySem.W.keepIn K (.ref f0) = true)
    (a1 : PySem.W.nsIn K mainGlobals "_law_draw" = some (some (.ref f1))) (l1 : K.lookup f1 = some ⟨oc1, od1, .func (PySem.W.fnOf "_law_draw" "_law_draw" (defArgs s_law_draw) (defBody s_law_draw) (defScope s_law_draw) .none kV1 dc1 pm1 an1 cd1 ct1), sl1⟩) (c1 : PySem.W.codeIn K cd1 "_law_draw" = true) (k1 : PySem.W.keepIn K (.ref f1) = true)
    (a2 : PySem.W.nsIn K mainGlobals "_law_of" = some (some (.ref f2))) (l2 : K.lookup f2 = some ⟨oc2, od2, .func (PySem.W.fnOf "_law_of" "_law_of" (defArgs s_law_of) (defBody s_law_of) (defScope s_law_of) .none kV2 dc2 pm2 an2 cd2 ct2), sl2⟩) (c2 : PySem.W.codeIn K cd2 "_law_of" = true) (k2 : PySem.W.keepIn K (.ref f2) = true)
    (a3 : PySem.W.nsIn K mainGlobals "_law_mixed" = some (some (.ref f3))) (l3 : K.lookup f3 = some ⟨oc3, od3, .func (PySem.W.fnOf "_law_mixed" "_law_mixed" (defArgs s_law_mixed) (defBody s_law_mixed) (defScope s_law_mixed) .none kV3 dc3 pm3 an3 cd3 ct3), sl3⟩) (c3 : PySem.W.codeIn K cd3 "_law_mixed" = true) (k3 : PySem.W.keepIn K (.ref f3) = true)
    (a4 : PySem.W.nsIn K mainGlobals "_law_same" = some (some (.ref f4))) (l4 : K.lookup f4 = some ⟨oc4, od4, .func (PySem.W.fnOf "_law_same" "_law_same" (defArgs s_law_same) (defBody s_law_same) (defScope s_law_same) .none kV4 dc4 pm4 an4 cd4 ct4), sl4⟩) (c4 : PySem.W.codeIn K cd4 "_law_same" = true) (k4 : PySem.W.keepIn K (.ref f4) = true)
    (a5 : PySem.W.nsIn K mainGlobals "is_name" = some (some (.ref f5))) (l5 : K.lookup f5 = some ⟨oc5, od5, .func (PySem.W.fnOf "is_name" "is_name" (defArgs s_is_name) (defBody s_is_name) (defScope s_is_name) .none kV5 dc5 pm5 an5 cd5 ct5), sl5⟩) (c5 : PySem.W.codeIn K cd5 "is_name" = true) (k5 : PySem.W.keepIn K (.ref f5) = true)
    (a6 : PySem.W.nsIn K mainGlobals "is_plain" = some (some (.ref f6))) (l6 : K.lookup f6 = some ⟨oc6, od6, .func (PySem.W.fnOf "is_plain" "is_plain" (defArgs s_is_plain) (defBody s_is_plain) (defScope s_is_plain) .none kV6 dc6 pm6 an6 cd6 ct6), sl6⟩) (c6 : PySem.W.codeIn K cd6 "is_plain" = true) (k6 : PySem.W.keepIn K (.ref f6) = true)
    (a7 : PySem.W.nsIn K mainGlobals "is_integer_value" = some (some (.ref f7))) (l7 : K.lookup f7 = some ⟨oc7, od7, .func (PySem.W.fnOf "is_integer_value" "is_integer_value" (defArgs s_is_integer_value) (defBody s_is_integer_value) (defScope s_is_integer_value) .none kV7 dc7 pm7 an7 cd7 ct7), sl7⟩) (c7 : PySem.W.codeIn K cd7 "is_integer_value" = true) (k7 : PySem.W.keepIn K (.ref f7) = true)
    (a8 : PySem.W.nsIn K mainGlobals "is_end" = some (some (.ref f8))) (l8 : K.lookup f8 = some ⟨oc8, od8, .func (PySem.W.fnOf "is_end" "is_end" (defArgs s_is_end) (defBody s_is_end) (defScope s_is_end) .none kV8 dc8 pm8 an8 cd8 ct8), sl8⟩) (c8 : PySem.W.codeIn K cd8 "is_end" = true) (k8 : PySem.W.keepIn K (.ref f8) = true)
    (a9 : PySem.W.nsIn K mainGlobals "are_places" = some (some (.ref f9))) (l9 : K.lookup f9 = some ⟨oc9, od9, .func (PySem.W.fnOf "are_places" "are_places" (defArgs s_are_places) (defBody s_are_places) (defScope s_are_places) .none kV9 dc9 pm9 an9 cd9 ct9), sl9⟩) (c9 : PySem.W.codeIn K cd9 "are_places" = true) (k9 : PySem.W.keepIn K (.ref f9) = true)
    (a10 : PySem.W.nsIn K mainGlobals "is_pair" = some (some (.ref f10))) (l10 : K.lookup f10 = some ⟨oc10, od10, .func (PySem.W.fnOf "is_pair" "is_pair" (defArgs s_is_pair) (defBody s_is_pair) (defScope s_is_pair) .none kV10 dc10 pm10 an10 cd10 ct10), sl10⟩) (c10 : PySem.W.codeIn K cd10 "is_pair" = true) (k10 : PySem.W.keepIn K (.ref f10) = true)
    (a11 : PySem.W.nsIn K mainGlobals "allows" = some (some (.ref f11))) (l11 : K.lookup f11 = some ⟨oc11, od11, .func (PySem.W.fnOf "allows" "allows" (defArgs s_allows) (defBody s_allows) (defScope s_allows) .none kV11 dc11 pm11 an11 cd11 ct11), sl11⟩) (c11 : PySem.W.codeIn K cd11 "allows" = true) (k11 : PySem.W.keepIn K (.ref f11) = true)
    (a12 : PySem.W.nsIn K mainGlobals "is_part" = some (some (.ref f12))) (l12 : K.lookup f12 = some ⟨oc12, od12, .func (PySem.W.fnOf "is_part" "is_part" (defArgs s_is_part) (defBody s_is_part) (defScope s_is_part) .none kV12 dc12 pm12 an12 cd12 ct12), sl12⟩) (c12 : PySem.W.codeIn K cd12 "is_part" = true) (k12 : PySem.W.keepIn K (.ref f12) = true)
    (a13 : PySem.W.nsIn K mainGlobals "part_text" = some (some (.ref f13))) (l13 : K.lookup f13 = some ⟨oc13, od13, .func (PySem.W.fnOf "part_text" "part_text" (defArgs s_part_text) (defBody s_part_text) (defScope s_part_text) .none kV13 dc13 pm13 an13 cd13 ct13), sl13⟩) (c13 : PySem.W.codeIn K cd13 "part_text" = true) (k13 : PySem.W.keepIn K (.ref f13) = true)
    (a14 : PySem.W.nsIn K mainGlobals "strength_of_words" = some (some (.ref f14))) (l14 : K.lookup f14 = some ⟨oc14, od14, .func (PySem.W.fnOf "strength_of_words" "strength_of_words" (defArgs s_strength_of_words) (defBody s_strength_of_words) (defScope s_strength_of_words) .none kV14 dc14 pm14 an14 cd14 ct14), sl14⟩) (c14 : PySem.W.codeIn K cd14 "strength_of_words" = true) (k14 : PySem.W.keepIn K (.ref f14) = true)
    (a15 : PySem.W.nsIn K mainGlobals "read_part" = some (some (.ref f15))) (l15 : K.lookup f15 = some ⟨oc15, od15, .func (PySem.W.fnOf "read_part" "read_part" (defArgs s_read_part) (defBody s_read_part) (defScope s_read_part) .none kV15 dc15 pm15 an15 cd15 ct15), sl15⟩) (c15 : PySem.W.codeIn K cd15 "read_part" = true) (k15 : PySem.W.keepIn K (.ref f15) = true)
    (a16 : PySem.W.nsIn K mainGlobals "_law_any_strength" = some (some (.ref f16))) (l16 : K.lookup f16 = some ⟨oc16, od16, .func (PySem.W.fnOf "_law_any_strength" "_law_any_strength" (defArgs s_law_any_strength) (defBody s_law_any_strength) (defScope s_law_any_strength) .none kV16 dc16 pm16 an16 cd16 ct16), sl16⟩) (c16 : PySem.W.codeIn K cd16 "_law_any_strength" = true) (k16 : PySem.W.keepIn K (.ref f16) = true)
    (a17 : PySem.W.nsIn K mainGlobals "_law_some_part" = some (some (.ref f17))) (l17 : K.lookup f17 = some ⟨oc17, od17, .func (PySem.W.fnOf "_law_some_part" "_law_some_part" (defArgs s_law_some_part) (defBody s_law_some_part) (defScope s_law_some_part) .none kV17 dc17 pm17 an17 cd17 ct17), sl17⟩) (c17 : PySem.W.codeIn K cd17 "_law_some_part" = true) (k17 : PySem.W.keepIn K (.ref f17) = true)
    (a18 : PySem.W.nsIn K mainGlobals "_law_part_text" = some (some (.ref f18))) (l18 : K.lookup f18 = some ⟨oc18, od18, .func (PySem.W.fnOf "_law_part_text" "_law_part_text" (defArgs s_law_part_text) (defBody s_law_part_text) (defScope s_law_part_text) .none kV18 dc18 pm18 an18 cd18 ct18), sl18⟩) (c18 : PySem.W.codeIn K cd18 "_law_part_text" = true) (k18 : PySem.W.keepIn K (.ref f18) = true)
    (a19 : PySem.W.nsIn K mainGlobals "_law_part_names" = some (some (.ref f19))) (l19 : K.lookup f19 = some ⟨oc19, od19, .func (PySem.W.fnOf "_law_part_names" "_law_part_names" (defArgs s_law_part_names) (defBody s_law_part_names) (defScope s_law_part_names) .none kV19 dc19 pm19 an19 cd19 ct19), sl19⟩) (c19 : PySem.W.codeIn K cd19 "_law_part_names" = true) (k19 : PySem.W.keepIn K (.ref f19) = true)
    (a20 : PySem.W.nsIn K mainGlobals "_law_place_names" = some (some (.ref f20))) (l20 : K.lookup f20 = some ⟨oc20, od20, .func (PySem.W.fnOf "_law_place_names" "_law_place_names" (defArgs s_law_place_names) (defBody s_law_place_names) (defScope s_law_place_names) .none kV20 dc20 pm20 an20 cd20 ct20), sl20⟩) (c20 : PySem.W.codeIn K cd20 "_law_place_names" = true) (k20 : PySem.W.keepIn K (.ref f20) = true)
    (a21 : PySem.W.nsIn K mainGlobals "law" = some (some (.ref f21))) (l21 : K.lookup f21 = some ⟨oc21, od21, .func (PySem.W.fnOf "law" "law" (defArgs s_law) (defBody s_law) (defScope s_law) .none kV21 dc21 pm21 an21 cd21 ct21), sl21⟩) (c21 : PySem.W.codeIn K cd21 "law" = true) (k21 : PySem.W.keepIn K (.ref f21) = true)
    (z_int : PySem.W.nsIn K mainGlobals "int" = some none)
    (z_list : PySem.W.nsIn K mainGlobals "list" = some none)
    (z_len : PySem.W.nsIn K mainGlobals "len" = some none)
    (z_range : PySem.W.nsIn K mainGlobals "range" = some none)
    (z_isinstance : PySem.W.nsIn K mainGlobals "isinstance" = some none)
    (z_tuple : PySem.W.nsIn K mainGlobals "tuple" = some none)
    (z_zip : PySem.W.nsIn K mainGlobals "zip" = some none)
    (z_all : PySem.W.nsIn K mainGlobals "all" = some none)
    (z_bool : PySem.W.nsIn K mainGlobals "bool" = some none)
    (z_str : PySem.W.nsIn K mainGlobals "str" = some none)
    {t_SMALL : Tok} (y_SMALL : PySem.W.nsIn K mainGlobals "SMALL" = some (some (.str "abcdefghijklmnopqrstuvwxyz" t_SMALL)))
    {t_GROUND : Tok} (y_GROUND : PySem.W.nsIn K mainGlobals "GROUND" = some (some (.str "ground" t_GROUND)))
    {a_SIZES : Addr} {es_SIZES : Array DictEntry} {n_SIZES : Nat} {t0_SIZES t1_SIZES t2_SIZES t3_SIZES t4_SIZES : Tok} (y_SIZES : PySem.W.nsIn K mainGlobals "SIZES" = some (some (.ref a_SIZES))) (yl_SIZES : K.lookup a_SIZES = some ⟨.type "dict", none, .dict es_SIZES n_SIZES, #[]⟩) (yk_SIZES : PySem.W.KeysLit w.params es_SIZES.toList)
    (ye0_SIZES : PySem.W.nsIn K a_SIZES "tie" = some (some (.int 2 t0_SIZES)))
    (ye1_SIZES : PySem.W.nsIn K a_SIZES "oneway" = some (some (.int 2 t1_SIZES)))
    (ye2_SIZES : PySem.W.nsIn K a_SIZES "gate" = some (some (.int 4 t2_SIZES)))
    (ye3_SIZES : PySem.W.nsIn K a_SIZES "push" = some (some (.int 1 t3_SIZES)))
    (ye4_SIZES : PySem.W.nsIn K a_SIZES "keep" = some (some (.int 1 t4_SIZES)))
    {t_MOST : Tok} (y_MOST : PySem.W.nsIn K mainGlobals "MOST" = some (some (.int 1000 t_MOST)))
    {a_KINDS : Addr} {dd_KINDS : Option Addr} {n_KINDS : Nat} {sl_KINDS : Array (Option Value)} {t0_KINDS t1_KINDS t2_KINDS t3_KINDS t4_KINDS : Tok} (y_KINDS : PySem.W.nsIn K mainGlobals "KINDS" = some (some (.ref a_KINDS))) (yl_KINDS : K.lookup a_KINDS = some ⟨.type "tuple", dd_KINDS, .seq #[.str "tie" t0_KINDS, .str "oneway" t1_KINDS, .str "gate" t2_KINDS, .str "push" t3_KINDS, .str "keep" t4_KINDS] n_KINDS, sl_KINDS⟩) :
    ∃ T : Txt w K mg, T.f_law = fa ∧ ∀ (s : Shared) (u : Value), BindsTo s T.fd_law ⟨[u], []⟩ [("_law_script", u)] := by
  have e := hfa.symm.trans (PySem.W.mg_of X G a21)
  cases e
  have F0 := fun_mk (st := s_law_bag) l0 c0 k0
  have F1 := fun_mk (st := s_law_draw) l1 c1 k1
  have F2 := fun_mk (st := s_law_of) l2 c2 k2
  have F3 := fun_mk (st := s_law_mixed) l3 c3 k3
  have F4 := fun_mk (st := s_law_same) l4 c4 k4
  have F5 := fun_mk (st := s_is_name) l5 c5 k5
  have F6 := fun_mk (st := s_is_plain) l6 c6 k6
  have F7 := fun_mk (st := s_is_integer_value) l7 c7 k7
  have F8 := fun_mk (st := s_is_end) l8 c8 k8
  have F9 := fun_mk (st := s_are_places) l9 c9 k9
  have F10 := fun_mk (st := s_is_pair) l10 c10 k10
  have F11 := fun_mk (st := s_allows) l11 c11 k11
  have F12 := fun_mk (st := s_is_part) l12 c12 k12
  have F13 := fun_mk (st := s_part_text) l13 c13 k13
  have F14 := fun_mk (st := s_strength_of_words) l14 c14 k14
  have F15 := fun_mk (st := s_read_part) l15 c15 k15
  have F16 := fun_mk (st := s_law_any_strength) l16 c16 k16
  have F17 := fun_mk (st := s_law_some_part) l17 c17 k17
  have F18 := fun_mk (st := s_law_part_text) l18 c18 k18
  have F19 := fun_mk (st := s_law_part_names) l19 c19 k19
  have F20 := fun_mk (st := s_law_place_names) l20 c20 k20
  have F21 := fun_mk (st := s_law) l21 c21 k21
  exact ⟨{ f_law_bag := _, fd_law_bag := _, fn_law_bag := F0, g_law_bag := PySem.W.mg_of X G a0, bd_law_bag := F0.binds (fun _ _ _ _ _ _ us hl => match us, hl with | [_], _ => rfl), f_law_draw := _, fd_law_draw := _, fn_law_draw := F1, g_law_draw := PySem.W.mg_of X G a1, bd_law_draw := F1.binds (fun _ _ _ _ _ _ us hl => match us, hl with | [_, _], _ => rfl), f_law_of := _, fd_law_of := _, fn_law_of := F2, g_law_of := PySem.W.mg_of X G a2, bd_law_of := F2.binds (fun _ _ _ _ _ _ us hl => match us, hl with | [_, _], _ => rfl), f_law_mixed := _, fd_law_mixed := _, fn_law_mixed := F3, g_law_mixed := PySem.W.mg_of X G a3, bd_law_mixed := F3.binds (fun _ _ _ _ _ _ us hl => match us, hl with | [_, _], _ => rfl), f_law_same := _, fd_law_same := _, fn_law_same := F4, g_law_same := PySem.W.mg_of X G a4, bd_law_same := F4.binds (fun _ _ _ _ _ _ us hl => match us, hl with | [_, _], _ => rfl), f_is_name := _, fd_is_name := _, fn_is_name := F5, g_is_name := PySem.W.mg_of X G a5, bd_is_name := F5.binds (fun _ _ _ _ _ _ us hl => match us, hl with | [_], _ => rfl), f_is_plain := _, fd_is_plain := _, fn_is_plain := F6, g_is_plain := PySem.W.mg_of X G a6, bd_is_plain := F6.binds (fun _ _ _ _ _ _ us hl => match us, hl with | [_], _ => rfl), f_is_integer_value := _, fd_is_integer_value := _, fn_is_integer_value := F7, g_is_integer_value := PySem.W.mg_of X G a7, bd_is_integer_value := F7.binds (fun _ _ _ _ _ _ us hl => match us, hl with | [_], _ => rfl), f_is_end := _, fd_is_end := _, fn_is_end := F8, g_is_end := PySem.W.mg_of X G a8, bd_is_end := F8.binds (fun _ _ _ _ _ _ us hl => match us, hl with | [_], _ => rfl), f_are_places := _, fd_are_places := _, fn_are_places := F9, g_are_places := PySem.W.mg_of X G a9, bd_are_places := F9.binds (fun _ _ _ _ _ _ us hl => match us, hl with | [_, _], _ => rfl), f_is_pair := _, fd_is_pair := _, fn_is_pair := F10, g_is_pair := PySem.W.mg_of X G a10, bd_is_pair := F10.binds (fun _ _ _ _ _ _ us hl => match us, hl with | [_], _ => rfl), f_allows := _, fd_allows := _, fn_allows := F11, g_allows := PySem.W.mg_of X G a11, bd_allows := F11.binds (fun _ _ _ _ _ _ us hl => match us, hl with | [_, _], _ => rfl), f_is_part := _, fd_is_part := _, fn_is_part := F12, g_is_part := PySem.W.mg_of X G a12, bd_is_part := F12.binds (fun _ _ _ _ _ _ us hl => match us, hl with | [_], _ => rfl), f_part_text := _, fd_part_text := _, fn_part_text := F13, g_part_text := PySem.W.mg_of X G a13, bd_part_text := F13.binds (fun _ _ _ _ _ _ us hl => match us, hl with | [_], _ => rfl), kb_part_text := kbinds_all (fun us ws hl => match us, ws, hl with | [], [_], _ => rfl | [_], [], _ => rfl), f_strength_of_words := _, fd_strength_of_words := _, fn_strength_of_words := F14, g_strength_of_words := PySem.W.mg_of X G a14, bd_strength_of_words := F14.binds (fun _ _ _ _ _ _ us hl => match us, hl with | [_], _ => rfl), f_read_part := _, fd_read_part := _, fn_read_part := F15, g_read_part := PySem.W.mg_of X G a15, bd_read_part := F15.binds (fun _ _ _ _ _ _ us hl => match us, hl with | [_], _ => rfl), kb_read_part := kbinds_all (fun us ws hl => match us, ws, hl with | [], [_], _ => rfl | [_], [], _ => rfl), f_law_any_strength := _, fd_law_any_strength := _, fn_law_any_strength := F16, g_law_any_strength := PySem.W.mg_of X G a16, bd_law_any_strength := F16.binds (fun _ _ _ _ _ _ us hl => match us, hl with | [_, _], _ => rfl), f_law_some_part := _, fd_law_some_part := _, fn_law_some_part := F17, g_law_some_part := PySem.W.mg_of X G a17, bd_law_some_part := F17.binds (fun _ _ _ _ _ _ us hl => match us, hl with | [_, _, _], _ => rfl), f_law_part_text := _, fd_law_part_text := _, fn_law_part_text := F18, g_law_part_text := PySem.W.mg_of X G a18, bd_law_part_text := F18.binds (fun _ _ _ _ _ _ us hl => match us, hl with | [_], _ => rfl), f_law_part_names := _, fd_law_part_names := _, fn_law_part_names := F19, g_law_part_names := PySem.W.mg_of X G a19, bd_law_part_names := F19.binds (fun _ _ _ _ _ _ us hl => match us, hl with | [_], _ => rfl), f_law_place_names := _, fd_law_place_names := _, fn_law_place_names := F20, g_law_place_names := PySem.W.mg_of X G a20, bd_law_place_names := F20.binds (fun _ _ _ _ _ _ us hl => match us, hl with | [_], _ => rfl), f_law := _, fd_law := _, fn_law := F21, g_law := PySem.W.mg_of X G a21, bd_law := F21.binds (fun _ _ _ _ _ _ us hl => match us, hl with | [_], _ => rfl), b_int := PySem.W.mg_none_of X G z_int, b_list := PySem.W.mg_none_of X G z_list, b_len := PySem.W.mg_none_of X G z_len, b_range := PySem.W.mg_none_of X G z_range, b_isinstance := PySem.W.mg_none_of X G z_isinstance, b_tuple := PySem.W.mg_none_of X G z_tuple, b_zip := PySem.W.mg_none_of X G z_zip, b_all := PySem.W.mg_none_of X G z_all, b_bool := PySem.W.mg_none_of X G z_bool, b_str := PySem.W.mg_none_of X G z_str, c_SMALL := ⟨_, PySem.W.mg_of X G y_SMALL, ⟨_, rfl⟩⟩, c_GROUND := ⟨_, PySem.W.mg_of X G y_GROUND, ⟨_, rfl⟩⟩, c_SIZES := ⟨_, PySem.W.mg_of X G y_SIZES, kd_all yl_SIZES yk_SIZES (by intro q hq; simp only [List.mem_cons, List.not_mem_nil, or_false] at hq; rcases hq with rfl | rfl | rfl | rfl | rfl; exact ⟨_, ye0_SIZES⟩; exact ⟨_, ye1_SIZES⟩; exact ⟨_, ye2_SIZES⟩; exact ⟨_, ye3_SIZES⟩; exact ⟨_, ye4_SIZES⟩)⟩, c_MOST := ⟨_, PySem.W.mg_of X G y_MOST, ⟨_, rfl⟩⟩, c_KINDS := ⟨_, PySem.W.mg_of X G y_KINDS, ⟨_, _, _, yl_KINDS, rfl, rfl, (by show (5 : Nat) ≤ sizeLine; decide), (by repeat (first | exact .nil | refine .cons ⟨_, rfl⟩ ?_))⟩⟩ }, rfl, fun s u => .of_eq rfl⟩
end Pu
open PySem PySem.W PyProof.Rows in
set_option maxRecDepth 100000 in
set_option maxHeartbeats 0 in
theorem PySem.Challenge.cw_partswing_k27_texts_of_parts_holds : PySem.Challenge.rw_partswing_k27_texts_of_parts.Holds := by
  w_on; o_law; k_head; (case hw => w_witness2)
  k_fill
  refine L2.walk_ofB (n := 63) (k := 40) (x := "_law_script") (CX := fun w => L2.CX (PySem.Challenge.rw_partswing_k27_texts_of_parts).prog w) (sp := fun w => Pu.spLaw _) rfl (by decide) rfl ⟨rfl, by decide, by decide⟩ (fun w h Y => PySem.W.kIn_of Y) ?F (fun _ _ a ns hl _ _ hS => ⟨a, ns, rfl, hS, fun _ => rfl⟩) (fun w H s e s' z => Pu.hd_law H s e s' z)
  case F =>
    intro w mg fa h KX G hmg
    obtain ⟨T, e, hb⟩ : ∃ T : Pu.Txt w _ mg, T.f_law = fa ∧ ∀ (s : Shared) (u : Value), BindsTo s T.fd_law ⟨[u], []⟩ [("_law_script", u)] := by
      refine' Pu.txt_mk KX G hmg ?a0 ?l0 ?c0 ?k0 ?a1 ?l1 ?c1 ?k1 ?a2 ?l2 ?c2 ?k2 ?a3 ?l3 ?c3 ?k3 ?a4 ?l4 ?c4 ?k4 ?a5 ?l5 ?c5 ?k5 ?a6 ?l6 ?c6 ?k6 ?a7 ?l7 ?c7 ?k7 ?a8 ?l8 ?c8 ?k8 ?a9 ?l9 ?c9 ?k9 ?a10 ?l10 ?c10 ?k10 ?a11 ?l11 ?c11 ?k11 ?a12 ?l12 ?c12 ?k12 ?a13 ?l13 ?c13 ?k13 ?a14 ?l14 ?c14 ?k14 ?a15 ?l15 ?c15 ?k15 ?a16 ?l16 ?c16 ?k16 ?a17 ?l17 ?c17 ?k17 ?a18 ?l18 ?c18 ?k18 ?a19 ?l19 ?c19 ?k19 ?a20 ?l20 ?c20 ?k20 ?a21 ?l21 ?c21 ?k21 ?z_int ?z_list ?z_len ?z_range ?z_isinstance ?z_tuple ?z_zip ?z_all ?z_bool ?z_str ?y_SMALL ?y_GROUND ?y_SIZES ?yl_SIZES ?yk_SIZES ?ye0_SIZES ?ye1_SIZES ?ye2_SIZES ?ye3_SIZES ?ye4_SIZES ?y_MOST ?y_KINDS ?yl_KINDS
      (case a0 => k_is)
      (case l0 => k_is)
      (case c0 => k_is)
      (case k0 => k_is)
      (case a1 => k_is)
      (case l1 => k_is)
      (case c1 => k_is)
      (case k1 => k_is)
      (case a2 => k_is)
      (case l2 => k_is)
      (case c2 => k_is)
      (case k2 => k_is)
      (case a3 => k_is)
      (case l3 => k_is)
      (case c3 => k_is)
      (case k3 => k_is)
      (case a4 => k_is)
      (case l4 => k_is)
      (case c4 => k_is)
      (case k4 => k_is)
      (case a5 => k_is)
      (case l5 => k_is)
      (case c5 => k_is)
      (case k5 => k_is)
      (case a6 => k_is)
      (case l6 => k_is)
      (case c6 => k_is)
      (case k6 => k_is)
      (case a7 => k_is)
      (case l7 => k_is)
      (case c7 => k_is)
      (case k7 => k_is)
      (case a8 => k_is)
      (case l8 => k_is)
      (case c8 => k_is)
      (case k8 => k_is)
      (case a9 => k_is)
      (case l9 => k_is)
      (case c9 => k_is)
      (case k9 => k_is)
      (case a10 => k_is)
      (case l10 => k_is)
      (case c10 => k_is)
      (case k10 => k_is)
      (case a11 => k_is)
      (case l11 => k_is)
      (case c11 => k_is)
      (case k11 => k_is)
      (case a12 => k_is)
      (case l12 => k_is)
      (case c12 => k_is)
      (case k12 => k_is)
      (case a13 => k_is)
      (case l13 => k_is)
      (case c13 => k_is)
      (case k13 => k_is)
      (case a14 => k_is)
      (case l14 => k_is)
      (case c14 => k_is)
      (case k14 => k_is)
      (case a15 => k_is)
      (case l15 => k_is)
      (case c15 => k_is)
      (case k15 => k_is)
      (case a16 => k_is)
      (case l16 => k_is)
      (case c16 => k_is)
      (case k16 => k_is)
      (case a17 => k_is)
      (case l17 => k_is)
      (case c17 => k_is)
      (case k17 => k_is)
      (case a18 => k_is)
      (case l18 => k_is)
      (case c18 => k_is)
      (case k18 => k_is)
      (case a19 => k_is)
      (case l19 => k_is)
      (case c19 => k_is)
      (case k19 => k_is)
      (case a20 => k_is)
      (case l20 => k_is)
      (case c20 => k_is)
      (case k20 => k_is)
      (case a21 => k_is)
      (case l21 => k_is)
      (case c21 => k_is)
      (case k21 => k_is)
      (case z_int => k_is)
      (case z_list => k_is)
      (case z_len => k_is)
      (case z_range => k_is)
      (case z_isinstance => k_is)
      (case z_tuple => k_is)
      (case z_zip => k_is)
      (case z_all => k_is)
      (case z_bool => k_is)
      (case z_str => k_is)
      (case y_SMALL => k_is)
      (case y_GROUND => k_is)
      (case y_SIZES => k_is)
      (case yl_SIZES => k_is)
      (case yk_SIZES => repeat (first | exact trivial | refine ⟨⟨_, _, rfl, rfl⟩, ?_⟩))
      (case ye0_SIZES => k_is)
      (case ye1_SIZES => k_is)
      (case ye2_SIZES => k_is)
      (case ye3_SIZES => k_is)
      (case ye4_SIZES => k_is)
      (case y_MOST => k_is)
      (case y_KINDS => k_is)
      (case yl_KINDS => k_is)
    subst e
    exact ⟨T.fd_law, hb, fun base _ _ => Pu.all_ok T⟩
#print axioms PySem.Challenge.cw_partswing_k27_texts_of_parts_holds
