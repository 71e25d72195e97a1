import PyProof.Rows.All
import Wide.All
import OpenK.AllK
import Wide.FinOn
import HandS.ForMost
import HandS.Exc
import HandS.TryOnly
import HandS.ExcOwn
import HandS.WordsExc
import HandS.CallSlots
import HandS.IsInst
import HandS.Wide
import HandS.EndBits
import HandS.Zip
import HandS.Conv
import HandS.ExcField
import HandS.ExcIs
import HandS.Lambda
import KE.KDflt
import HandS.TupAny
import HandS.Walk
import HandS.Codes
import PyProof.ListStr
import HandS.More
import HandS.Defaults
import HandS.MakeKw
import KE.KOpsOwn
import KE.KExcMake
import KE.KExcSuper
import HandS.ExcInit
import HandS.ExcSuper
import HandS.Nested
import KE.KTryMore
import HandS.ExcValue
import HandS.HotCalls
import KE.KExcIs
import HandS.EndTab
import KE.KNestM
import HandS.FStr
import HandS.MakeKwOnly
import KE.KCallOwn
import HandS.ClsMeth
import HandS.Star
import HandS.DictComp
import KE.SortData
import HandS.TupLen
import HandS.Property
import PyProof.InstSpecial
import KE.KEqNest
import PySem.Challenge.RW_partswing_k37_readings_added
set_option Elab.async false
set_option linter.all false
set_option maxRecDepth 100000
/-! The pure layer: what a piece of the text does, told over plain data (D) in place of the heap. -/
namespace Pu
open PySem L2

/-! ### plain data and how the heap bears it -/
/-- a lambda's text -/
structure Lam where
  q : Str
  params : Arguments
  body : Expr
  scope : Scope
  cl : List (Str × Addr)
inductive D where
  | non | bl (b : Bool) | int (i : Int) | str (s : Str)
  | lst (l : List D) | tup (l : List D) | bag
  | ins (c : Str) (fs : List (Str × D))
  | dk (kvs : List (Key × D)) | dt (kvs : List (List Key × D))
  | exc (c : Str) (fs : List (Str × D)) | fn (l : Lam) (cs : List (Str × D)) | typ (c : Str)

/-- what of the text a class of the program has -/
structure CI (K : PySem.W.Frag) (C : Addr) : Prop where
  cl : Cls K C
  ha : PySem.W.findIn K (.ref C) "__class__" = some (some (.builtin "object.__class__"))
  hn : PySem.W.specialIn K (.builtin "object.__class__") "__get__" = some (some (.builtin "getset_descriptor.__get__"))
  htk : PySem.W.takesIn K (.builtin "object.__class__") = some true
  hm : PySem.W.mroIn K C (.type "object") = some true
  kc : ((PySem.W.clsIn K C).isSome && PySem.W.typeIn K (.ref C) == some (.type "type")) = true
  bt : ∀ T ∈ (["int", "str", "bool", "list", "tuple", "dict"] : List String), PySem.W.mroIn K C (.type T) = some false
/-- what the text says of an own exception class and its instances' fields -/
structure XC (K : PySem.W.Frag) (C : Addr) (ns : List Str) : Prop where
  f : XfC K C
  e : ExcC K C
  na : ∀ n ∈ ns, PySem.W.findIn K (.ref C) n = some none
/-- the object at a is o -/
def xO (a : Addr) (o : Obj) : HO := .ext fun h => h.get? a = some o
/-- a lambda's object -/
abbrev lamO (l : Lam) (dV doc pm : Value) (c' : Addr) (ctv : Value) : Obj := PySem.W.kdv_obj "<lambda>" l.q l.params (.expr l.body) l.scope l.cl dV doc pm c' ctv
/-- its defaults: none, or one, zero -/
def DfAt (G : Hp) (l : Lam) (dV : Value) : Prop := (l.params.defaults = [] ∧ dV = .none) ∨ ∃ (t : Addr) (u : Value), dV = .ref t ∧ RelV (.int 0) u ∧ l.params.defaults.length = 1 ∧ G t = some (.frz (PySem.W.kdv_tup [u]) (xO t (PySem.W.kdv_tup [u])))
/-- at f: a lambda of the text l, made; its cells hold cv -/
def LamAt (G : Hp) (f : Addr) (l : Lam) (cv : List (Str × V)) : Prop :=
  ∃ (pm doc dV : Value) (c' : Addr) (ctv : Value) (o : Obj), o = lamO l dV doc pm c' ctv ∧ G f = some (.frz o (xO f o)) ∧ G c' = some (LamX.CodeO c' l.q) ∧ (∀ x y c, l.cl.lookup x = some c → l.cl.lookup y = some c → x = y) ∧ DfAt G l dV ∧
    ∀ p ∈ cv, ∃ (c : Addr) (oc : Obj) (u : Value), l.cl.lookup p.1 = some c ∧ G c = some (.frz oc (xO c oc)) ∧ oc.data = .cell (some u) ∧ RelV p.2 u
structure Wd where
  K : PySem.W.Frag
  mg : Str → Option Value
  b : Option Addr

mutual
inductive Rep (w : Wd) (G : Hp) : V → D → Prop
  | non : Rep w G .non .non
  | bl {k} : Rep w G (.bl k) (.bl k)
  | int {i} : Rep w G (.int i) (.int i)
  | str {s} : Rep w G (.str s) (.str s)
  | lst {a vs ds} : G a = some (.lst vs) → Reps w G vs ds → Rep w G (.ref a) (.lst ds)
  | tup {a vs ds} : G a = some (.tup vs) → Reps w G vs ds → Rep w G (.ref a) (.tup ds)
  | bag {a} : w.b = some a → Rep w G (.ref a) .bag
  | ins {c C a dx fv fs} : w.mg c = some (.ref C) → CI w.K C → G a = some (.ins C dx fv) → RepF w G fv fs → Rep w G (.ref a) (.ins c fs)
  | dk {a kvs ds o} : G a = some (.frz o (.dK kvs)) → RepK w G kvs ds → Rep w G (.ref a) (.dk ds)
  | dt {a kvs ds o} : G a = some (.frz o (.dT kvs)) → RepT w G kvs ds → Rep w G (.ref a) (.dt ds)
  | exc {c C a d oe fv fs} : w.mg c = some (.ref C) → XC w.K C (fv.map (·.1)) → G a = some (.frz oe (xO a oe)) → Zc (.ref C) (some d) oe → (∃ vs, oe.data = .fields vs) → G d = some (.xd fv) → RepF w G fv fs → Rep w G (.ref a) (.exc c fs)
  | fn {f l cv cs} : LamAt G f l cv → RepF w G cv cs → Rep w G (.ref f) (.fn l cs)
  | typ {c C} : w.mg c = some (.ref C) → Rep w G (.ref C) (.typ c)
inductive Reps (w : Wd) (G : Hp) : List V → List D → Prop
  | nil : Reps w G [] []
  | cons {v d vs ds} : Rep w G v d → Reps w G vs ds → Reps w G (v :: vs) (d :: ds)
inductive RepF (w : Wd) (G : Hp) : List (Str × V) → List (Str × D) → Prop
  | nil : RepF w G [] []
  | cons {x v d vs ds} : Rep w G v d → RepF w G vs ds → RepF w G ((x, v) :: vs) ((x, d) :: ds)
inductive RepK (w : Wd) (G : Hp) : List (Key × V) → List (Key × D) → Prop
  | nil : RepK w G [] []
  | cons {x v d vs ds} : Rep w G v d → RepK w G vs ds → RepK w G ((x, v) :: vs) ((x, d) :: ds)
inductive RepT (w : Wd) (G : Hp) : List (List Key × V) → List (List Key × D) → Prop
  | nil : RepT w G [] []
  | cons {x v d vs ds} : Rep w G v d → RepT w G vs ds → RepT w G ((x, v) :: vs) ((x, d) :: ds)
end

def Ex (H H' : Hp) : Prop := ∀ a o, H a = some o → H' a = some o
theorem Ex.refl (H : Hp) : Ex H H := fun _ _ h => h
theorem Ex.trans {H H1 H2 : Hp} (a : Ex H H1) (b : Ex H1 H2) : Ex H H2 := fun x o h => b x o (a x o h)
theorem Ex.rd {H H' : Hp} {a : Addr} {u : HO} (e : Ex H H') (h : Rd H a u) : Rd H' a u := by
  rcases h with h | ⟨o, h⟩
  · exact Or.inl (e a _ h)
  · exact Or.inr ⟨o, e a _ h⟩
theorem Ex.l {K : PySem.W.Frag} {H H' : Hp} {a : Addr} {xs : List V} (e : Ex H H') (h : SqL K H a xs) : SqL K H' a xs := by
  rcases h with h | h
  · exact Or.inl (e.rd h)
  · exact Or.inr h
theorem Ex.t {K : PySem.W.Frag} {H H' : Hp} {a : Addr} {xs : List V} (e : Ex H H') (h : SqT K H a xs) : SqT K H' a xs := by
  rcases h with h | h
  · exact Or.inl (e.rd h)
  · exact Or.inr h
theorem Ex.tt {K : PySem.W.Frag} {H H' : Hp} {a : Addr} {xs : List V} (e : Ex H H') (h : H a = some (.tup xs)) : SqT K H' a xs := .inl (.inl (e _ _ h))
theorem Ex.back {H H' : Hp} {p : Addr} (e : Ex H H') (h : H' p = none) : H p = none := by
  cases h1 : H p with
  | none => rfl
  | some o =>
    rw [e p o h1] at h
    cases h

theorem DfAt.mono {G G' : Hp} {l : Lam} {dV : Value} (e : Ex G G') (h : DfAt G l dV) : DfAt G' l dV := by
  rcases h with h | ⟨t, u, h1, h2, h3, h4⟩
  · exact .inl h
  · exact .inr ⟨t, u, h1, h2, h3, e _ _ h4⟩
theorem LamAt.mono {G G' : Hp} {f : Addr} {l : Lam} {cv : List (Str × V)} (e : Ex G G') (h : LamAt G f l cv) : LamAt G' f l cv := by
  obtain ⟨pm, doc, dV, c', ctv, o, h1, h2, h3, hi, hd, h4⟩ := h
  exact ⟨pm, doc, dV, c', ctv, o, h1, e _ _ h2, e _ _ h3, hi, hd.mono e, fun p hp => by
    obtain ⟨c, oc, u, a1, a2, a3⟩ := h4 p hp
    exact ⟨c, oc, u, a1, e _ _ a2, a3⟩⟩
mutual
theorem Rep.mono {w : Wd} {G G' : Hp} (e : Ex G G') : ∀ {v : V} {d : D}, Rep w G v d → Rep w G' v d
  | _, _, .non => .non
  | _, _, .bl => .bl
  | _, _, .int => .int
  | _, _, .str => .str
  | _, _, .lst h r => .lst (e _ _ h) (Reps.mono e r)
  | _, _, .tup h r => .tup (e _ _ h) (Reps.mono e r)
  | _, _, .bag h => .bag h
  | _, _, .ins h1 hc h2 r => .ins h1 hc (e _ _ h2) (RepF.mono e r)
  | _, _, .dk h r => .dk (e _ _ h) (RepK.mono e r)
  | _, _, .dt h r => .dt (e _ _ h) (RepT.mono e r)
  | _, _, .exc h1 h2 h3 h4 h5 h6 r => .exc h1 h2 (e _ _ h3) h4 h5 (e _ _ h6) (RepF.mono e r)
  | _, _, .fn h r => .fn (LamAt.mono e h) (RepF.mono e r)
  | _, _, .typ h => .typ h
theorem Reps.mono {w : Wd} {G G' : Hp} (e : Ex G G') : ∀ {v : List V} {d : List D}, Reps w G v d → Reps w G' v d
  | _, _, .nil => .nil
  | _, _, .cons h r => .cons (Rep.mono e h) (Reps.mono e r)
theorem RepF.mono {w : Wd} {G G' : Hp} (e : Ex G G') : ∀ {v : List (Str × V)} {d : List (Str × D)}, RepF w G v d → RepF w G' v d
  | _, _, .nil => .nil
  | _, _, .cons h r => .cons (Rep.mono e h) (RepF.mono e r)
theorem RepK.mono {w : Wd} {G G' : Hp} (e : Ex G G') : ∀ {v : List (Key × V)} {d : List (Key × D)}, RepK w G v d → RepK w G' v d
  | _, _, .nil => .nil
  | _, _, .cons h r => .cons (Rep.mono e h) (RepK.mono e r)
theorem RepT.mono {w : Wd} {G G' : Hp} (e : Ex G G') : ∀ {v : List (List Key × V)} {d : List (List Key × D)}, RepT w G v d → RepT w G' v d
  | _, _, .nil => .nil
  | _, _, .cons h r => .cons (Rep.mono e h) (RepT.mono e r)
end
theorem RepF.get {w : Wd} {G : Hp} : ∀ {vs : List (Str × V)} {ds : List (Str × D)} {x : Str} {d : D}, RepF w G vs ds → ds.lookup x = some d → ∃ v, vs.lookup x = some v ∧ Rep w G v d
  | _, _, x, d, .nil, h => by cases h
  | _, _, x, d, @RepF.cons _ _ y v e vs ds r t, h => by
    rw [List.lookup_cons] at h ⊢
    cases q : x == y with
    | true =>
      rw [q] at h
      cases h
      exact ⟨v, rfl, r⟩
    | false =>
      rw [q] at h
      exact t.get h
theorem RepF.none {w : Wd} {G : Hp} : ∀ {vs : List (Str × V)} {ds : List (Str × D)} {x : Str}, RepF w G vs ds → ds.lookup x = none → vs.lookup x = none
  | _, _, x, .nil, h => rfl
  | _, _, x, @RepF.cons _ _ y v e vs ds r t, h => by
    rw [List.lookup_cons] at h ⊢
    cases q : x == y with
    | true => rw [q] at h; cases h
    | false => rw [q] at h; exact t.none h
theorem RepF.length {w : Wd} {G : Hp} : ∀ {vs : List (Str × V)} {ds : List (Str × D)}, RepF w G vs ds → vs.length = ds.length
  | _, _, .nil => rfl
  | _, _, .cons _ r => congrArg Nat.succ r.length
theorem RepK.length {w : Wd} {G : Hp} : ∀ {vs : List (Key × V)} {ds : List (Key × D)}, RepK w G vs ds → vs.length = ds.length
  | _, _, .nil => rfl
  | _, _, .cons _ r => congrArg Nat.succ r.length
theorem RepT.length {w : Wd} {G : Hp} : ∀ {vs : List (List Key × V)} {ds : List (List Key × D)}, RepT w G vs ds → vs.length = ds.length
  | _, _, .nil => rfl
  | _, _, .cons _ r => congrArg Nat.succ r.length
/-! ### objects of a frame's own -/
inductive OD where
  | lst (l : List D)
  | ins (c : Str) (fs : List (Str × D))
  | dk (kvs : List (Key × D)) | dt (kvs : List (List Key × D))
def OD.toD : OD → D
  | .lst l => .lst l
  | .ins c fs => .ins c fs
  | .dk k => .dk k
  | .dt k => .dt k
def OD.isDct : OD → Bool
  | .dk _ => true
  | .dt _ => true
  | _ => false
def OD.isIns : OD → Bool
  | .ins _ _ => true
  | _ => false
inductive RepO (w : Wd) (G : Hp) : HO → OD → Prop
  | lst {vs l} : Reps w G vs l → RepO w G (.lst vs) (.lst l)
  | ins {c C dx fv fs} : w.mg c = some (.ref C) → CI w.K C → RepF w G fv fs → RepO w G (.ins C dx fv) (.ins c fs)
  | dk {vs l} : RepK w G vs l → RepO w G (.dK vs) (.dk l)
  | dt {vs l} : RepT w G vs l → RepO w G (.dT vs) (.dt l)
theorem RepO.mono {w : Wd} {G G' : Hp} {h : HO} {o : OD} (e : Ex G G') (r : RepO w G h o) : RepO w G' h o := by
  cases r with
  | lst r => exact .lst (r.mono e)
  | ins h hc r => exact .ins h hc (r.mono e)
  | dk r => exact .dk (r.mono e)
  | dt r => exact .dt (r.mono e)
theorem RepO.rep {w : Wd} {G : Hp} {h : HO} {o : OD} {a : Addr} (r : RepO w G h o) (ha : G a = some h) (hd : o.isDct = false) : Rep w G (.ref a) o.toD := by
  cases r with
  | lst r => exact .lst ha r
  | ins h hc r => exact .ins h hc ha r
  | dk r => cases hd
  | dt r => cases hd
theorem Reps.length {w : Wd} {G : Hp} : ∀ {vs : List V} {ds : List D}, Reps w G vs ds → vs.length = ds.length
  | _, _, .nil => rfl
  | _, _, .cons _ r => congrArg Nat.succ r.length
theorem Reps.get {w : Wd} {G : Hp} : ∀ {vs : List V} {ds : List D} {i : Nat} {v : V}, Reps w G vs ds → vs[i]? = some v → ∃ d, ds[i]? = some d ∧ Rep w G v d
  | _, _, i, v, .nil, h => by simp at h
  | _, _, 0, v, .cons r _, h => by
    simp at h
    subst h
    exact ⟨_, rfl, r⟩
  | _, _, i + 1, v, .cons _ r, h => by
    simp at h
    simpa using r.get h
theorem Reps.getD {w : Wd} {G : Hp} : ∀ {vs : List V} {ds : List D} {i : Nat} {d : D}, Reps w G vs ds → ds[i]? = some d → ∃ v, vs[i]? = some v ∧ Rep w G v d
  | _, _, i, v, .nil, h => by simp at h
  | _, _, 0, v, .cons r _, h => by
    simp at h
    subst h
    exact ⟨_, rfl, r⟩
  | _, _, i + 1, v, .cons _ r, h => by
    simp at h
    simpa using r.getD h
theorem Reps.append {w : Wd} {G : Hp} : ∀ {vs us : List V} {ds es : List D}, Reps w G vs ds → Reps w G us es → Reps w G (vs ++ us) (ds ++ es)
  | _, _, _, _, .nil, h => h
  | _, _, _, _, .cons r t, h => .cons r (t.append h)
theorem Reps.ints {w : Wd} {G : Hp} : ∀ (ns : List Int), Reps w G (ns.map V.int) (ns.map D.int)
  | [] => .nil
  | _ :: r => .cons .int (Reps.ints r)

/-! ### the drawing bag: a list of five, its cells' list stands -/
structure Bag (K : PySem.W.Frag) (G H : Hp) (b : Addr) : Prop where
  ex : ∃ (c : Addr) (ns : List Int) (i r m n : Int), H b = some (.lst [.ref c, .int i, .int r, .int m, .int n]) ∧ SqL K G c (ns.map V.int) ∧ 0 ≤ i ∧ 0 ≤ r ∧ 0 ≤ m ∧ m < 2147483648

/-- what stands behind a piece of a run: G the settled part of the heap, H the heap -/
structure Post (w : Wd) (G H G' H' : Hp) : Prop where
  ex : Ex G G'
  exG : Ex G' H'
  keep : ∀ a o, w.b ≠ some a → H a = some o → H' a = some o
  new : ∀ a, G' a ≠ none → G a ≠ none ∨ H a = none ∨ ∃ ts, H a = some (.tup ts)
  bag : ∀ β, w.b = some β → G' β = none ∧ H' β ≠ none ∧ Bag w.K G' H' β
structure Pre (w : Wd) (G H : Hp) : Prop where
  exG : Ex G H
  bag : ∀ β, w.b = some β → G β = none ∧ H β ≠ none ∧ Bag w.K G H β
theorem Bag.mono {K : PySem.W.Frag} {G G' H H' : Hp} {b : Addr} (h : Bag K G H b) (e : Ex G G') (k : H' b = H b) : Bag K G' H' b := by
  obtain ⟨c, ns, i, r, m, n, h1, h2, h3⟩ := h.ex
  exact ⟨c, ns, i, r, m, n, by rw [k]; exact h1, e.l h2, h3⟩
theorem Post.refl {w : Wd} {G H : Hp} (p : Pre w G H) : Post w G H G H := ⟨Ex.refl _, p.exG, fun _ _ _ h => h, fun _ h => .inl h, p.bag⟩
theorem Post.pre {w : Wd} {G H G' H' : Hp} (p : Post w G H G' H') : Pre w G' H' := ⟨p.exG, p.bag⟩
theorem Post.trans {w : Wd} {G H G1 H1 G2 H2 : Hp} (p : Post w G H G1 H1) (q : Post w G1 H1 G2 H2) : Post w G H G2 H2 := by
  refine ⟨p.ex.trans q.ex, q.exG, fun a o n h => q.keep a o n (p.keep a o n h), fun a h => ?_, q.bag⟩
  rcases q.new a h with h1 | h1 | ⟨ts, h1⟩
  · exact p.new a h1
  · refine .inr (.inl ?_)
    cases e : H a with
    | none => rfl
    | some o =>
      by_cases hb : w.b = some a
      · exact absurd h1 (p.bag a hb).2.1
      · rw [p.keep a o hb e] at h1
        cases h1
  · cases e : H a with
    | none => exact .inr (.inl rfl)
    | some o =>
      by_cases hb : w.b = some a
      · obtain ⟨_, _, _, _, _, _, h2, _⟩ := (p.bag a hb).2.2.ex
        rw [h1] at h2
        cases h2
      · rw [p.keep a o hb e] at h1
        exact .inr (.inr ⟨ts, h1⟩)
theorem Post.new1 {w : Wd} {G H : Hp} {a : Addr} {o : HO} (p : Pre w G H) (hn : H a = none) : Post w G H (upd G a o) (upd H a o) := by
  have gn : G a = none := p.exG.back hn
  have e1 : Ex G (upd G a o) := fun x u h => by
    rw [upd_ne (ne_of_none h gn)]
    exact h
  refine ⟨e1, fun x u h => ?_, fun x u _ h => ?_, fun x h => ?_, fun β hβ => ?_⟩
  · by_cases e : x = a
    · subst e
      rw [upd_same] at h ⊢
      exact h
    · rw [upd_ne e] at h ⊢
      exact p.exG _ _ h
  · rw [upd_ne (ne_of_none h hn)]
    exact h
  · by_cases e : x = a
    · exact .inr (.inl (by rw [e]; exact hn))
    · rw [upd_ne e] at h
      exact .inl h
  · obtain ⟨h1, h2, h3⟩ := p.bag β hβ
    have ne : β ≠ a := fun e => by
      subst e
      exact h2 hn
    refine ⟨by rw [upd_ne ne]; exact h1, by rw [upd_ne ne]; exact h2, h3.mono e1 (by rw [upd_ne ne])⟩

/-! ### the frame: its slots as data -/
inductive Sl where
  | no | v (d : D) | ol (l : OD) | fz (d : D)
abbrev En := List Sl
structure Fc where
  wd : Wd
  G0 : Hp
  H0 : Hp
  pins : List (Addr × HO) := []
  self : Addr := 0
  tabs : List (Addr × Str) := []
/-- slot i holds s at σ; own: a list of the frame's own, at a -/
def SlOk (F : Fc) (G H : Hp) (s : Sl) (x : Option (Option V)) : Prop := match s with
  | .no => True
  | .v d => ∃ v, x = some (some v) ∧ Rep F.wd G v d
  | .ol l => ∃ a h, x = some (some (.ref a)) ∧ F.H0 a = none ∧ G a = none ∧ H a = some h ∧ RepO F.wd G h l ∧ (l.isIns = true → a = F.self)
  | .fz d => x = some (some (.ref F.self)) ∧ Rep F.wd G (.ref F.self) d
/-- the tables of code objects; the codes that they tell are settled -/
def TabG (T : List (Addr × Str)) (G H : Hp) : Prop := ∀ p ∈ T, G p.1 = none ∧ ∃ ps : Array Value, H p.1 = some (.tbl ps) ∧ TriplesOk ps.toList ∧ ∀ (pos : Pos) (cv : Value), codeAmong pos ps.toList = some cv → ∃ c, cv = .ref c ∧ G c = some (LamX.CodeO c p.2)
theorem TabG.tabs {T : List (Addr × Str)} {G H : Hp} (t : TabG T G H) (e : Ex G H) : LamX.Tabs T H := fun p hp => by
  obtain ⟨_, ps, e1, e2, e3⟩ := t p hp
  exact ⟨ps, e1, e2, fun pos cv hc => by
    obtain ⟨c, f1, f2⟩ := e3 pos cv hc
    exact ⟨c, f1, e _ _ f2⟩⟩
theorem TabG.settle {T : List (Addr × Str)} {G H : Hp} {a : Addr} {o : HO} (t : TabG T G H) (ha : H a = some o) (h1 : ∀ ps, o ≠ .tbl ps) (e : Ex G (upd G a o)) : TabG T (upd G a o) H := fun p hp => by
  obtain ⟨n, ps, e1, e2, e3⟩ := t p hp
  have ne : p.1 ≠ a := fun z => by
    rw [z, ha] at e1
    exact h1 ps (Option.some.inj e1)
  exact ⟨by rw [upd_ne ne]; exact n, ps, e1, e2, fun pos cv hc => by
    obtain ⟨c, f1, f2⟩ := e3 pos cv hc
    exact ⟨c, f1, e _ _ f2⟩⟩
theorem tabs_upd {T : List (Addr × Str)} {G H : Hp} {a : Addr} {o o' : HO} (t : TabG T G H) (ha : H a = some o) (h1 : ∀ ps, o ≠ .tbl ps) : TabG T G (upd H a o') := fun p hp => by
  obtain ⟨n, ps, e1, e2, e3⟩ := t p hp
  have ne : p.1 ≠ a := fun z => by
    rw [z, ha] at e1
    exact h1 ps (Option.some.inj e1)
  exact ⟨n, ps, by rw [upd_ne ne]; exact e1, e2, e3⟩
theorem tabs_new {T : List (Addr × Str)} {G H : Hp} {a : Addr} {o : HO} (t : TabG T G H) (hn : H a = none) : TabG T G (upd H a o) := fun p hp => by
  obtain ⟨n, ps, e1, e2, e3⟩ := t p hp
  exact ⟨n, ps, by rw [upd_ne (ne_of_none e1 hn)]; exact e1, e2, e3⟩
theorem tabs_nil {G H : Hp} : TabG [] G H := fun p hp => by cases hp
theorem lst_codeO {xs : List V} (c : Addr) (q : Str) : HO.lst xs ≠ LamX.CodeO c q := fun z => by
  unfold LamX.CodeO at z
  cases z
theorem repO_tab {w : Wd} {G : Hp} {h : HO} {o : OD} (r : RepO w G h o) : (∀ ps, h ≠ .tbl ps) ∧ ∀ c q, h ≠ LamX.CodeO c q := by
  cases r <;> exact ⟨(fun ps z => nomatch z), (fun c q z => by unfold LamX.CodeO at z; cases z)⟩
theorem tabs_post {w : Wd} {G H G' H' : Hp} {T : List (Addr × Str)} (t : TabG T G H) (b : Pre w G H) (p : Post w G H G' H') : TabG T G' H' := fun q hq => by
  obtain ⟨n, ps, e1, e2, e3⟩ := t q hq
  have nb : w.b ≠ some q.1 := fun z => by
    obtain ⟨_, _, _, _, _, _, h1, _⟩ := (b.bag q.1 z).2.2.ex
    rw [e1] at h1
    cases h1
  refine ⟨?_, ps, p.keep _ _ nb e1, e2, fun pos cv hc => ?_⟩
  · cases e : G' q.1 with
    | none => rfl
    | some o =>
      rcases p.new q.1 (by rw [e]; simp) with z | z | ⟨ts, z⟩
      · exact absurd n z
      · rw [e1] at z
        cases z
      · rw [e1] at z
        cases z
  · obtain ⟨c, f1, f2⟩ := e3 pos cv hc
    exact ⟨c, f1, p.ex _ _ f2⟩
structure SI (F : Fc) (env : En) (σ : L2.St) (G H : Hp) : Prop where
  pre0 : Pre F.wd F.G0 F.H0
  post : Post F.wd F.G0 F.H0 G H
  len : env.length = σ.length
  sl : ∀ (i : Nat) (s : Sl), env[i]? = some s → SlOk F G H s (σ[i]?)
  ap : ∀ (i j : Nat) (l l' : OD) (a : Addr), i ≠ j → env[i]? = some (.ol l) → env[j]? = some (.ol l') → σ[i]? = some (some (.ref a)) → σ[j]? ≠ some (some (.ref a))
  pin : ∀ p ∈ F.pins, H p.1 = some p.2 ∧ G p.1 = none ∧ F.H0 p.1 = none ∧ ∀ (i : Nat) (l : OD), env[i]? = some (.ol l) → σ[i]? ≠ some (some (.ref p.1))
  tab : TabG F.tabs G H
  pt : ∀ p ∈ F.pins, ∀ ts, p.2 ≠ .tup ts
theorem repO_tup {w : Wd} {G : Hp} {h : HO} {o : OD} (r : RepO w G h o) : ∀ ts, h ≠ .tup ts := by
  cases r <;> exact fun ts z => nomatch z
theorem SI.exG {F : Fc} {env : En} {σ : L2.St} {G H : Hp} (h : SI F env σ G H) : Ex G H := h.post.exG
theorem SI.pre {F : Fc} {env : En} {σ : L2.St} {G H : Hp} (h : SI F env σ G H) : Pre F.wd G H := h.post.pre
theorem SI.step {F : Fc} {env : En} {σ : L2.St} {G H G' H' : Hp} (h : SI F env σ G H) (p : Post F.wd G H G' H') : SI F env σ G' H' := by
  have kp : ∀ a o, F.H0 a = none → G a = none → H a = some o → (∀ ts, o ≠ .tup ts) → H' a = some o ∧ G' a = none := fun a o h2 h3 h4 h5 => by
    have nb : F.wd.b ≠ some a := fun z => (h.pre0.bag a z).2.1 h2
    refine ⟨p.keep a _ nb h4, ?_⟩
    cases e : G' a with
    | none => rfl
    | some o =>
      rcases p.new a (by rw [e]; simp) with z | z | ⟨ts, z⟩
      · exact absurd h3 z
      · rw [h4] at z
        cases z
      · rw [h4] at z
        exact absurd (Option.some.inj z) (h5 ts)
  refine ⟨h.pre0, h.post.trans p, h.len, fun i s e => ?_, h.ap, fun q hq => ?_, tabs_post h.tab h.post.pre p, h.pt⟩
  · have q := h.sl i s e
    cases s with
    | no => trivial
    | v d =>
      obtain ⟨v, h1, h2⟩ := q
      exact ⟨v, h1, h2.mono p.ex⟩
    | ol l =>
      obtain ⟨a, vs, h1, h2, h3, h4, h5, h6⟩ := q
      obtain ⟨k1, k2⟩ := kp a _ h2 h3 h4 (repO_tup h5)
      exact ⟨a, vs, h1, h2, k2, k1, h5.mono p.ex, h6⟩
    | fz d =>
      obtain ⟨h1, h2⟩ := q
      exact ⟨h1, h2.mono p.ex⟩
  · obtain ⟨h1, h2, h3, h4⟩ := h.pin q hq
    obtain ⟨k1, k2⟩ := kp _ _ h3 h2 h1 (h.pt q hq)
    exact ⟨k1, k2, h3, h4⟩
/-- an own object that is read as a value: from now on settled -/
def OD.frz : OD → Sl
  | .ins c fs => .fz (.ins c fs)
  | .lst l => .v (.lst l)
  | .dk l => .v (.dk l)
  | .dt l => .v (.dt l)
theorem OD.frz_ne (o : OD) (l : OD) : o.frz ≠ .ol l := by cases o <;> exact fun z => nomatch z
theorem set_ol {env : En} {i j : Nat} {s : Sl} {l : OD} (hs : ∀ l, s ≠ .ol l) (e : (env.set i s)[j]? = some (.ol l)) : i ≠ j ∧ env[j]? = some (.ol l) := by
  have hij : i ≠ j := fun z => by
    subst z
    rw [List.getElem?_set, if_pos rfl] at e
    split at e
    · exact hs l (Option.some.inj e)
    · cases e
  rw [List.getElem?_set_ne hij] at e
  exact ⟨hij, e⟩
theorem SI.set {F : Fc} {env : En} {σ : L2.St} {G H : Hp} {i : Nat} {v : V} {d : D} (h : SI F env σ G H) (r : Rep F.wd G v d) : SI F (env.set i (.v d)) (σ.set i (some v)) G H := by
  have hs : ∀ l, Sl.v d ≠ .ol l := fun l z => nomatch z
  refine ⟨h.pre0, h.post, by rw [List.length_set, List.length_set]; exact h.len, fun j s e => ?_, fun j k l l' a hjk e1 e2 e3 => ?_, fun q hq => ?_, h.tab, h.pt⟩
  · by_cases hij : i = j
    · subst hij
      rw [List.getElem?_set] at e ⊢
      rw [if_pos rfl] at e ⊢
      by_cases hl : i < env.length
      · rw [if_pos hl] at e
        cases e
        rw [if_pos (by rw [← h.len]; exact hl)]
        exact ⟨v, rfl, r⟩
      · rw [if_neg hl] at e
        cases e
    · rw [List.getElem?_set_ne hij] at e ⊢
      exact h.sl j s e
  · obtain ⟨hij, e1⟩ := set_ol hs e1
    obtain ⟨hik, e2⟩ := set_ol hs e2
    rw [List.getElem?_set_ne hij] at e3
    rw [List.getElem?_set_ne hik]
    exact h.ap j k l l' a hjk e1 e2 e3
  · obtain ⟨h1, h2, h3, h4⟩ := h.pin q hq
    refine ⟨h1, h2, h3, fun j l e => ?_⟩
    obtain ⟨hij, e⟩ := set_ol hs e
    rw [List.getElem?_set_ne hij]
    exact h4 j l e
/-- a slot is forgotten -/
theorem SI.forget {F : Fc} {env : En} {σ : L2.St} {G H : Hp} {i : Nat} {x : Option V} (h : SI F env σ G H) : SI F (env.set i .no) (σ.set i x) G H := by
  have hs : ∀ l, Sl.no ≠ .ol l := fun l z => nomatch z
  refine ⟨h.pre0, h.post, by rw [List.length_set, List.length_set]; exact h.len, fun j s e => ?_, fun j k l l' a hjk e1 e2 e3 => ?_, fun q hq => ?_, h.tab, h.pt⟩
  · by_cases hij : i = j
    · subst hij
      rw [List.getElem?_set] at e
      rw [if_pos rfl] at e
      split at e
      · cases e
        trivial
      · cases e
    · rw [List.getElem?_set_ne hij] at e ⊢
      exact h.sl j s e
  · obtain ⟨hij, e1⟩ := set_ol hs e1
    obtain ⟨hik, e2⟩ := set_ol hs e2
    rw [List.getElem?_set_ne hij] at e3
    rw [List.getElem?_set_ne hik]
    exact h.ap j k l l' a hjk e1 e2 e3
  · obtain ⟨h1, h2, h3, h4⟩ := h.pin q hq
    refine ⟨h1, h2, h3, fun j l e => ?_⟩
    obtain ⟨hij, e⟩ := set_ol hs e
    rw [List.getElem?_set_ne hij]
    exact h4 j l e

/-! ### exceptions as data -/
structure DX where
  c : Str
  fs : List (Str × D)
structure RX (w : Wd) (G : Hp) (x : DX) (cls : Value) (d : Option Addr) : Prop where
  ex : ∃ C a fv, cls = .ref C ∧ w.mg x.c = some (.ref C) ∧ d = some a ∧ XC w.K C (fv.map (·.1)) ∧ G a = some (.xd fv) ∧ RepF w G fv x.fs

/-! ### judgements -/
abbrev QX := DX → En → Prop
abbrev WE := En → (D → En → Prop) → QX → Prop
abbrev WT := En → (Bool → En → Prop) → QX → Prop
abbrev WA := En → (List D → En → Prop) → QX → Prop
structure EnD where
  nx : En → Prop
  rt : D → Prop
  ex : QX
  bk : En → Prop := fun _ => False
  ct : En → Prop := fun _ => False
abbrev WS := En → EnD → Prop

/-- the frame makes lambdas: the table of its code object is at P -/
def MakesAt (N : List Str) (qual : Str) (cd : Value) (base : Heap) (mg : Str → Option Value) (P : Addr) (q : Str) : Prop := N.contains ("<lambda>" : Str) = true ∧ q = qual ++ "<lambda>" ∧ ∃ c, cd = .ref c ∧ LamX.TabB base mg c P
def XOk (X : Cx) (F : Fc) : Prop := F.wd.K = X.K ∧ F.wd.mg = X.mg ∧ ∀ P q, MakesAt X.N X.env.qual X.env.code X.base X.mg P q → (P, q) ∈ F.tabs ∧ (∀ p ∈ F.tabs, p.1 = P → p.2 = q) ∧ F.H0 P = none ∧ ∀ p ∈ F.pins, ∀ ps, p.2 ≠ .tbl ps
theorem XOk.k {X : Cx} {F : Fc} (h : XOk X F) : F.wd.K = X.K := h.1
theorem XOk.m {X : Cx} {F : Fc} (h : XOk X F) : F.wd.mg = X.mg := h.2.1
theorem XOk.t {X : Cx} {F : Fc} (h : XOk X F) : ∀ P q, MakesAt X.N X.env.qual X.env.code X.base X.mg P q → (P, q) ∈ F.tabs ∧ (∀ p ∈ F.tabs, p.1 = P → p.2 = q) ∧ F.H0 P = none ∧ ∀ p ∈ F.pins, ∀ ps, p.2 ≠ .tbl ps := h.2.2
theorem XOk.mk' {X : Cx} {F : Fc} (hl : X.N.contains ("<lambda>" : Str) = false) (k : F.wd.K = X.K) (m : F.wd.mg = X.mg) : XOk X F := ⟨k, m, fun P q h => absurd h.1 (by rw [hl]; exact Bool.noConfusion)⟩
theorem XOk.pin {X : Cx} {F : Fc} {a : Addr} {o : HO} (h : XOk X F) (t : ∀ ps, o ≠ .tbl ps) : XOk X { F with pins := (a, o) :: F.pins } := ⟨h.1, h.2.1, fun P q m => by
  obtain ⟨h1, h2, h3, h4⟩ := h.t P q m
  refine ⟨h1, h2, h3, fun p hp => ?_⟩
  rcases List.mem_cons.mp hp with z | z
  · rw [z]
    exact t
  · exact h4 p z⟩
def XK' (F : Fc) (W : WX) (σ : L2.St) (R : QX) : Prop := ∀ x env' cls dct G' H', R x env' → SI F env' σ G' H' → RX F.wd G' x cls dct → W cls dct σ H'
structure PX (X : Cx) (W : WX) (e : Expr) (w : WE) : Prop where
  ex : ∃ t, PE X e t ∧ ∀ (F : Fc) (env : En) (σ : L2.St) (G H : Hp) (P : D → En → Prop) (R : QX) (Q : VK), XOk X F → SI F env σ G H → w env P R →
    (∀ d env' v G' H', P d env' → SI F env' σ G' H' → Ex G G' → Rep F.wd G' v d → Q v H') → XK' F W σ R → t σ H Q
structure PXT (X : Cx) (W : WX) (e : Expr) (w : WT) : Prop where
  ex : ∃ t, PT X e t ∧ ∀ (F : Fc) (env : En) (σ : L2.St) (G H : Hp) (P : Bool → En → Prop) (R : QX) (Q : Bool → Hp → Prop), XOk X F → SI F env σ G H → w env P R →
    (∀ d env' G' H', P d env' → SI F env' σ G' H' → Ex G G' → Q d H') → XK' F W σ R → t σ H Q
/-- for and, or -/
structure PXW (X : Cx) (W : WX) (e : Expr) (w : WT) : Prop where
  ex : ∃ t, PW X e t ∧ ∀ (F : Fc) (env : En) (σ : L2.St) (G H : Hp) (P : Bool → En → Prop) (R : QX) (Q : Bool → Hp → Prop), XOk X F → SI F env σ G H → w env P R →
    (∀ d env' G' H', P d env' → SI F env' σ G' H' → Ex G G' → Q d H') → XK' F W σ R → t σ H Q
structure PXA (X : Cx) (W : WX) (es : List Expr) (w : WA) : Prop where
  ex : ∃ t, PA X es t ∧ ∀ (F : Fc) (env : En) (σ : L2.St) (G H : Hp) (P : List D → En → Prop) (R : QX) (Q : List V → Hp → Prop), XOk X F → SI F env σ G H → w env P R →
    (∀ ds env' vs G' H', P ds env' → SI F env' σ G' H' → Ex G G' → Reps F.wd G' vs ds → Q vs H') → XK' F W σ R → t σ H Q
/-- the ends of a statement, over the heap and over data -/
structure EnOk (F : Fc) (W : WX) (G : Hp) (P : EnD) (Q : Ends) : Prop where
  nx : ∀ env' σ' G' H', P.nx env' → SI F env' σ' G' H' → Ex G G' → Q.nx σ' H'
  rt : ∀ d v env' σ' G' H', P.rt d → SI F env' σ' G' H' → Rep F.wd G' v d → Q.rt v H'
  bk : ∀ env' σ' G' H', P.bk env' → SI F env' σ' G' H' → Ex G G' → Q.bk σ' H'
  ct : ∀ env' σ' G' H', P.ct env' → SI F env' σ' G' H' → Ex G G' → Q.ct σ' H'
  ex : ∀ σ', XK' F W σ' P.ex
structure PXS (X : Cx) (W : WX) (st : Stmt) (w : WS) : Prop where
  ex : ∃ t, PS X st t ∧ ∀ (F : Fc) (env : En) (σ : L2.St) (G H : Hp) (P : EnD) (Q : Ends), XOk X F → SI F env σ G H → w env P → EnOk F W G P Q → t Q σ H
structure PXB (X : Cx) (W : WX) (st : List Stmt) (w : WS) : Prop where
  ex : ∃ t, PSs X st t ∧ ∀ (F : Fc) (env : En) (σ : L2.St) (G H : Hp) (P : EnD) (Q : Ends), XOk X F → SI F env σ G H → w env P → EnOk F W G P Q → t Q σ H
theorem EnOk.mono {F : Fc} {W : WX} {G G' : Hp} {P : EnD} {Q : Ends} (h : EnOk F W G P Q) (e : Ex G G') : EnOk F W G' P Q :=
  ⟨fun a b c d p s x => h.nx a b c d p s (e.trans x), h.rt, fun a b c d p s x => h.bk a b c d p s (e.trans x), fun a b c d p s x => h.ct a b c d p s (e.trans x), h.ex⟩
end Pu
set_option maxRecDepth 100000
/-! Rules of the pure layer: expressions -/
namespace Pu
open PySem L2

/-! ### freezing an own list -/
theorem SI.freeze {F : Fc} {env : En} {σ : L2.St} {G H : Hp} {i : Nat} {l : OD} (h : SI F env σ G H) (e : env[i]? = some (.ol l)) (hd : l.isDct = false) :
    ∃ a G', σ[i]? = some (some (.ref a)) ∧ Ex G G' ∧ SI F (env.set i l.frz) σ G' H ∧ Rep F.wd G' (.ref a) l.toD := by
  obtain ⟨a, vs, h1, h2, h3, h4, h5, h6⟩ := h.sl i _ e
  have e1 : Ex G (upd G a vs) := fun x u hx => by
    rw [upd_ne (ne_of_none hx h3)]
    exact hx
  have rr : Rep F.wd (upd G a vs) (.ref a) l.toD := (h5.mono e1).rep upd_same hd
  refine ⟨a, upd G a vs, h1, e1, ⟨h.pre0, ⟨h.post.ex.trans e1, fun x u hx => ?_, h.post.keep, fun x hx => ?_, fun β hβ => ?_⟩, by rw [List.length_set]; exact h.len, fun j s es => ?_, fun j k l1 l2 b hjk e2 e3 e4 => ?_, fun q hq => ?_, h.tab.settle h4 (repO_tab h5).1 e1, h.pt⟩, rr⟩
  · by_cases z : x = a
    · subst z
      rw [upd_same] at hx
      cases hx
      exact h4
    · rw [upd_ne z] at hx
      exact h.exG _ _ hx
  · by_cases z : x = a
    · exact .inr (.inl (by rw [z]; exact h2))
    · rw [upd_ne z] at hx
      exact h.post.new x hx
  · obtain ⟨b1, b2, b3⟩ := h.post.bag β hβ
    have ne : β ≠ a := fun z => by
      subst z
      exact (h.pre0.bag _ hβ).2.1 h2
    exact ⟨by rw [upd_ne ne]; exact b1, b2, b3.mono e1 rfl⟩
  · by_cases hij : i = j
    · subst hij
      have hl : i < env.length := (List.getElem?_eq_some_iff.mp e).1
      rw [List.getElem?_set, if_pos rfl, if_pos hl] at es
      cases es
      cases l with
      | ins c fs =>
        have ea := h6 rfl
        subst ea
        exact ⟨h1, rr⟩
      | _ => exact ⟨_, h1, rr⟩
    · rw [List.getElem?_set_ne hij] at es
      have q := h.sl j s es
      cases s with
      | no => trivial
      | v d =>
        obtain ⟨v, q1, q2⟩ := q
        exact ⟨v, q1, q2.mono e1⟩
      | ol l' =>
        obtain ⟨b, ws, q1, q2, q3, q4, q5, q6⟩ := q
        have ne : b ≠ a := fun z => by
          subst z
          exact h.ap i j _ _ _ hij e es h1 q1
        exact ⟨b, ws, q1, q2, by rw [upd_ne ne]; exact q3, q4, q5.mono e1, q6⟩
      | fz d =>
        obtain ⟨q1, q2⟩ := q
        exact ⟨q1, q2.mono e1⟩
  · obtain ⟨_, e2⟩ := set_ol (s := l.frz) (OD.frz_ne l) e2
    obtain ⟨_, e3⟩ := set_ol (s := l.frz) (OD.frz_ne l) e3
    exact h.ap j k _ _ b hjk e2 e3 e4
  · obtain ⟨q1, q2, q3, q4⟩ := h.pin q hq
    refine ⟨q1, ?_, q3, fun j l' ej => ?_⟩
    · have ne : q.1 ≠ a := fun z => by
        have y := q4 i l e
        rw [z] at y
        exact y h1
      rw [upd_ne ne]
      exact q2
    · obtain ⟨_, ej⟩ := set_ol (s := l.frz) (OD.frz_ne l) ej
      exact q4 j l' ej

/-! ### names, constants -/
def wVar (i : Nat) : WE := fun env P _ => match env[i]? with
  | some (.v d) => P d env
  | some (.ol l) => P l.toD (env.set i l.frz)
  | some (.fz d) => P d env
  | _ => False
def wC (d : D) : WE := fun env P _ => P d env
section
variable {X : Cx} {W : WX}
/-- a name read; a dict of the frame's own is locked from then on -/
def tVarL (i : Nat) : TE := fun σ H Q => ∃ v, σ[i]? = some (some v) ∧ (Q v H ∨ ∃ a u, v = .ref a ∧ H a = some u ∧ Mut (some u) ∧ ∀ od, Q v (upd H a (.frz od u)))
theorem pe_varL {i : Nat} {x : Str} {pos : Pos} (h : PE X (.Name x pos) (tVar i)) : PE X (.Name x pos) (tVarL i) := by
  refine ⟨fun pins s σ H Q I q => ?_⟩
  obtain ⟨v0, h0, q⟩ := q
  refine thn (h.run pins s σ H (fun v H' => v = v0 ∧ H' = H) I ⟨v0, h0, rfl, rfl⟩) fun u t ⟨v, H', I', r, ev, eH⟩ => ?_
  subst ev eH
  rcases q with q | ⟨a, o, ea, ho, mu, q⟩
  · exact ⟨v, H', I', r, q⟩
  · obtain ⟨od, I2⟩ := I'.lock ho mu
    exact ⟨v, _, I2, r, q od⟩
theorem SI.freezeD {F : Fc} {env : En} {σ : L2.St} {G H : Hp} {i : Nat} {l : OD} (h : SI F env σ G H) (e : env[i]? = some (.ol l)) (hd : l.isDct = true) :
    ∃ a u, σ[i]? = some (some (.ref a)) ∧ H a = some u ∧ Mut (some u) ∧ ∀ od, ∃ G', Ex G G' ∧ SI F (env.set i l.frz) σ G' (upd H a (.frz od u)) ∧ Rep F.wd G' (.ref a) l.toD := by
  obtain ⟨a, u, h1, h2, h3, h4, h5, h6⟩ := h.sl i _ e
  have mu : Mut (some u) := by cases h5 <;> trivial
  refine ⟨a, u, h1, h4, mu, fun od => ?_⟩
  have e1 : Ex G (upd G a (.frz od u)) := fun x v hx => by
    rw [upd_ne (ne_of_none hx h3)]
    exact hx
  have rr : Rep F.wd (upd G a (.frz od u)) (.ref a) l.toD := by
    cases h5 with
    | lst r => cases hd
    | ins _ _ _ => cases hd
    | dk r => exact .dk upd_same (r.mono e1)
    | dt r => exact .dt upd_same (r.mono e1)
  have fz : l.frz = .v l.toD := by cases l <;> first | rfl | cases hd
  refine ⟨upd G a (.frz od u), e1, ⟨h.pre0, ⟨h.post.ex.trans e1, fun x v hx => ?_, fun x v nb hx => ?_, fun x hx => ?_, fun β hβ => ?_⟩, by rw [List.length_set]; exact h.len, fun j s es => ?_, fun j k l1 l2 b hjk e2 e3 e4 => ?_, fun q hq => ?_, ?_, h.pt⟩, rr⟩
  · by_cases z : x = a
    · subst z
      rw [upd_same] at hx ⊢
      exact hx
    · rw [upd_ne z] at hx ⊢
      exact h.exG _ _ hx
  · rw [upd_ne (ne_of_none hx h2)]
    exact h.post.keep x v nb hx
  · by_cases z : x = a
    · exact .inr (.inl (by rw [z]; exact h2))
    · rw [upd_ne z] at hx
      exact h.post.new x hx
  · obtain ⟨b1, b2, b3⟩ := h.post.bag β hβ
    have ne : β ≠ a := fun z => by
      subst z
      exact (h.pre0.bag _ hβ).2.1 h2
    exact ⟨by rw [upd_ne ne]; exact b1, by rw [upd_ne ne]; exact b2, b3.mono e1 (upd_ne ne)⟩
  · by_cases hij : i = j
    · subst hij
      have hl : i < env.length := (List.getElem?_eq_some_iff.mp e).1
      rw [List.getElem?_set, if_pos rfl, if_pos hl] at es
      cases es
      rw [fz]
      exact ⟨_, h1, rr⟩
    · rw [List.getElem?_set_ne hij] at es
      have q := h.sl j s es
      cases s with
      | no => trivial
      | v d =>
        obtain ⟨v, q1, q2⟩ := q
        exact ⟨v, q1, q2.mono e1⟩
      | ol l' =>
        obtain ⟨b, ws, q1, q2, q3, q4, q5, q6⟩ := q
        have ne : b ≠ a := fun z => by
          subst z
          exact h.ap i j _ _ _ hij e es h1 q1
        exact ⟨b, ws, q1, q2, by rw [upd_ne ne]; exact q3, by rw [upd_ne ne]; exact q4, q5.mono e1, q6⟩
      | fz d =>
        obtain ⟨q1, q2⟩ := q
        exact ⟨q1, q2.mono e1⟩
  · obtain ⟨_, e2⟩ := set_ol (s := l.frz) (OD.frz_ne l) e2
    obtain ⟨_, e3⟩ := set_ol (s := l.frz) (OD.frz_ne l) e3
    exact h.ap j k _ _ b hjk e2 e3 e4
  · obtain ⟨q1, q2, q3, q4⟩ := h.pin q hq
    have ne : q.1 ≠ a := fun z => by
      have y := q4 i l e
      rw [z] at y
      exact y h1
    refine ⟨by rw [upd_ne ne]; exact q1, by rw [upd_ne ne]; exact q2, q3, fun j l' ej => ?_⟩
    obtain ⟨_, ej⟩ := set_ol (s := l.frz) (OD.frz_ne l) ej
    exact q4 j l' ej
  · exact (tabs_upd (o' := .frz od u) h.tab h4 (repO_tab h5).1).settle upd_same (fun ps z => nomatch z) e1
theorem px_var (i : Nat) {x : Str} {pos : Pos} (h : PE X (.Name x pos) (tVar i)) : PX X W (.Name x pos) (wVar i) := by
  refine ⟨⟨_, pe_varL h, fun F env σ G H P R Q hx hs hw hq hr => ?_⟩⟩
  unfold wVar at hw
  cases e : env[i]? with
  | none => rw [e] at hw; exact hw.elim
  | some s =>
    rw [e] at hw
    cases s with
    | no => exact hw.elim
    | v d =>
      obtain ⟨v, h1, h2⟩ := hs.sl i _ e
      exact ⟨v, h1, .inl (hq d env v G H hw hs (Ex.refl _) h2)⟩
    | ol l =>
      cases hd : l.isDct with
      | false =>
        obtain ⟨a, G', h1, e1, h2, h3⟩ := hs.freeze e hd
        exact ⟨_, h1, .inl (hq _ _ _ G' H hw h2 e1 h3)⟩
      | true =>
        obtain ⟨a, u, h1, ho, mu, q⟩ := hs.freezeD e hd
        refine ⟨_, h1, .inr ⟨a, u, rfl, ho, mu, fun od => ?_⟩⟩
        obtain ⟨G', e1, h2, h3⟩ := q od
        exact hq _ _ _ G' _ hw h2 e1 h3
    | fz d =>
      obtain ⟨h1, h2⟩ := hs.sl i _ e
      exact ⟨_, h1, .inl (hq d env _ G H hw hs (Ex.refl _) h2)⟩
theorem px_c {e : Expr} {v : V} {d : D} (h : PE X e (tC v)) (hr : ∀ w G, Rep w G v d) : PX X W e (wC d) :=
  ⟨⟨_, h, fun F env σ G H P R Q hx hs hw hq hr' => hq d env v G H hw hs (Ex.refl _) (hr _ _)⟩⟩
theorem px_int {i j pos} : PX X W (.Constant (.int i) j pos) (wC (.int i)) := px_c pe_int fun _ _ => .int
theorem px_bl {b j pos} : PX X W (.Constant (.bool b) j pos) (wC (.bl b)) := px_c pe_bl fun _ _ => .bl
theorem px_non {j pos} : PX X W (.Constant .none j pos) (wC .non) := px_c pe_non fun _ _ => .non
theorem px_str {x j pos} : PX X W (.Constant (.str x) j pos) (wC (.str x)) := px_c pe_str fun _ _ => .str
/-- a module's scalar constant -/
theorem px_glob {x : Str} {v : V} {d : D} {u : Value} {pos : Pos} (hg : Gl X x) (hm : X.mg x = some u) (r : RelV v u) (hr : ∀ w G, Rep w G v d) (hd : (x == ("__debug__" : Str)) = false := by decide) : PX X W (.Name x pos) (wC d) :=
  px_c (pe_glob hg hm r hd) hr
end

/-! ### operators over data -/
abbrev RD2 := D → D → (D → Prop) → Prop
def wOp (r : RD2) (wa wb : WE) : WE := fun env P R => wa env (fun x e1 => wb e1 (fun y e2 => r x y fun z => P z e2) R) R
/-- an operator's reading over data: what it wants of values stands -/
def ROk (X : Cx) (r0 : R2) (r : RD2) : Prop := ∀ (w : Wd) (G H : Hp) (x y : D) (vx vy : V) (P : D → Prop) (Q : VK), w.K = X.K → w.mg = X.mg → Pre w G H → Rep w G vx x → Rep w G vy y → r x y P →
  (∀ z v G' H', P z → Post w G H G' H' → Rep w G' v z → Q v H') → r0 vx vy H Q
def PR2 (X : Cx) (f : Value → Value → Sem Value) (r : RD2) : Prop := ∃ r0, OpR X f r0 ∧ ROk X r0 r
theorem OpR.or {X : Cx} {f : Value → Value → Sem Value} {r r' : R2} (h : OpR X f r) (h' : OpR X f r') : OpR X f (fun x y H Q => r x y H Q ∨ r' x y H Q) := by
  intro pins s σ H x y v u Q I rx ry q
  rcases q with q | q
  · exact h pins s σ H x y v u Q I rx ry q
  · exact h' pins s σ H x y v u Q I rx ry q
section
variable {X : Cx} {W : WX} {a b : Expr} {wa wb : WE} {pos : Pos}
theorem run2 {r0 : R2} {r : RD2} (hr : ROk X r0 r) {ta tb : TE}
    (ha : ∀ (F : Fc) (env : En) (σ : L2.St) (G H : Hp) (P : D → En → Prop) (R : QX) (Q : VK), XOk X F → SI F env σ G H → wa env P R → (∀ d env' v G' H', P d env' → SI F env' σ G' H' → Ex G G' → Rep F.wd G' v d → Q v H') → XK' F W σ R → ta σ H Q)
    (hb : ∀ (F : Fc) (env : En) (σ : L2.St) (G H : Hp) (P : D → En → Prop) (R : QX) (Q : VK), XOk X F → SI F env σ G H → wb env P R → (∀ d env' v G' H', P d env' → SI F env' σ G' H' → Ex G G' → Rep F.wd G' v d → Q v H') → XK' F W σ R → tb σ H Q)
    (F : Fc) (env : En) (σ : L2.St) (G H : Hp) (P : D → En → Prop) (R : QX) (Q : VK) (hx : XOk X F) (hs : SI F env σ G H) (hw : wOp r wa wb env P R) (hq : ∀ d env' v G' H', P d env' → SI F env' σ G' H' → Ex G G' → Rep F.wd G' v d → Q v H') (hk : XK' F W σ R) : tOp r0 ta tb σ H Q := by
  refine ha F env σ G H _ R _ hx hs hw (fun x e1 vx G1 H1 p1 s1 x1 r1 => ?_) hk
  refine hb F e1 σ G1 H1 _ R _ hx s1 p1 (fun y e2 vy G2 H2 p2 s2 x2 r2 => ?_) hk
  exact hr F.wd G2 H2 x y vx vy _ Q hx.k hx.m s2.pre (r1.mono x2) r2 p2 fun z v G' H' p po rz => hq z e2 v G' H' p (s2.step po) ((x1.trans x2).trans po.ex) rz
theorem px_op {op : Operator} {r : RD2} (ho : PR2 X (binaryOp op) r) (ha : PX X W a wa) (hb : PX X W b wb) : PX X W (.BinOp a op b pos) (wOp r wa wb) := by
  obtain ⟨r0, h1, h2⟩ := ho
  obtain ⟨ta, a1, a2⟩ := ha.ex
  obtain ⟨tb, b1, b2⟩ := hb.ex
  exact ⟨⟨_, pe_op h1 a1 b1, run2 h2 a2 b2⟩⟩
theorem px_cmp {op : CmpOp} {r : RD2} (ho : PR2 X (compareOp op) r) (ha : PX X W a wa) (hb : PX X W b wb) (hm : behindInMarks op b = false := by first | exact nobehind _ (by decide) (by decide) | rfl) : PX X W (.Compare a [op] [b] pos) (wOp r wa wb) := by
  obtain ⟨r0, h1, h2⟩ := ho
  obtain ⟨ta, a1, a2⟩ := ha.ex
  obtain ⟨tb, b1, b2⟩ := hb.ex
  exact ⟨⟨_, pe_cmpR h1 a1 b1 hm, run2 h2 a2 b2⟩⟩
def wTest (w : WE) : WT := fun env P R => w env (fun d e1 => match d with | .bl k => P k e1 | _ => False) R
theorem pt_cmp' {op : CmpOp} {r : RD2} (ho : PR2 X (compareOp op) r) (ha : PX X W a wa) (hb : PX X W b wb) (hm : behindInMarks op b = false := by first | exact nobehind _ (by decide) (by decide) | rfl) : PXT X W (.Compare a [op] [b] pos) (wTest (wOp r wa wb)) := by
  obtain ⟨r0, h1, h2⟩ := ho
  obtain ⟨ta, a1, a2⟩ := ha.ex
  obtain ⟨tb, b1, b2⟩ := hb.ex
  refine ⟨⟨_, pt_cmpR h1 a1 b1 hm, fun F env σ G H P R Q hx hs hw hq hk => run2 h2 a2 b2 F env σ G H _ R _ hx hs hw (fun d e1 v G1 H1 p s1 x1 r1 => ?_) hk⟩⟩
  cases d with
  | bl k =>
    cases r1
    exact ⟨k, rfl, hq k e1 G1 H1 p s1 x1⟩
  | _ => exact p.elim
/-- a op b op2 c -/
def wChain (r r' : RD2) (wa wb wc : WE) : WE := fun env P R => wa env (fun x e1 => wb e1 (fun y e2 => r x y fun z => match z with
  | .bl true => wc e2 (fun u e3 => r' y u fun z' => P z' e3) R
  | .bl false => P (.bl false) e2
  | _ => False) R) R
theorem runC {r0 r0' : R2} {r r' : RD2} {c : Expr} {wc : WE} (hr : ROk X r0 r) (hr' : ROk X r0' r') {ta tb tc : TE}
    (ha : ∀ (F : Fc) (env : En) (σ : L2.St) (G H : Hp) (P : D → En → Prop) (R : QX) (Q : VK), XOk X F → SI F env σ G H → wa env P R → (∀ d env' v G' H', P d env' → SI F env' σ G' H' → Ex G G' → Rep F.wd G' v d → Q v H') → XK' F W σ R → ta σ H Q)
    (hb : ∀ (F : Fc) (env : En) (σ : L2.St) (G H : Hp) (P : D → En → Prop) (R : QX) (Q : VK), XOk X F → SI F env σ G H → wb env P R → (∀ d env' v G' H', P d env' → SI F env' σ G' H' → Ex G G' → Rep F.wd G' v d → Q v H') → XK' F W σ R → tb σ H Q)
    (hc : ∀ (F : Fc) (env : En) (σ : L2.St) (G H : Hp) (P : D → En → Prop) (R : QX) (Q : VK), XOk X F → SI F env σ G H → wc env P R → (∀ d env' v G' H', P d env' → SI F env' σ G' H' → Ex G G' → Rep F.wd G' v d → Q v H') → XK' F W σ R → tc σ H Q)
    (F : Fc) (env : En) (σ : L2.St) (G H : Hp) (P : D → En → Prop) (R : QX) (Q : VK) (hx : XOk X F) (hs : SI F env σ G H) (hw : wChain r r' wa wb wc env P R) (hq : ∀ d env' v G' H', P d env' → SI F env' σ G' H' → Ex G G' → Rep F.wd G' v d → Q v H') (hk : XK' F W σ R) : tChain r0 r0' ta tb tc σ H Q := by
  refine ha F env σ G H _ R _ hx hs hw (fun x e1 vx G1 H1 p1 s1 x1 r1 => ?_) hk
  refine hb F e1 σ G1 H1 _ R _ hx s1 p1 (fun y e2 vy G2 H2 p2 s2 x2 r2 => ?_) hk
  refine hr F.wd G2 H2 x y vx vy _ _ hx.k hx.m s2.pre (r1.mono x2) r2 p2 fun z v G3 H3 p po rz => ?_
  have s3 := s2.step po
  cases z with
  | bl k =>
    cases rz
    cases k with
    | false =>
      refine ⟨false, rfl, ?_⟩
      rw [if_neg Bool.false_ne_true]
      exact hq _ e2 _ G3 H3 p s3 ((x1.trans x2).trans po.ex) .bl
    | true =>
      refine ⟨true, rfl, ?_⟩
      rw [if_pos rfl]
      refine hc F e2 σ G3 H3 _ R _ hx s3 p (fun u e3 vu G4 H4 p4 s4 x4 r4 => ?_) hk
      exact hr' F.wd G4 H4 y u vy vu _ Q hx.k hx.m s4.pre ((r2.mono po.ex).mono x4) r4 p4 fun z v G' H' p po' rz => hq z e3 v G' H' p (s4.step po') ((((x1.trans x2).trans po.ex).trans x4).trans po'.ex) rz
  | _ => exact p.elim
theorem px_chain {op op' : CmpOp} {r r' : RD2} {c : Expr} {wc : WE} (ho : PR2 X (compareOp op) r) (ho' : PR2 X (compareOp op') r') (ha : PX X W a wa) (hb : PX X W b wb) (hc : PX X W c wc)
    (hm : lastMarks [op, op'] [b, c] = false := by with_unfolding_all rfl) : PX X W (.Compare a [op, op'] [b, c] pos) (wChain r r' wa wb wc) := by
  obtain ⟨r0, h1, h2⟩ := ho
  obtain ⟨r1, h3, h4⟩ := ho'
  obtain ⟨ta, a1, a2⟩ := ha.ex
  obtain ⟨tb, b1, b2⟩ := hb.ex
  obtain ⟨tc, c1, c2⟩ := hc.ex
  exact ⟨⟨_, pe_chain h1 h3 a1 b1 c1 hm, runC (c := c) h2 h4 a2 b2 c2⟩⟩
theorem pt_chain' {op op' : CmpOp} {r r' : RD2} {c : Expr} {wc : WE} (ho : PR2 X (compareOp op) r) (ho' : PR2 X (compareOp op') r') (ha : PX X W a wa) (hb : PX X W b wb) (hc : PX X W c wc)
    (hm : lastMarks [op, op'] [b, c] = false := by with_unfolding_all rfl) : PXT X W (.Compare a [op, op'] [b, c] pos) (wTest (wChain r r' wa wb wc)) := by
  obtain ⟨r0, h1, h2⟩ := ho
  obtain ⟨r1, h3, h4⟩ := ho'
  obtain ⟨ta, a1, a2⟩ := ha.ex
  obtain ⟨tb, b1, b2⟩ := hb.ex
  obtain ⟨tc, c1, c2⟩ := hc.ex
  refine ⟨⟨_, pt_chain h1 h3 a1 b1 c1 hm, fun F env σ G H P R Q hx hs hw hq hk => runC (c := c) h2 h4 a2 b2 c2 F env σ G H _ R _ hx hs hw (fun d e1 v G1 H1 p s1 x1 r1 => ?_) hk⟩⟩
  cases d with
  | bl k =>
    cases r1
    exact ⟨k, rfl, hq k e1 G1 H1 p s1 x1⟩
  | _ => exact p.elim
/-- an expression as a test: a bool -/
theorem pt_bool (h : PX X W a wa) (he : ∀ whole, isTrue a X.env whole = (do let v ← whole; standAt a.pos; holding [v] (truthy v)) := by intro _; rfl) : PXT X W a (wTest wa) := by
  obtain ⟨ta, a1, a2⟩ := h.ex
  refine ⟨⟨_, pt_val a1 he, fun F env σ G H P R Q hx hs hw hq hk => a2 F env σ G H _ R _ hx hs hw (fun d e1 v G1 H1 p s1 x1 r1 => ?_) hk⟩⟩
  cases d with
  | bl k =>
    cases r1
    exact ⟨k, rfl, hq k e1 G1 H1 p s1 x1⟩
  | _ => exact p.elim
/-! ### and, or, not, if -/
def wNot (w : WT) : WT := fun env P R => w env (fun k e => P (!k) e) R
def wAnd (w u : WT) : WT := fun env P R => w env (fun k e => match k with | true => u e P R | false => P false e) R
def wOr (w u : WT) : WT := fun env P R => w env (fun k e => match k with | true => P true e | false => u e P R) R
theorem pt_not' {w : WT} (h : PXT X W a w) : PXT X W (.UnaryOp .Not a pos) (wNot w) := by
  obtain ⟨t, a1, a2⟩ := h.ex
  exact ⟨⟨_, pt_not a1, fun F env σ G H P R Q hx hs hw hq hk => a2 F env σ G H _ R _ hx hs hw (fun d e1 G1 H1 p s1 x1 => hq _ e1 G1 H1 p s1 x1) hk⟩⟩
theorem pw_pt {w : WT} (h : PXW X W a w) : PXT X W a w := by
  obtain ⟨t, a1, a2⟩ := h.ex
  exact ⟨⟨_, a1.pt, a2⟩⟩
theorem pw_and1' {w : WT} (h : PXT X W a w) : PXW X W (.BoolOp .And [a] pos) w := by
  obtain ⟨t, a1, a2⟩ := h.ex
  exact ⟨⟨_, pw_and1 a1, a2⟩⟩
theorem pw_or1' {w : WT} (h : PXT X W a w) : PXW X W (.BoolOp .Or [a] pos) w := by
  obtain ⟨t, a1, a2⟩ := h.ex
  exact ⟨⟨_, pw_or1 a1, a2⟩⟩
theorem pw_and' {w u : WT} {rest : List Expr} (h : PXT X W a w) (g : PXW X W (.BoolOp .And (b :: rest) pos) u) : PXW X W (.BoolOp .And (a :: b :: rest) pos) (wAnd w u) := by
  obtain ⟨t, a1, a2⟩ := h.ex
  obtain ⟨t', b1, b2⟩ := g.ex
  refine ⟨⟨_, pw_and a1 b1, fun F env σ G H P R Q hx hs hw hq hk => a2 F env σ G H _ R _ hx hs hw (fun d e1 G1 H1 p s1 x1 => ?_) hk⟩⟩
  cases d with
  | true =>
    rw [if_pos rfl]
    exact b2 F e1 σ G1 H1 _ R _ hx s1 p (fun d' e2 G2 H2 p2 s2 x2 => hq d' e2 G2 H2 p2 s2 (x1.trans x2)) hk
  | false =>
    rw [if_neg Bool.false_ne_true]
    exact hq _ e1 G1 H1 p s1 x1
theorem pw_or' {w u : WT} {rest : List Expr} (h : PXT X W a w) (g : PXW X W (.BoolOp .Or (b :: rest) pos) u) : PXW X W (.BoolOp .Or (a :: b :: rest) pos) (wOr w u) := by
  obtain ⟨t, a1, a2⟩ := h.ex
  obtain ⟨t', b1, b2⟩ := g.ex
  refine ⟨⟨_, pw_or a1 b1, fun F env σ G H P R Q hx hs hw hq hk => a2 F env σ G H _ R _ hx hs hw (fun d e1 G1 H1 p s1 x1 => ?_) hk⟩⟩
  cases d with
  | false =>
    rw [if_neg Bool.false_ne_true]
    exact b2 F e1 σ G1 H1 _ R _ hx s1 p (fun d' e2 G2 H2 p2 s2 x2 => hq d' e2 G2 H2 p2 s2 (x1.trans x2)) hk
  | true =>
    rw [if_pos rfl]
    exact hq _ e1 G1 H1 p s1 x1
/-- as values (bools) -/
def wNotV (w : WE) : WE := fun env P R => w env (fun d e => match d with | .bl k => P (.bl (!k)) e | _ => False) R
def wAndV (w u : WE) : WE := fun env P R => w env (fun d e => match d with | .bl true => u e P R | .bl false => P (.bl false) e | _ => False) R
def wOrV (w u : WE) : WE := fun env P R => w env (fun d e => match d with | .bl true => P (.bl true) e | .bl false => u e P R | _ => False) R
theorem px_not (h : PX X W a wa) : PX X W (.UnaryOp .Not a pos) (wNotV wa) := by
  obtain ⟨t, a1, a2⟩ := h.ex
  refine ⟨⟨_, pe_not a1, fun F env σ G H P R Q hx hs hw hq hk => a2 F env σ G H _ R _ hx hs hw (fun d e1 v G1 H1 p s1 x1 r1 => ?_) hk⟩⟩
  cases d with
  | bl k =>
    cases r1
    exact ⟨k, rfl, hq _ e1 _ G1 H1 p s1 x1 .bl⟩
  | _ => exact p.elim
theorem px_one {op : BoolOp} (h : PX X W a wa) : PX X W (.BoolOp op [a] pos) wa := by
  obtain ⟨t, a1, a2⟩ := h.ex
  exact ⟨⟨_, pe_one a1, a2⟩⟩
theorem px_and {rest : List Expr} (h : PX X W a wa) (g : PX X W (.BoolOp .And (b :: rest) pos) wb) : PX X W (.BoolOp .And (a :: b :: rest) pos) (wAndV wa wb) := by
  obtain ⟨t, a1, a2⟩ := h.ex
  obtain ⟨t', b1, b2⟩ := g.ex
  refine ⟨⟨_, pe_and a1 b1, fun F env σ G H P R Q hx hs hw hq hk => a2 F env σ G H _ R _ hx hs hw (fun d e1 v G1 H1 p s1 x1 r1 => ?_) hk⟩⟩
  cases d with
  | bl k =>
    cases r1
    refine ⟨k, rfl, ?_⟩
    cases k with
    | true =>
      rw [if_pos rfl]
      exact b2 F e1 σ G1 H1 _ R _ hx s1 p (fun d' e2 v2 G2 H2 p2 s2 x2 => hq d' e2 v2 G2 H2 p2 s2 (x1.trans x2)) hk
    | false =>
      rw [if_neg Bool.false_ne_true]
      exact hq _ e1 _ G1 H1 p s1 x1 .bl
  | _ => exact p.elim
theorem px_or {rest : List Expr} (h : PX X W a wa) (g : PX X W (.BoolOp .Or (b :: rest) pos) wb) : PX X W (.BoolOp .Or (a :: b :: rest) pos) (wOrV wa wb) := by
  obtain ⟨t, a1, a2⟩ := h.ex
  obtain ⟨t', b1, b2⟩ := g.ex
  refine ⟨⟨_, pe_or a1 b1, fun F env σ G H P R Q hx hs hw hq hk => a2 F env σ G H _ R _ hx hs hw (fun d e1 v G1 H1 p s1 x1 r1 => ?_) hk⟩⟩
  cases d with
  | bl k =>
    cases r1
    refine ⟨k, rfl, ?_⟩
    cases k with
    | false =>
      rw [if_neg Bool.false_ne_true]
      exact b2 F e1 σ G1 H1 _ R _ hx s1 p (fun d' e2 v2 G2 H2 p2 s2 x2 => hq d' e2 v2 G2 H2 p2 s2 (x1.trans x2)) hk
    | true =>
      rw [if_pos rfl]
      exact hq _ e1 _ G1 H1 p s1 x1 .bl
  | _ => exact p.elim
def wIf (t : WT) (u v : WE) : WE := fun env P R => t env (fun k e => match k with | true => u e P R | false => v e P R) R
theorem px_if {c : Expr} {wt : WT} (hc : PXT X W c wt) (ha : PX X W a wa) (hb : PX X W b wb) : PX X W (.IfExp c a b pos) (wIf wt wa wb) := by
  obtain ⟨t, c1, c2⟩ := hc.ex
  obtain ⟨ta, a1, a2⟩ := ha.ex
  obtain ⟨tb, b1, b2⟩ := hb.ex
  refine ⟨⟨_, pe_ifExp c1 a1 b1, fun F env σ G H P R Q hx hs hw hq hk => c2 F env σ G H _ R _ hx hs hw (fun d e1 G1 H1 p s1 x1 => ?_) hk⟩⟩
  cases d with
  | true =>
    rw [if_pos rfl]
    exact a2 F e1 σ G1 H1 _ R _ hx s1 p (fun d' e2 v2 G2 H2 p2 s2 x2 => hq d' e2 v2 G2 H2 p2 s2 (x1.trans x2)) hk
  | false =>
    rw [if_neg Bool.false_ne_true]
    exact b2 F e1 σ G1 H1 _ R _ hx s1 p (fun d' e2 v2 G2 H2 p2 s2 x2 => hq d' e2 v2 G2 H2 p2 s2 (x1.trans x2)) hk
/-! ### argument lists, displays, calls of built-ins -/
def wNil : WA := fun env P _ => P [] env
def wCons (w : WE) (u : WA) : WA := fun env P R => w env (fun d e => u e (fun ds e2 => P (d :: ds) e2) R) R
theorem pa_nil' : PXA X W [] wNil := ⟨⟨_, pa_nil, fun F env σ G H P R Q hx hs hw hq hk => hq [] env [] G H hw hs (Ex.refl _) .nil⟩⟩
theorem pa_cons' {es : List Expr} {u : WA} (h : PX X W a wa) (g : PXA X W es u) (hs : starEach (a :: es) X.env = (false, eval a X.env) :: starEach es X.env := by rfl) : PXA X W (a :: es) (wCons wa u) := by
  obtain ⟨t, a1, a2⟩ := h.ex
  obtain ⟨t', b1, b2⟩ := g.ex
  refine ⟨⟨_, pa_cons a1 b1 hs, fun F env σ G H P R Q hx hs hw hq hk => a2 F env σ G H _ R _ hx hs hw (fun d e1 v G1 H1 p s1 x1 r1 => ?_) hk⟩⟩
  exact b2 F e1 σ G1 H1 _ R _ hx s1 p (fun ds e2 vs G2 H2 p2 s2 x2 r2 => hq (d :: ds) e2 (v :: vs) G2 H2 p2 s2 (x1.trans x2) (.cons (r1.mono x2) r2)) hk
def wLst (u : WA) : WE := fun env P R => u env (fun ds e => ds.length ≤ sizeLine ∧ P (.lst ds) e) R
def wTup (u : WA) : WE := fun env P R => u env (fun ds e => ds.length ≤ sizeLine ∧ P (.tup ds) e) R
theorem px_lst {es : List Expr} {u : WA} (h : PXA X W es u) : PX X W (.List es pos) (wLst u) := by
  obtain ⟨t, a1, a2⟩ := h.ex
  refine ⟨⟨_, pe_lst a1, fun F env σ G H P R Q hx hs hw hq hk => a2 F env σ G H _ R _ hx hs hw (fun ds e1 vs G1 H1 p s1 x1 r1 => ⟨by rw [r1.length]; exact p.1, fun l hl => ?_⟩) hk⟩⟩
  have po := Post.new1 (o := .lst vs) s1.pre hl
  exact hq _ e1 _ _ _ p.2 (s1.step po) (x1.trans po.ex) (.lst upd_same (r1.mono po.ex))
theorem px_tup {es : List Expr} {u : WA} {x1} (h : PXA X W es u) : PX X W (.Tuple es x1 pos) (wTup u) := by
  obtain ⟨t, a1, a2⟩ := h.ex
  refine ⟨⟨_, pe_tup a1, fun F env σ G H P R Q hx hs hw hq hk => a2 F env σ G H _ R _ hx hs hw (fun ds e1 vs G1 H1 p s1 x1 r1 => ⟨by rw [r1.length]; exact p.1, fun l hl => ?_⟩) hk⟩⟩
  have po := Post.new1 (o := .tup vs) s1.pre hl
  exact hq _ e1 _ _ _ p.2 (s1.step po) (x1.trans po.ex) (.tup upd_same (r1.mono po.ex))
/-- a built-in call over data -/
abbrev RDA := List D → (D → Prop) → Prop
def RAOk (X : Cx) (r0 : List V → Hp → VK → Prop) (r : RDA) : Prop := ∀ (w : Wd) (G H : Hp) (ds : List D) (vs : List V) (P : D → Prop) (Q : VK), w.K = X.K → w.mg = X.mg → Pre w G H → Reps w G vs ds → r ds P →
  (∀ z v G' H', P z → Post w G H G' H' → Rep w G' v z → Q v H') → r0 vs H Q
def PRA (X : Cx) (f : Value) (r : RDA) : Prop := ∃ r0, CallR X f r0 ∧ RAOk X r0 r
def wCB (r : RDA) (u : WA) : WE := fun env P R => u env (fun ds e => r ds fun z => P z e) R
theorem runA {r0 : List V → Hp → VK → Prop} {r : RDA} (hr : RAOk X r0 r) {t : TA} {u : WA}
    (a2 : ∀ (F : Fc) (env : En) (σ : L2.St) (G H : Hp) (P : List D → En → Prop) (R : QX) (Q : List V → Hp → Prop), XOk X F → SI F env σ G H → u env P R → (∀ ds env' vs G' H', P ds env' → SI F env' σ G' H' → Ex G G' → Reps F.wd G' vs ds → Q vs H') → XK' F W σ R → t σ H Q)
    (F : Fc) (env : En) (σ : L2.St) (G H : Hp) (P : D → En → Prop) (R : QX) (Q : VK) (hx : XOk X F) (hs : SI F env σ G H) (hw : wCB r u env P R) (hq : ∀ d env' v G' H', P d env' → SI F env' σ G' H' → Ex G G' → Rep F.wd G' v d → Q v H') (hk : XK' F W σ R) : tCB r0 t σ H Q :=
  a2 F env σ G H _ R _ hx hs hw (fun ds e1 vs G1 H1 p s1 x1 r1 => hr F.wd G1 H1 ds vs _ Q hx.k hx.m s1.pre r1 p fun z v G' H' p' po rz => hq z e1 v G' H' p' (s1.step po) (x1.trans po.ex) rz) hk
theorem px_callB {id : String} {r : RDA} {x : Str} {p : Pos} {e : Expr} {es : List Expr} {u : WA} (hc : PRA X (.builtin id) r) (hg : Gl X x) (hm : X.mg x = none) (hv : bootBuiltins x = some (.builtin id)) (ha : PXA X W (e :: es) u) (hn : x ≠ "__name__" := by decide) (hdb : (x == ("__debug__" : Str)) = false := by decide)
    (he : starEach (e :: es) X.env = (false, eval e X.env) :: starEach es X.env := by rfl) (hpl : (backTo pos (starEach es X.env)).any (·.1) = false := by rfl) : PX X W (.Call (.Name x p) (e :: es) [] pos) (wCB r u) := by
  obtain ⟨r0, h1, h2⟩ := hc
  obtain ⟨t, a1, a2⟩ := ha.ex
  exact ⟨⟨_, pe_callB h1 hg hm hv a1 hn hdb he hpl, runA h2 a2⟩⟩
theorem px_callTy {T : String} {r : RDA} {x : Str} {p : Pos} {e : Expr} {es : List Expr} {u : WA} (hc : PRA X (.type T) r) (hg : Gl X x) (hm : X.mg x = none) (hv : bootBuiltins x = some (.type T)) (ha : PXA X W (e :: es) u) (hn : x ≠ "__name__" := by decide) (hdb : (x == ("__debug__" : Str)) = false := by decide)
    (he : starEach (e :: es) X.env = (false, eval e X.env) :: starEach es X.env := by rfl) (hpl : (backTo pos (starEach es X.env)).any (·.1) = false := by rfl) : PX X W (.Call (.Name x p) (e :: es) [] pos) (wCB r u) := by
  obtain ⟨r0, h1, h2⟩ := hc
  obtain ⟨t, a1, a2⟩ := ha.ex
  exact ⟨⟨_, pe_callTy h1 hg hm hv a1 hn hdb he hpl, runA h2 a2⟩⟩
end
end Pu
set_option maxRecDepth 100000
/-! Rules of the pure layer: operators, built-ins, subscripts over data -/
namespace Pu
open PySem L2

theorem Rep.asInt {w : Wd} {G : Hp} {v : V} {i : Int} (h : Rep w G v (.int i)) : v = .int i := by cases h; rfl
theorem Rep.asStr {w : Wd} {G : Hp} {v : V} {i : Str} (h : Rep w G v (.str i)) : v = .str i := by cases h; rfl
theorem Rep.asBl {w : Wd} {G : Hp} {v : V} {i : Bool} (h : Rep w G v (.bl i)) : v = .bl i := by cases h; rfl
theorem Rep.asNon {w : Wd} {G : Hp} {v : V} (h : Rep w G v .non) : v = .non := by cases h; rfl
theorem Rep.asLst {w : Wd} {G : Hp} {v : V} {l : List D} (h : Rep w G v (.lst l)) : ∃ a vs, v = .ref a ∧ G a = some (.lst vs) ∧ Reps w G vs l := by
  cases h with
  | lst h1 h2 => exact ⟨_, _, rfl, h1, h2⟩
theorem Rep.asTup {w : Wd} {G : Hp} {v : V} {l : List D} (h : Rep w G v (.tup l)) : ∃ a vs, v = .ref a ∧ SqT w.K G a vs ∧ Reps w G vs l := by
  cases h with
  | tup h1 h2 => exact ⟨_, _, rfl, SqT.of h1, h2⟩

/-! ### arithmetic -/
def rdI (C : Int → Int → Prop) (g : Int → Int → D) : RD2 := fun x y P => match x, y with
  | .int i, .int j => C i j ∧ P (g i j)
  | _, _ => False
theorem rok_I {X : Cx} {C : Int → Int → Prop} {g : Int → Int → Int} : ROk X (rI C fun i j => .int (g i j)) (rdI C fun i j => .int (g i j)) := by
  intro w G H x y vx vy P Q hK hm hp rx ry h hq
  cases x <;> first | exact h.elim | skip
  cases y <;> first | exact h.elim | skip
  cases rx
  cases ry
  exact ⟨_, _, rfl, rfl, h.1, hq _ _ G H h.2 (Post.refl hp) .int⟩
theorem rok_B {X : Cx} {g : Int → Int → Bool} : ROk X (rI0 fun i j => .bl (g i j)) (rdI (fun _ _ => True) fun i j => .bl (g i j)) := by
  intro w G H x y vx vy P Q hK hm hp rx ry h hq
  cases x <;> first | exact h.elim | skip
  cases y <;> first | exact h.elim | skip
  cases rx
  cases ry
  exact ⟨_, _, rfl, rfl, hq _ _ G H h.2 (Post.refl hp) .bl⟩
def rdAdd : RD2 := fun x y P => match x, y with
  | .int i, .int j => P (.int (i + j))
  | .str s, .str t => s.length + t.length ≤ sizeLine ∧ P (.str (s ++ t))
  | .lst a, .lst b => a.length + b.length ≤ sizeLine ∧ P (.lst (a ++ b))
  | .tup a, .tup b => a.length + b.length ≤ sizeLine ∧ P (.tup (a ++ b))
  | _, _ => False
theorem pr_add {X : Cx} : PR2 X (binaryOp .Add) rdAdd := by
  refine ⟨_, OpR.or op_add (OpR.or op_add_str (OpR.or op_cat op_catA)), ?_⟩
  intro w G H x y vx vy P Q hK hm hp rx ry h hq
  cases x <;> first | exact h.elim | skip
  · cases y <;> first | exact h.elim | skip
    cases rx
    cases ry
    exact .inl ⟨_, _, rfl, rfl, hq _ _ G H h (Post.refl hp) .int⟩
  · cases y <;> first | exact h.elim | skip
    cases rx
    cases ry
    exact .inr (.inl ⟨_, _, rfl, rfl, h.1, hq _ _ G H h.2 (Post.refl hp) .str⟩)
  · cases y <;> first | exact h.elim | skip
    cases rx with
    | lst h1 r1 =>
    cases ry with
    | lst h2 r2 =>
    refine .inr (.inr (.inl ⟨_, _, _, _, rfl, rfl, hp.exG _ _ h1, hp.exG _ _ h2, by rw [r1.length, r2.length]; exact h.1, fun p hn => ?_⟩))
    exact hq _ _ _ _ h.2 (Post.new1 hp hn) (.lst upd_same ((r1.append r2).mono (Post.new1 hp hn).ex))
  · cases y <;> first | exact h.elim | skip
    cases rx with
    | tup h1 r1 =>
    cases ry with
    | tup h2 r2 =>
    refine .inr (.inr (.inr ⟨_, _, _, _, rfl, rfl, by rw [← hK]; exact hp.exG.tt h1, by rw [← hK]; exact hp.exG.tt h2, by rw [r1.length, r2.length]; exact h.1, fun e => ?_, fun _ e => ?_, fun _ _ p hn => ?_⟩))
    · subst e
      cases r1
      exact hq _ _ G H h.2 (Post.refl hp) (.tup h2 r2)
    · subst e
      cases r2
      exact hq _ _ G H h.2 (Post.refl hp) (.tup h1 (by rw [List.append_nil]; exact r1))
    · exact hq _ _ _ _ h.2 (Post.new1 hp hn) (.tup upd_same ((r1.append r2).mono (Post.new1 hp hn).ex))
theorem pr_sub {X : Cx} : PR2 X (binaryOp .Sub) (rdI (fun _ _ => True) fun i j => .int (i - j)) := by
  refine ⟨_, op_sub, ?_⟩
  intro w G H x y vx vy P Q hK hm hp rx ry h hq
  cases x <;> first | exact h.elim | skip
  cases y <;> first | exact h.elim | skip
  cases rx
  cases ry
  exact ⟨_, _, rfl, rfl, hq _ _ G H h.2 (Post.refl hp) .int⟩
def rdMul : RD2 := fun x y P => match x, y with
  | .int i, .int j => IntMulOk i j ∧ P (.int (i * j))
  | .lst a, .int k => -(2 ^ 63) ≤ k ∧ k < 2 ^ 63 ∧ a.length * k.toNat ≤ sizeLine ∧ P (.lst (List.replicate k.toNat a).flatten)
  | _, _ => False
theorem op_mulF {X : Cx} : OpR X (binaryOp .Mult) (rI IntMulOk fun i j => .int (i * j)) := opI fun _ _ _ _ _ _ _ hc q => PyProof.Rows.mul_int q hc
theorem Reps.rep {w : Wd} {G : Hp} {vs : List V} {ds : List D} (h : Reps w G vs ds) : ∀ k : Nat, Reps w G (List.replicate k vs).flatten (List.replicate k ds).flatten
  | 0 => .nil
  | k + 1 => by
    rw [List.replicate_succ, List.replicate_succ, List.flatten_cons, List.flatten_cons]
    exact h.append (h.rep k)
theorem pr_mul {X : Cx} : PR2 X (binaryOp .Mult) rdMul := by
  refine ⟨_, OpR.or op_mulF op_rep, ?_⟩
  intro w G H x y vx vy P Q hK hm hp rx ry h hq
  cases x <;> first | exact h.elim | skip
  · cases y <;> first | exact h.elim | skip
    cases rx
    cases ry
    exact .inl ⟨_, _, rfl, rfl, h.1, hq _ _ G H h.2 (Post.refl hp) .int⟩
  · cases y <;> first | exact h.elim | skip
    cases rx with
    | lst h1 r1 =>
    cases ry
    refine .inr ⟨_, _, _, rfl, rfl, hp.exG _ _ h1, h.1, h.2.1, by rw [r1.length]; exact h.2.2.1, fun p hn => ?_⟩
    exact hq _ _ _ _ h.2.2.2 (Post.new1 hp hn) (.lst upd_same ((r1.rep _).mono (Post.new1 hp hn).ex))
theorem pr_fdiv {X : Cx} : PR2 X (binaryOp .FloorDiv) (rdI CDivW fun i j => .int (i / j)) := ⟨_, op_fdivW, rok_I⟩
theorem pr_mod {X : Cx} : PR2 X (binaryOp .Mod) (rdI (fun _ j => 0 < j) fun i j => .int (i % j)) := ⟨_, op_mod, rok_I⟩
theorem pr_pow {X : Cx} : PR2 X (binaryOp .Pow) (rdI CPow fun i j => .int (i ^ j.toNat)) := ⟨_, op_pow, rok_I⟩
theorem pr_lt {X : Cx} : PR2 X (compareOp .Lt) (rdI (fun _ _ => True) fun i j => .bl (decide (i < j))) := ⟨_, op_lt, rok_B⟩
theorem pr_le {X : Cx} : PR2 X (compareOp .LtE) (rdI (fun _ _ => True) fun i j => .bl (decide (i ≤ j))) := ⟨_, op_le, rok_B⟩
theorem pr_gt {X : Cx} : PR2 X (compareOp .Gt) (rdI (fun _ _ => True) fun i j => .bl (decide (j < i))) := ⟨_, op_gt, rok_B⟩
theorem pr_ge {X : Cx} : PR2 X (compareOp .GtE) (rdI (fun _ _ => True) fun i j => .bl (decide (j ≤ i))) := ⟨_, op_ge, rok_B⟩

/-! ### == -/
mutual
def toP : D → Option PyData
  | .non => some .none
  | .bl b => some (.bool b)
  | .int i => some (.int i)
  | .str s => some (.str s)
  | .lst l => (toPs l).map .list
  | .tup l => (toPs l).map .tuple
  | _ => none
def toPs : List D → Option (List PyData)
  | [] => some []
  | d :: ds => match toP d, toPs ds with
    | some p, some ps => some (p :: ps)
    | _, _ => none
end
set_option maxHeartbeats 2000000 in
mutual
theorem Rep.dp {w : Wd} {G : Hp} : ∀ {v : V} {d : D} {p : PyData}, Rep w G v d → toP d = some p → Dp w.K G v p
  | _, _, _, .non, e => by cases e; exact .non
  | _, _, _, .bl, e => by cases e; exact .bl _
  | _, _, _, .int, e => by cases e; exact .int _
  | _, _, _, .str, e => by cases e; exact .str _
  | _, .lst l, p, .lst h r, e => by
    unfold toP at e
    cases e2 : toPs l with
    | none => rw [e2] at e; cases e
    | some ps =>
      rw [e2] at e
      cases e
      exact .lst (SqL.of h) (Reps.dp r e2)
  | _, .tup l, p, .tup h r, e => by
    unfold toP at e
    cases e2 : toPs l with
    | none => rw [e2] at e; cases e
    | some ps =>
      rw [e2] at e
      cases e
      exact .tup (SqT.of h) (Reps.dp r e2)
  | _, _, _, .bag _, e => by unfold toP at e; cases e
  | _, _, _, .ins _ _ _ _, e => by unfold toP at e; cases e
  | _, _, _, .dk _ _, e => by unfold toP at e; cases e
  | _, _, _, .dt _ _, e => by unfold toP at e; cases e
  | _, _, _, .exc _ _ _ _ _ _ _, e => by unfold toP at e; cases e
  | _, _, _, .fn _ _, e => by unfold toP at e; cases e
  | _, _, _, .typ _, e => by unfold toP at e; cases e
theorem Reps.dp {w : Wd} {G : Hp} : ∀ {v : List V} {d : List D} {p : List PyData}, Reps w G v d → toPs d = some p → DpAll w.K G v p
  | _, _, _, .nil, e => by
    unfold toPs at e
    cases e
    exact .nil
  | _, d :: ds, p, .cons h r, e => by
    unfold toPs at e
    cases e1 : toP d with
    | none => rw [e1] at e; cases e
    | some q =>
      cases e2 : toPs ds with
      | none => rw [e1, e2] at e; cases e
      | some qs =>
        rw [e1, e2] at e
        cases e
        exact .cons (Rep.dp h e1) (Reps.dp r e2)
end
mutual
theorem dp_mono {K : PySem.W.Frag} {G H : Hp} (e : Ex G H) : ∀ {v : V} {p : PyData}, Dp K G v p → Dp K H v p
  | _, _, .non => .non
  | _, _, .bl b => .bl b
  | _, _, .int i => .int i
  | _, _, .str s => .str s
  | _, _, .lst h r => .lst (e.l h) (dps_mono e r)
  | _, _, .tup h r => .tup (e.t h) (dps_mono e r)
theorem dps_mono {K : PySem.W.Frag} {G H : Hp} (e : Ex G H) : ∀ {v : List V} {p : List PyData}, DpAll K G v p → DpAll K H v p
  | _, _, .nil => .nil
  | _, _, .cons h r => .cons (dp_mono e h) (dps_mono e r)
end
/-- == of scalars -/
def eqS : D → D → Option Bool
  | .non, .non => some true
  | .non, .int _ => some false | .int _, .non => some false | .non, .bl _ => some false | .bl _, .non => some false | .non, .str _ => some false | .str _, .non => some false
  | .int i, .int j => some (decide (i = j))
  | .bl a, .bl b => some (decide (a = b))
  | .str s, .str t => some (decide (s = t))
  | .int _, .str _ => some false | .str _, .int _ => some false | .bl _, .str _ => some false | .str _, .bl _ => some false
  | _, _ => none
/-- a list or a tuple beside a scalar -/
def seqH (K : PySem.W.Frag) (H : Hp) (v : V) : Prop := ∃ a xs, v = .ref a ∧ (SqL K H a xs ∨ SqT K H a xs)
def scV : V → Bool
  | .non => true | .bl _ => true | .int _ => true | .str _ => true
  | _ => false
def rMx (k : Bool) (K : PySem.W.Frag) : R2 := fun x y H Q => ((seqH K H x ∧ scV y = true) ∨ (scV x = true ∧ seqH K H y)) ∧ Q (.bl k) H
theorem op_eqM {X : Cx} (hu : X.A.units < cLine) : OpR X (compareOp .Eq) (rMx false X.K) := by
  intro pins s σ H x y v u Q I rx ry h
  obtain ⟨h | h, q⟩ := h
  · obtain ⟨⟨a, xs, rfl, hs⟩, hy⟩ := h
    cases rx
    rcases hs with hs | hs
    · obtain ⟨its, rv, ⟨o, n, ho, hc, _, hd⟩, _⟩ := I.list hs
      cases y <;> first | cases hy | skip
      · cases ry; exact PySem.EqBoolInt.of_rc (SeqAt.RcAt.list_none ⟨o, ho, hc, n, hd⟩ hu) ⟨.bl _, H, I, rfl, q⟩
      · cases ry; exact PySem.EqBoolInt.of_rc (SeqAt.RcAt.list_bool _ ⟨o, ho, hc, n, hd⟩ hu) ⟨.bl _, H, I, rfl, q⟩
      · obtain ⟨t, rfl⟩ := ry; exact PySem.EqBoolInt.of_rc (SeqAt.RcAt.list_int _ _ ⟨o, ho, hc, n, hd⟩ hu) ⟨.bl _, H, I, rfl, q⟩
      · obtain ⟨t, rfl⟩ := ry; exact PySem.EqBoolInt.of_rc (SeqAt.RcAt.list_str _ _ ⟨o, ho, hc, n, hd⟩ hu) ⟨.bl _, H, I, rfl, q⟩
    · obtain ⟨its, rv, ⟨o, ho, hc, n, hd⟩, _⟩ := I.tuple hs
      cases y <;> first | cases hy | skip
      · cases ry; exact PySem.EqBoolInt.of_rc (SeqAt.RcAt.tuple_none ⟨o, ho, hc, n, hd⟩ hu) ⟨.bl _, H, I, rfl, q⟩
      · cases ry; exact PySem.EqBoolInt.of_rc (SeqAt.RcAt.tuple_bool _ ⟨o, ho, hc, n, hd⟩ hu) ⟨.bl _, H, I, rfl, q⟩
      · obtain ⟨t, rfl⟩ := ry; exact PySem.EqBoolInt.of_rc (SeqAt.RcAt.tuple_int _ _ ⟨o, ho, hc, n, hd⟩ hu) ⟨.bl _, H, I, rfl, q⟩
      · obtain ⟨t, rfl⟩ := ry; exact PySem.EqBoolInt.of_rc (SeqAt.RcAt.tuple_str _ _ ⟨o, ho, hc, n, hd⟩ hu) ⟨.bl _, H, I, rfl, q⟩
  · obtain ⟨hx, a, xs, rfl, hs⟩ := h
    cases ry
    rcases hs with hs | hs
    · obtain ⟨its, rv, ⟨o, n, ho, hc, _, hd⟩, _⟩ := I.list hs
      cases x <;> first | cases hx | skip
      · cases rx; exact PySem.EqBoolInt.of_rc (SeqAt.RcAt.none_list ⟨o, ho, hc, n, hd⟩ hu) ⟨.bl _, H, I, rfl, q⟩
      · cases rx; exact PySem.EqBoolInt.of_rc (SeqAt.RcAt.bool_list _ ⟨o, ho, hc, n, hd⟩ hu) ⟨.bl _, H, I, rfl, q⟩
      · obtain ⟨t, rfl⟩ := rx; exact PySem.EqBoolInt.of_rc (SeqAt.RcAt.int_list _ _ ⟨o, ho, hc, n, hd⟩ hu) ⟨.bl _, H, I, rfl, q⟩
      · obtain ⟨t, rfl⟩ := rx; exact PySem.EqBoolInt.of_rc (SeqAt.RcAt.str_list _ _ ⟨o, ho, hc, n, hd⟩ hu) ⟨.bl _, H, I, rfl, q⟩
    · obtain ⟨its, rv, ⟨o, ho, hc, n, hd⟩, _⟩ := I.tuple hs
      cases x <;> first | cases hx | skip
      · cases rx; exact PySem.EqBoolInt.of_rc (SeqAt.RcAt.none_tuple ⟨o, ho, hc, n, hd⟩ hu) ⟨.bl _, H, I, rfl, q⟩
      · cases rx; exact PySem.EqBoolInt.of_rc (SeqAt.RcAt.bool_tuple _ ⟨o, ho, hc, n, hd⟩ hu) ⟨.bl _, H, I, rfl, q⟩
      · obtain ⟨t, rfl⟩ := rx; exact PySem.EqBoolInt.of_rc (SeqAt.RcAt.int_tuple _ _ ⟨o, ho, hc, n, hd⟩ hu) ⟨.bl _, H, I, rfl, q⟩
      · obtain ⟨t, rfl⟩ := rx; exact PySem.EqBoolInt.of_rc (SeqAt.RcAt.str_tuple _ _ ⟨o, ho, hc, n, hd⟩ hu) ⟨.bl _, H, I, rfl, q⟩
theorem op_neM {X : Cx} (hu : X.A.units < cLine) : OpR X (compareOp .NotEq) (rMx true X.K) := by
  intro pins s σ H x y v u Q I rx ry h
  obtain ⟨h | h, q⟩ := h
  · obtain ⟨⟨a, xs, rfl, hs⟩, hy⟩ := h
    cases rx
    rcases hs with hs | hs
    · obtain ⟨its, rv, ⟨o, n, ho, hc, _, hd⟩, _⟩ := I.list hs
      cases y <;> first | cases hy | skip
      · cases ry; exact PySem.EqBoolInt.of_rcne (SeqAt.RcNeAt.list_none ⟨o, ho, hc, n, hd⟩ hu) ⟨.bl _, H, I, rfl, q⟩
      · cases ry; exact PySem.EqBoolInt.of_rcne (SeqAt.RcNeAt.list_bool _ ⟨o, ho, hc, n, hd⟩ hu) ⟨.bl _, H, I, rfl, q⟩
      · obtain ⟨t, rfl⟩ := ry; exact PySem.EqBoolInt.of_rcne (SeqAt.RcNeAt.list_int _ _ ⟨o, ho, hc, n, hd⟩ hu) ⟨.bl _, H, I, rfl, q⟩
      · obtain ⟨t, rfl⟩ := ry; exact PySem.EqBoolInt.of_rcne (SeqAt.RcNeAt.list_str _ _ ⟨o, ho, hc, n, hd⟩ hu) ⟨.bl _, H, I, rfl, q⟩
    · obtain ⟨its, rv, ⟨o, ho, hc, n, hd⟩, _⟩ := I.tuple hs
      cases y <;> first | cases hy | skip
      · cases ry; exact PySem.EqBoolInt.of_rcne (SeqAt.RcNeAt.tuple_none ⟨o, ho, hc, n, hd⟩ hu) ⟨.bl _, H, I, rfl, q⟩
      · cases ry; exact PySem.EqBoolInt.of_rcne (SeqAt.RcNeAt.tuple_bool _ ⟨o, ho, hc, n, hd⟩ hu) ⟨.bl _, H, I, rfl, q⟩
      · obtain ⟨t, rfl⟩ := ry; exact PySem.EqBoolInt.of_rcne (SeqAt.RcNeAt.tuple_int _ _ ⟨o, ho, hc, n, hd⟩ hu) ⟨.bl _, H, I, rfl, q⟩
      · obtain ⟨t, rfl⟩ := ry; exact PySem.EqBoolInt.of_rcne (SeqAt.RcNeAt.tuple_str _ _ ⟨o, ho, hc, n, hd⟩ hu) ⟨.bl _, H, I, rfl, q⟩
  · obtain ⟨hx, a, xs, rfl, hs⟩ := h
    cases ry
    rcases hs with hs | hs
    · obtain ⟨its, rv, ⟨o, n, ho, hc, _, hd⟩, _⟩ := I.list hs
      cases x <;> first | cases hx | skip
      · cases rx; exact PySem.EqBoolInt.of_rcne (SeqAt.RcNeAt.none_list ⟨o, ho, hc, n, hd⟩ hu) ⟨.bl _, H, I, rfl, q⟩
      · cases rx; exact PySem.EqBoolInt.of_rcne (SeqAt.RcNeAt.bool_list _ ⟨o, ho, hc, n, hd⟩ hu) ⟨.bl _, H, I, rfl, q⟩
      · obtain ⟨t, rfl⟩ := rx; exact PySem.EqBoolInt.of_rcne (SeqAt.RcNeAt.int_list _ _ ⟨o, ho, hc, n, hd⟩ hu) ⟨.bl _, H, I, rfl, q⟩
      · obtain ⟨t, rfl⟩ := rx; exact PySem.EqBoolInt.of_rcne (SeqAt.RcNeAt.str_list _ _ ⟨o, ho, hc, n, hd⟩ hu) ⟨.bl _, H, I, rfl, q⟩
    · obtain ⟨its, rv, ⟨o, ho, hc, n, hd⟩, _⟩ := I.tuple hs
      cases x <;> first | cases hx | skip
      · cases rx; exact PySem.EqBoolInt.of_rcne (SeqAt.RcNeAt.none_tuple ⟨o, ho, hc, n, hd⟩ hu) ⟨.bl _, H, I, rfl, q⟩
      · cases rx; exact PySem.EqBoolInt.of_rcne (SeqAt.RcNeAt.bool_tuple _ ⟨o, ho, hc, n, hd⟩ hu) ⟨.bl _, H, I, rfl, q⟩
      · obtain ⟨t, rfl⟩ := rx; exact PySem.EqBoolInt.of_rcne (SeqAt.RcNeAt.int_tuple _ _ ⟨o, ho, hc, n, hd⟩ hu) ⟨.bl _, H, I, rfl, q⟩
      · obtain ⟨t, rfl⟩ := rx; exact PySem.EqBoolInt.of_rcne (SeqAt.RcNeAt.str_tuple _ _ ⟨o, ho, hc, n, hd⟩ hu) ⟨.bl _, H, I, rfl, q⟩
def scD : D → Bool
  | .non => true | .bl _ => true | .int _ => true | .str _ => true
  | _ => false
def sqD : D → Bool
  | .lst _ => true | .tup _ => true
  | _ => false
def mixS (x y : D) : Bool := (sqD x && scD y) || (scD x && sqD y)
theorem sqD_ok {w : Wd} {G H : Hp} {x : D} {vx : V} (rx : Rep w G vx x) (e : Ex G H) (h : sqD x = true) : seqH w.K H vx := by
  cases rx with
  | lst a r => exact ⟨_, _, rfl, .inl (e.l (SqL.of a))⟩
  | tup a r => exact ⟨_, _, rfl, .inr (e.tt a)⟩
  | _ => cases h
theorem scD_ok {w : Wd} {G : Hp} {x : D} {vx : V} (rx : Rep w G vx x) (h : scD x = true) : scV vx = true := by
  cases rx <;> first | rfl | cases h
theorem mixS_ok {w : Wd} {G H : Hp} {x y : D} {vx vy : V} (rx : Rep w G vx x) (ry : Rep w G vy y) (e : Ex G H) (h : mixS x y = true) : (seqH w.K H vx ∧ scV vy = true) ∨ (scV vx = true ∧ seqH w.K H vy) := by
  unfold mixS at h
  rw [Bool.or_eq_true, Bool.and_eq_true, Bool.and_eq_true] at h
  rcases h with h | h
  · exact .inl ⟨sqD_ok rx e h.1, scD_ok ry h.2⟩
  · exact .inr ⟨scD_ok rx h.1, sqD_ok ry e h.2⟩
def rdEq : RD2 := fun x y P => match eqS x y with
  | some k => P (.bl k)
  | none => match mixS x y with
    | true => P (.bl false)
    | false => ∃ p q, toP x = some p ∧ toP y = some q ∧ SeqAt.shaped p = true ∧ SeqAt.shaped q = true ∧ P (.bl (PyData.eqv p q))
def rdNe : RD2 := fun x y P => match eqS x y with
  | some k => P (.bl (!k))
  | none => match mixS x y with
    | true => P (.bl true)
    | false => ∃ p q, toP x = some p ∧ toP y = some q ∧ SeqAt.shaped p = true ∧ SeqAt.shaped q = true ∧ P (.bl (!PyData.eqv p q))
theorem eqS_ok {w : Wd} {G : Hp} {x y : D} {vx vy : V} {k : Bool} (rx : Rep w G vx x) (ry : Rep w G vy y) (e : eqS x y = some k) : scal vx vy = true ∧ decide (vx = vy) = k := by
  cases rx <;> cases ry <;> unfold eqS at e <;> first | cases e | skip
  all_goals first
    | exact ⟨rfl, by simp⟩
    | (cases e; exact ⟨rfl, by simp⟩)
    | (cases e; refine ⟨rfl, ?_⟩; simp)
theorem pr_eq {X : Cx} (hu : X.A.units + 64 < cLine) : PR2 X (compareOp .Eq) rdEq := by
  refine ⟨_, OpR.or op_eq (OpR.or (op_eqD hu) (op_eqM (Nat.lt_of_le_of_lt (Nat.le_add_right _ _) hu))), ?_⟩
  intro w G H x y vx vy P Q hK hm hp rx ry h hq
  unfold rdEq at h
  cases e : eqS x y with
  | some k =>
    rw [e] at h
    obtain ⟨s, d⟩ := eqS_ok rx ry e
    exact .inl ⟨s, by rw [d]; exact hq _ _ G H h (Post.refl hp) .bl⟩
  | none =>
    rw [e] at h
    cases em : mixS x y with
    | true =>
      rw [em] at h
      refine .inr (.inr ⟨?_, hq _ _ G H h (Post.refl hp) .bl⟩)
      rw [← hK]
      exact mixS_ok rx ry hp.exG em
    | false =>
    rw [em] at h
    obtain ⟨p, q, e1, e2, s1, s2, h⟩ := h
    refine .inr (.inl ⟨p, q, ?_, ?_, s1, s2, hq _ _ G H h (Post.refl hp) .bl⟩)
    · rw [← hK]
      exact dp_mono hp.exG (rx.dp e1)
    · rw [← hK]
      exact dp_mono hp.exG (ry.dp e2)
theorem pr_ne {X : Cx} (hu : X.A.units + 64 < cLine) : PR2 X (compareOp .NotEq) rdNe := by
  refine ⟨_, OpR.or op_ne (OpR.or (op_neD hu) (op_neM (Nat.lt_of_le_of_lt (Nat.le_add_right _ _) hu))), ?_⟩
  intro w G H x y vx vy P Q hK hm hp rx ry h hq
  unfold rdNe at h
  cases e : eqS x y with
  | some k =>
    rw [e] at h
    obtain ⟨s, d⟩ := eqS_ok rx ry e
    exact .inl ⟨s, by rw [d]; exact hq _ _ G H h (Post.refl hp) .bl⟩
  | none =>
    rw [e] at h
    cases em : mixS x y with
    | true =>
      rw [em] at h
      refine .inr (.inr ⟨?_, hq _ _ G H h (Post.refl hp) .bl⟩)
      rw [← hK]
      exact mixS_ok rx ry hp.exG em
    | false =>
    rw [em] at h
    obtain ⟨p, q, e1, e2, s1, s2, h⟩ := h
    refine .inr (.inl ⟨p, q, ?_, ?_, s1, s2, hq _ _ G H h (Post.refl hp) .bl⟩)
    · rw [← hK]
      exact dp_mono hp.exG (rx.dp e1)
    · rw [← hK]
      exact dp_mono hp.exG (ry.dp e2)
/-! ### is None -/
def isNon : D → Bool
  | .non => true
  | _ => false
def rdIs : RD2 := fun x y P => match y with
  | .non => P (.bl (isNon x))
  | _ => False
def rdIsNot : RD2 := fun x y P => match y with
  | .non => P (.bl (!isNon x))
  | _ => False
theorem isNon_ok {w : Wd} {G : Hp} {x : D} {vx : V} (rx : Rep w G vx x) : decide (vx = .non) = isNon x := by
  cases rx <;> first | rfl | exact decide_eq_true rfl | exact decide_eq_false (fun z => nomatch z)
theorem pr_is {X : Cx} : PR2 X (compareOp .Is) rdIs := by
  refine ⟨_, op_isN, ?_⟩
  intro w G H x y vx vy P Q hK hm hp rx ry h hq
  cases y <;> first | exact h.elim | skip
  cases ry
  exact ⟨rfl, by rw [isNon_ok rx]; exact hq _ _ G H h (Post.refl hp) .bl⟩
theorem pr_isNot {X : Cx} : PR2 X (compareOp .IsNot) rdIsNot := by
  refine ⟨_, op_notN, ?_⟩
  intro w G H x y vx vy P Q hK hm hp rx ry h hq
  cases y <;> first | exact h.elim | skip
  cases ry
  exact ⟨rfl, by rw [isNon_ok rx]; exact hq _ _ G H h (Post.refl hp) .bl⟩
/-! ### in -/
def flatD : D → Bool
  | .non => true
  | .bl _ => true
  | .int _ => true
  | .str _ => true
  | _ => false
def eqF : D → D → Bool
  | .non, .non => true
  | .bl a, .bl b => a == b
  | .bl a, .int b => (if a then 1 else 0) == b
  | .int a, .bl b => a == (if b then 1 else 0)
  | .int a, .int b => a == b
  | .str a, .str b => a == b
  | _, _ => false
def inD (x : D) (l : List D) : Bool := l.any fun y => eqF y x
theorem flat_ok {w : Wd} {G : Hp} {x : D} {vx : V} (rx : Rep w G vx x) (h : flatD x = true) : flatV vx = true := by
  cases rx <;> first | rfl | cases h
theorem eqF_ok {w : Wd} {G : Hp} {x y : D} {vx vy : V} (rx : Rep w G vx x) (ry : Rep w G vy y) (h1 : flatD x = true) (h2 : flatD y = true) : eqV vx vy = eqF x y := by
  cases rx <;> first | cases h1 | skip
  all_goals (cases ry <;> first | rfl | cases h2)
theorem flats_ok {w : Wd} {G : Hp} : ∀ {l : List D} {vs : List V}, Reps w G vs l → l.all flatD = true → vs.all flatV = true
  | _, _, .nil, _ => rfl
  | _, _, .cons r t, h => by
    rw [List.all_cons, Bool.and_eq_true] at h ⊢
    exact ⟨flat_ok r h.1, flats_ok t h.2⟩
theorem inD_ok {w : Wd} {G : Hp} {x : D} {vx : V} (rx : Rep w G vx x) (h : flatD x = true) : ∀ {l : List D} {vs : List V}, Reps w G vs l → l.all flatD = true → inV vx vs = inD x l
  | _, _, .nil, _ => rfl
  | _, _, .cons r t, hl => by
    rw [List.all_cons, Bool.and_eq_true] at hl
    have e := inD_ok rx h t hl.2
    unfold inV inD at e ⊢
    rw [List.any_cons, List.any_cons, e, eqF_ok r rx hl.1 h]
def rdIn (neg : Bool) : RD2 := fun x y P => match y with
  | .lst l => flatD x = true ∧ l.all flatD = true ∧ P (.bl (if neg then !inD x l else inD x l))
  | .tup l => flatD x = true ∧ l.all flatD = true ∧ P (.bl (if neg then !inD x l else inD x l))
  | .str z => match x with
    | .str ⟨#[c]⟩ => P (.bl (if neg then !decide (c ∈ z.cps.toList) else decide (c ∈ z.cps.toList)))
    | _ => False
  | _ => False
theorem pr_in {X : Cx} : PR2 X (compareOp .In) (rdIn false) := by
  refine ⟨_, OpR.or op_in_seq op_in_sign, ?_⟩
  intro w G H x y vx vy P Q hK hm hp rx ry h hq
  cases y <;> first | exact h.elim | skip
  · cases x <;> first | exact h.elim | skip
    rename_i z s
    obtain ⟨⟨l⟩⟩ := s
    unfold rdIn at h
    match l, h, rx with
    | [c], h, rx =>
      cases rx
      cases ry
      exact .inr ⟨c, z, rfl, rfl, hq _ _ G H h (Post.refl hp) .bl⟩
    | [], h, _ => exact h.elim
    | _ :: _ :: _, h, _ => exact h.elim
  · cases ry with
    | lst h1 r1 =>
    exact .inl ⟨_, _, rfl, .inl (SqL.of (hp.exG _ _ h1)), flat_ok rx h.1, flats_ok r1 h.2.1, by rw [inD_ok rx h.1 r1 h.2.1]; exact hq _ _ G H h.2.2 (Post.refl hp) .bl⟩
  · cases ry with
    | tup h1 r1 =>
    exact .inl ⟨_, _, rfl, .inr (by rw [← hK]; exact hp.exG.tt h1), flat_ok rx h.1, flats_ok r1 h.2.1, by rw [inD_ok rx h.1 r1 h.2.1]; exact hq _ _ G H h.2.2 (Post.refl hp) .bl⟩
theorem pr_notIn {X : Cx} : PR2 X (compareOp .NotIn) (rdIn true) := by
  refine ⟨_, OpR.or op_notIn_seq op_notIn_sign, ?_⟩
  intro w G H x y vx vy P Q hK hm hp rx ry h hq
  cases y <;> first | exact h.elim | skip
  · cases x <;> first | exact h.elim | skip
    rename_i z s
    obtain ⟨⟨l⟩⟩ := s
    unfold rdIn at h
    match l, h, rx with
    | [c], h, rx =>
      cases rx
      cases ry
      exact .inr ⟨c, z, rfl, rfl, hq _ _ G H h (Post.refl hp) .bl⟩
    | [], h, _ => exact h.elim
    | _ :: _ :: _, h, _ => exact h.elim
  · cases ry with
    | lst h1 r1 =>
    exact .inl ⟨_, _, rfl, .inl (SqL.of (hp.exG _ _ h1)), flat_ok rx h.1, flats_ok r1 h.2.1, by rw [inD_ok rx h.1 r1 h.2.1]; exact hq _ _ G H h.2.2 (Post.refl hp) .bl⟩
  · cases ry with
    | tup h1 r1 =>
    exact .inl ⟨_, _, rfl, .inr (by rw [← hK]; exact hp.exG.tt h1), flat_ok rx h.1, flats_ok r1 h.2.1, by rw [inD_ok rx h.1 r1 h.2.1]; exact hq _ _ G H h.2.2 (Post.refl hp) .bl⟩
/-! ### unary minus -/
def wNeg (w : WE) : WE := fun env P R => w env (fun d e => match d with | .int i => P (.int (-i)) e | _ => False) R
theorem px_neg {X : Cx} {W : WX} {a : Expr} {wa : WE} {pos : Pos} (h : PX X W a wa) : PX X W (.UnaryOp .USub a pos) (wNeg wa) := by
  obtain ⟨t, a1, a2⟩ := h.ex
  refine ⟨⟨_, pe_un un_neg a1, fun F env σ G H P R Q hx hs hw hq hk => a2 F env σ G H _ R _ hx hs hw (fun d e1 v G1 H1 p s1 x1 r1 => ?_) hk⟩⟩
  cases d <;> first | exact p.elim | skip
  cases r1
  exact ⟨_, rfl, hq _ e1 _ G1 H1 p s1 x1 .int⟩
/-! ### built-ins -/
section
variable {X : Cx}
theorem Reps.inv1 {w : Wd} {G : Hp} {vs : List V} {d : D} (h : Reps w G vs [d]) : ∃ v, vs = [v] ∧ Rep w G v d := by
  cases h with
  | cons r t => cases t; exact ⟨_, rfl, r⟩
theorem Reps.inv2 {w : Wd} {G : Hp} {vs : List V} {d e : D} (h : Reps w G vs [d, e]) : ∃ v u, vs = [v, u] ∧ Rep w G v d ∧ Rep w G u e := by
  cases h with
  | cons r t =>
    obtain ⟨u, rfl, r2⟩ := t.inv1
    exact ⟨_, _, rfl, r, r2⟩
def rdLen : RDA := fun ds P => match ds with
  | [.str s] => s.length ≤ sizeLine ∧ P (.int (s.length : Int))
  | [.lst l] => P (.int (l.length : Int))
  | [.tup l] => P (.int (l.length : Int))
  | _ => False
theorem pc_len : PRA X (.builtin "len") rdLen := by
  refine ⟨_, call_len, ?_⟩
  intro w G H ds vs P Q hK hm hp rs h hq
  unfold rdLen at h
  split at h
  · obtain ⟨v, rfl, r⟩ := rs.inv1
    cases r
    exact ⟨_, _, rfl, ⟨h.1, rfl⟩, hq _ _ G H h.2 (Post.refl hp) .int⟩
  · obtain ⟨v, rfl, r⟩ := rs.inv1
    cases r with
    | lst h1 r1 => exact ⟨_, _, rfl, .inl ⟨_, SqL.of (hp.exG _ _ h1), r1.length.symm⟩, hq _ _ G H h (Post.refl hp) .int⟩
  · obtain ⟨v, rfl, r⟩ := rs.inv1
    cases r with
    | tup h1 r1 => exact ⟨_, _, rfl, .inr ⟨_, by rw [← hK]; exact hp.exG.tt h1, r1.length.symm⟩, hq _ _ G H h (Post.refl hp) .int⟩
  · exact h.elim
def rdAbs : RDA := fun ds P => match ds with
  | [.int i] => P (.int (if i < 0 then -i else i))
  | _ => False
theorem pc_abs : PRA X (.builtin "abs") rdAbs := by
  refine ⟨_, call_abs, ?_⟩
  intro w G H ds vs P Q hK hm hp rs h hq
  unfold rdAbs at h
  split at h
  · obtain ⟨v, rfl, r⟩ := rs.inv1
    cases r
    exact ⟨_, rfl, hq _ _ G H h (Post.refl hp) .int⟩
  · exact h.elim
theorem CallR.or {f : Value} {r r' : List V → Hp → VK → Prop} (h : CallR X f r) (h' : CallR X f r') : CallR X f (fun xs H Q => r xs H Q ∨ r' xs H Q) := by
  intro pins s σ H xs us Q I rx q
  rcases q with q | q
  · exact h pins s σ H xs us Q I rx q
  · exact h' pins s σ H xs us Q I rx q
def rdInt : RDA := fun ds P => match ds with
  | [.int i] => P (.int i)
  | [.bl k] => P (.int (if k then 1 else 0))
  | [.str s] => ∃ n, PySem.intText? s = some n ∧ s.length ≤ 640 ∧ P (.int n)
  | _ => False
theorem pc_int' : PRA X (.type "int") rdInt := by
  refine ⟨_, CallR.or call_int1 call_int_str, ?_⟩
  intro w G H ds vs P Q hK hm hp rs h hq
  unfold rdInt at h
  split at h
  · obtain ⟨v, rfl, r⟩ := rs.inv1
    cases r
    exact .inl (.inl ⟨_, rfl, hq _ _ G H h (Post.refl hp) .int⟩)
  · obtain ⟨v, rfl, r⟩ := rs.inv1
    cases r
    exact .inl (.inr ⟨_, rfl, hq _ _ G H h (Post.refl hp) .int⟩)
  · obtain ⟨v, rfl, r⟩ := rs.inv1
    cases r
    obtain ⟨n, h1, h2, h3⟩ := h
    exact .inr ⟨_, n, rfl, h1, h2, hq _ _ G H h3 (Post.refl hp) .int⟩
  · exact h.elim
def rdStr : RDA := fun ds P => match ds with
  | [.int i] => i.natAbs.log2 < 1920 ∧ P (.str (toString i))
  | _ => False
theorem pc_str : PRA X (.type "str") rdStr := by
  refine ⟨_, call_str_int, ?_⟩
  intro w G H ds vs P Q hK hm hp rs h hq
  unfold rdStr at h
  split at h
  · obtain ⟨v, rfl, r⟩ := rs.inv1
    cases r
    exact ⟨_, rfl, h.1, hq _ _ G H h.2 (Post.refl hp) .str⟩
  · exact h.elim
def signsD (s : Str) : List D := s.cps.toList.map fun c => .str ⟨#[c]⟩
theorem signs_rep {w : Wd} {G : Hp} : ∀ l : List Nat, Reps w G (l.map fun c => V.str ⟨#[c]⟩) (l.map fun c => D.str ⟨#[c]⟩)
  | [] => .nil
  | _ :: l => .cons .str (signs_rep l)
theorem vals_signs {xs : List V} {us : List Value} (hl : xs.length = us.length) (h : ∀ (i : Nat) (x : V) (u : Value), xs[i]? = some x → us[i]? = some u → RelV x u) : Vals xs us := by
  induction xs generalizing us with
  | nil =>
    cases us with
    | nil => exact .nil
    | cons _ _ => cases hl
  | cons x xs ih =>
    cases us with
    | nil => cases hl
    | cons u us => exact .cons (h 0 x u rfl rfl) (ih (by simpa using hl) fun i y z a b => h (i + 1) y z a b)
theorem call_list_str' (hc : X.calm = true) : CallR X (.type "list") (fun xs H Q => ∃ s, xs = [.str s] ∧ s.cps.size ≤ sizeLine ∧ ∀ l, H l = none → Q (.ref l) (upd H l (.lst (s.cps.toList.map fun c => V.str ⟨#[c]⟩)))) := by
  intro pins s σ H xs us Q I r h
  obtain ⟨z, rfl, hz, q⟩ := h
  obtain ⟨u, rfl, rx⟩ := vals1 r
  obtain ⟨t, rfl⟩ := rx
  refine call_list_str (hn := hz) (I.ok.hd hc) z t fun h' tk acc' c' hk hS' hacc => ?_
  have hn : H s.heap.objs.size = none := I.hok.fresh (Nat.le_refl _)
  refine ⟨.ref s.heap.objs.size, _, I.laid (t' := tk) hk (Nat.le_refl _) ?_, rfl, q _ hn⟩
  refine ⟨by rw [List.length_map]; simpa using hz, acc'.toList, c', vals_signs ?_ ?_, by simpa using hS'⟩
  · rw [List.length_map, Array.length_toList, Array.length_toList, hacc.1]
  · intro i x u e1 e2
    rw [List.getElem?_map] at e1
    cases e3 : z.cps.toList[i]? with
    | none => rw [e3] at e1; cases e1
    | some c =>
      rw [e3] at e1
      cases e1
      have e4 : acc'[i]? = some u := by rw [← Array.getElem?_toList]; exact e2
      obtain ⟨c2, tk2, e5, e6⟩ := hacc.2 i u e4
      rw [← Array.getElem?_toList, e3] at e5
      cases e5
      exact ⟨tk2, e6⟩
def rdList : RDA := fun ds P => match ds with
  | [.lst l] => P (.lst l)
  | [.tup l] => P (.lst l)
  | [.str s] => s.cps.size ≤ sizeLine ∧ P (.lst (signsD s))
  | _ => False
theorem pc_list (hc : X.calm = true) : PRA X (.type "list") rdList := by
  refine ⟨_, CallR.or call_list_of (call_list_str' hc), ?_⟩
  intro w G H ds vs P Q hK hm hp rs h hq
  unfold rdList at h
  split at h
  · obtain ⟨v, rfl, r⟩ := rs.inv1
    cases r with
    | lst h1 r1 =>
      refine .inl ⟨_, _, rfl, .inl (SqL.of (hp.exG _ _ h1)), fun l hl => ?_⟩
      exact hq _ _ _ _ h (Post.new1 hp hl) (.lst upd_same (r1.mono (Post.new1 hp hl).ex))
  · obtain ⟨v, rfl, r⟩ := rs.inv1
    cases r with
    | tup h1 r1 =>
      refine .inl ⟨_, _, rfl, .inr (by rw [← hK]; exact hp.exG.tt h1), fun l hl => ?_⟩
      exact hq _ _ _ _ h (Post.new1 hp hl) (.lst upd_same (r1.mono (Post.new1 hp hl).ex))
  · obtain ⟨v, rfl, r⟩ := rs.inv1
    cases r
    refine .inr ⟨_, rfl, h.1, fun l hl => ?_⟩
    exact hq _ _ _ _ h.2 (Post.new1 hp hl) (.lst upd_same (signs_rep _))
  · exact h.elim
def rdTuple : RDA := fun ds P => match ds with
  | [.lst l] => P (.tup l)
  | [.tup l] => P (.tup l)
  | _ => False
theorem pc_tuple : PRA X (.type "tuple") rdTuple := by
  refine ⟨_, call_tuple_of, ?_⟩
  intro w G H ds vs P Q hK hm hp rs h hq
  unfold rdTuple at h
  split at h
  · obtain ⟨v, rfl, r⟩ := rs.inv1
    cases r with
    | lst h1 r1 =>
      refine ⟨_, _, rfl, .inl ⟨SqL.of (hp.exG _ _ h1), fun l hl => ?_⟩⟩
      exact hq _ _ _ _ h (Post.new1 hp hl) (.tup upd_same (r1.mono (Post.new1 hp hl).ex))
  · obtain ⟨v, rfl, r⟩ := rs.inv1
    cases r with
    | tup h1 r1 => exact ⟨_, _, rfl, .inr ⟨by rw [← hK]; exact hp.exG.tt h1, hq _ _ G H h (Post.refl hp) (.tup h1 r1)⟩⟩
  · exact h.elim
/-- a list of bools -/
def bools : List D → Option (List Bool)
  | [] => some []
  | .bl b :: l => (bools l).map (b :: ·)
  | _ :: _ => none
theorem bools_ok {w : Wd} {G : Hp} : ∀ {vs : List V} {l : List D} {bs : List Bool}, Reps w G vs l → bools l = some bs → vs = bs.map V.bl
  | _, _, bs, .nil, e => by cases e; rfl
  | _, .bl b :: l, bs, .cons r t, e => by
    unfold bools at e
    cases e2 : bools l with
    | none => rw [e2] at e; cases e
    | some cs =>
      rw [e2] at e
      cases e
      cases r
      rw [bools_ok t e2]
      rfl
  | _, .non :: l, bs, .cons r t, e => by cases e
  | _, .int _ :: l, bs, .cons r t, e => by cases e
  | _, .str _ :: l, bs, .cons r t, e => by cases e
  | _, .lst _ :: l, bs, .cons r t, e => by cases e
  | _, .tup _ :: l, bs, .cons r t, e => by cases e
  | _, .bag :: l, bs, .cons r t, e => by cases e
  | _, .ins _ _ :: l, bs, .cons r t, e => by cases e
  | _, .dk _ :: l, bs, .cons r t, e => by cases e
  | _, .dt _ :: l, bs, .cons r t, e => by cases e
def rdAll : RDA := fun ds P => match ds with
  | [.lst l] => ∃ bs, bools l = some bs ∧ P (.bl (bs.all id))
  | _ => False
def rdAny : RDA := fun ds P => match ds with
  | [.lst l] => ∃ bs, bools l = some bs ∧ P (.bl (bs.any id))
  | _ => False
theorem pc_all (hc : X.calm = true) : PRA X (.builtin "all") rdAll := by
  refine ⟨_, cr_all hc, ?_⟩
  intro w G H ds vs P Q hK hm hp rs h hq
  unfold rdAll at h
  split at h
  · obtain ⟨v, rfl, r⟩ := rs.inv1
    obtain ⟨bs, e, h⟩ := h
    cases r with
    | lst h1 r1 =>
      have e2 := bools_ok r1 e
      subst e2
      exact ⟨_, bs, rfl, SqL.of (hp.exG _ _ h1), hq _ _ G H h (Post.refl hp) .bl⟩
  · exact h.elim
theorem pc_any (hc : X.calm = true) : PRA X (.builtin "any") rdAny := by
  refine ⟨_, cr_any hc, ?_⟩
  intro w G H ds vs P Q hK hm hp rs h hq
  unfold rdAny at h
  split at h
  · obtain ⟨v, rfl, r⟩ := rs.inv1
    obtain ⟨bs, e, h⟩ := h
    cases r with
    | lst h1 r1 =>
      have e2 := bools_ok r1 e
      subst e2
      exact ⟨_, bs, rfl, SqL.of (hp.exG _ _ h1), hq _ _ G H h (Post.refl hp) .bl⟩
  · exact h.elim
end
end Pu
set_option maxRecDepth 100000
/-! Rules of the pure layer: subscripts, walks, comprehensions, statements, calls, defs -/
namespace Pu
open PySem L2

/-! ### the canonical readings -/
def tE (C : Fc → Prop) (W : WX) (w : WE) : TE := fun σ H Q => ∃ (F : Fc) (env : En) (G : Hp) (P : D → En → Prop) (R : QX), C F ∧ SI F env σ G H ∧ w env P R ∧
  (∀ d env' v G' H', P d env' → SI F env' σ G' H' → Ex G G' → Rep F.wd G' v d → Q v H') ∧ XK' F W σ R
def tTs (C : Fc → Prop) (W : WX) (w : WT) : TT := fun σ H Q => ∃ (F : Fc) (env : En) (G : Hp) (P : Bool → En → Prop) (R : QX), C F ∧ SI F env σ G H ∧ w env P R ∧
  (∀ d env' G' H', P d env' → SI F env' σ G' H' → Ex G G' → Q d H') ∧ XK' F W σ R
theorem PX.can {X : Cx} {W : WX} {e : Expr} {w : WE} (h : PX X W e w) : PE X e (tE (XOk X) W w) := by
  obtain ⟨t, h1, h2⟩ := h.ex
  refine ⟨fun pins s σ H Q I hq => ?_⟩
  obtain ⟨F, env, G, P, R, hx, hs, hw, hk, hr⟩ := hq
  exact h1.run pins s σ H Q I (h2 F env σ G H P R Q hx hs hw hk hr)
theorem PXT.can {X : Cx} {W : WX} {e : Expr} {w : WT} (h : PXT X W e w) : PT X e (tTs (XOk X) W w) := by
  obtain ⟨t, h1, h2⟩ := h.ex
  refine ⟨fun pins s σ H Q I hq => ?_⟩
  obtain ⟨F, env, G, P, R, hx, hs, hw, hk, hr⟩ := hq
  exact h1.run pins s σ H Q I (h2 F env σ G H P R Q hx hs hw hk hr)

/-! ### subscripts, slices -/
def rdIx : RD2 := fun x i P => match x, i with
  | .lst l, .int k => ∃ d, atI l k = some d ∧ P d
  | .tup l, .int k => ∃ d, atI l k = some d ∧ P d
  | .str s, .int k => s.length ≤ sizeLine ∧ ∃ c, atI s.cps.toList k = some c ∧ P (.str ⟨#[c]⟩)
  | _, _ => False
theorem Reps.atI {w : Wd} {G : Hp} {vs : List V} {ds : List D} {k : Int} {d : D} (h : Reps w G vs ds) (e : atI ds k = some d) : ∃ v, atI vs k = some v ∧ Rep w G v d := by
  unfold L2.atI at e ⊢
  rw [h.length]
  cases e2 : ixN ds.length k with
  | none => rw [e2] at e; cases e
  | some j =>
    rw [e2] at e
    exact h.getD e
section
variable {X : Cx} {W : WX} {a b : Expr} {wa wb : WE} {pos : Pos}
theorem px_ix (ha : PX X W a wa) (hb : PX X W b wb) (hs : PlainIx b) : PX X W (.Subscript a b pos) (wOp rdIx wa wb) := by
  obtain ⟨ta, a1, a2⟩ := ha.ex
  obtain ⟨tb, b1, b2⟩ := hb.ex
  refine ⟨⟨_, pe_ix ix_seq a1 b1 hs, run2 ?_ a2 b2⟩⟩
  intro w G H x y vx vy P Q hK hm hp rx ry h hq
  cases x <;> first | exact h.elim | skip
  · cases y <;> first | exact h.elim | skip
    cases rx
    cases ry
    obtain ⟨h1, c, h2, h3⟩ := h
    exact .inr (.inr ⟨_, _, c, rfl, rfl, h1, h2, hq _ _ G H h3 (Post.refl hp) .str⟩)
  · cases y <;> first | exact h.elim | skip
    cases ry
    obtain ⟨d, h1, h2⟩ := h
    cases rx with
    | lst l1 r1 =>
      obtain ⟨v, e1, r2⟩ := r1.atI h1
      exact .inl ⟨_, _, _, v, rfl, rfl, SqL.of (hp.exG _ _ l1), e1, hq _ _ G H h2 (Post.refl hp) r2⟩
  · cases y <;> first | exact h.elim | skip
    cases ry
    obtain ⟨d, h1, h2⟩ := h
    cases rx with
    | tup l1 r1 =>
      obtain ⟨v, e1, r2⟩ := r1.atI h1
      exact .inr (.inl ⟨_, _, _, v, rfl, rfl, by rw [← hK]; exact hp.exG.tt l1, e1, hq _ _ G H h2 (Post.refl hp) r2⟩)
abbrev WO := En → (Option Int → En → Prop) → QX → Prop
structure PXO (X : Cx) (W : WX) (e : Option Expr) (w : WO) : Prop where
  ex : ∃ t, PO X e t ∧ ∀ (F : Fc) (env : En) (σ : L2.St) (G H : Hp) (P : Option Int → En → Prop) (R : QX) (Q : Option Int → Hp → Prop), XOk X F → SI F env σ G H → w env P R →
    (∀ d env' G' H', P d env' → SI F env' σ G' H' → Ex G G' → Q d H') → XK' F W σ R → t σ H Q
def wNoPart : WO := fun env P _ => P none env
def wPart (w : WE) : WO := fun env P R => w env (fun d e => match d with | .int i => P (some i) e | _ => False) R
theorem po_none' : PXO X W none wNoPart := ⟨⟨_, po_none, fun F env σ G H P R Q hx hs hw hq hk => hq _ env G H hw hs (Ex.refl _)⟩⟩
theorem po_some' (h : PX X W a wa) : PXO X W (some a) (wPart wa) := by
  obtain ⟨t, a1, a2⟩ := h.ex
  refine ⟨⟨_, po_some a1, fun F env σ G H P R Q hx hs hw hq hk => a2 F env σ G H _ R _ hx hs hw (fun d e1 v G1 H1 p s1 x1 r1 => ?_) hk⟩⟩
  cases d <;> first | exact p.elim | skip
  cases r1
  exact ⟨_, rfl, hq _ e1 G1 H1 p s1 x1⟩
def cutD {α : Type} (xs : List α) (lo hi : Option Int) : List α := (xs.drop (HT.sIx xs.length 0 lo)).take (HT.sIx xs.length xs.length hi - HT.sIx xs.length 0 lo)
theorem Reps.drop {w : Wd} {G : Hp} : ∀ {vs : List V} {ds : List D} (n : Nat), Reps w G vs ds → Reps w G (vs.drop n) (ds.drop n)
  | _, _, 0, h => h
  | _, _, n + 1, .nil => .nil
  | _, _, n + 1, .cons _ t => t.drop n
theorem Reps.take {w : Wd} {G : Hp} : ∀ {vs : List V} {ds : List D} (n : Nat), Reps w G vs ds → Reps w G (vs.take n) (ds.take n)
  | _, _, 0, h => .nil
  | _, _, n + 1, .nil => .nil
  | _, _, n + 1, .cons r t => .cons r (t.take n)
theorem Reps.cut {w : Wd} {G : Hp} {vs : List V} {ds : List D} (h : Reps w G vs ds) (lo hi : Option Int) : Reps w G (cutV vs lo hi) (cutD ds lo hi) := by
  unfold cutV cutD
  rw [h.length]
  exact (h.drop _).take _
def rdSl (x : D) (lo hi : Option Int) (P : D → Prop) : Prop := match x with
  | .str s => s.length ≤ sizeLine ∧ P (.str (cutS s lo hi))
  | .lst l => P (.lst (cutD l lo hi))
  | .tup l => P (.tup (cutD l lo hi))
  | _ => False
def wSl (w : WE) (wl wh : WO) : WE := fun env P R => w env (fun d e => wl e (fun lo e1 => wh e1 (fun hi e2 => rdSl d lo hi fun z => P z e2) R) R) R
theorem sIx_whole {α : Type} (xs : List α) (lo hi : Option Int) (h : HT.sIx xs.length 0 lo = 0 ∧ HT.sIx xs.length xs.length hi = xs.length) : cutD xs lo hi = xs := by
  unfold cutD
  rw [h.1, h.2, List.drop_zero, Nat.sub_zero, List.take_length]
theorem px_slice {lo hi : Option Expr} {wl wh : WO} {p2 : Pos} (ha : PX X W a wa) (hl : PXO X W lo wl) (hh : PXO X W hi wh) : PX X W (.Subscript a (.Slice lo hi none p2) pos) (wSl wa wl wh) := by
  obtain ⟨ta, a1, a2⟩ := ha.ex
  obtain ⟨tl, l1, l2⟩ := hl.ex
  obtain ⟨th, h1, h2⟩ := hh.ex
  refine ⟨⟨_, pe_slice (sl_str.or (sl_list.or sl_tupA)) a1 l1 h1, fun F env σ G H P R Q hx hs hw hq hk => a2 F env σ G H _ R _ hx hs hw (fun d e1 v G1 H1 p1 s1 x1 r1 => ?_) hk⟩⟩
  refine l2 F e1 σ G1 H1 _ R _ hx s1 p1 (fun lo e2 G2 H2 p2 s2 x2 => h2 F e2 σ G2 H2 _ R _ hx s2 p2 (fun hi e3 G3 H3 p s3 x3 => ?_) hk) hk
  have r3 := r1.mono (x2.trans x3)
  have x0 := (x1.trans x2).trans x3
  unfold rdSl at p
  cases d <;> first | exact p.elim | skip
  · cases r3
    exact .inl ⟨_, rfl, p.1, hq _ e3 _ G3 H3 p.2 s3 x0 .str⟩
  · cases r3 with
    | lst q1 q2 =>
      exact .inr (.inl ⟨_, _, rfl, SqL.of (s3.exG _ _ q1), fun l hl => hq _ e3 _ _ _ p (s3.step (Post.new1 s3.pre hl)) (x0.trans (Post.new1 s3.pre hl).ex) (.lst upd_same ((q2.cut lo hi).mono (Post.new1 s3.pre hl).ex))⟩)
  · cases r3 with
    | tup q1 q2 =>
      refine .inr (.inr ⟨_, _, rfl, by rw [← hx.k]; exact s3.exG.tt q1, fun hz => ?_, fun hz l hl => ?_⟩)
      · rw [q2.length] at hz
        have p' : P (.tup (cutD _ lo hi)) e3 := p
        rw [sIx_whole _ lo hi hz] at p'
        exact hq _ e3 _ G3 H3 p' s3 x0 (.tup q1 q2)
      · exact hq _ e3 _ _ _ p (s3.step (Post.new1 s3.pre hl)) (x0.trans (Post.new1 s3.pre hl).ex) (.tup upd_same ((q2.cut lo hi).mono (Post.new1 s3.pre hl).ex))
/-! ### isinstance -/
def kindD : D → Option String
  | .non => some "NoneType"
  | .bl _ => some "bool"
  | .int _ => some "int"
  | .str _ => some "str"
  | .lst _ => some "list"
  | .tup _ => some "tuple"
  | .dk _ => some "dict"
  | _ => none
theorem kind_ok {w : Wd} {G H : Hp} {v : V} {d : D} {k : String} (r : Rep w G v d) (e : Ex G H) (h : kindD d = some k) : TyX w.K H v (.type k) := by
  cases r <;> unfold kindD at h <;> first | cases h | skip
  all_goals first
    | exact .base .non
    | exact .base (.bl _)
    | exact .base (.int _)
    | exact .base (.str _)
    | (rename_i h1 _; exact .base (.lst (e _ _ h1)))
    | skip
  · rename_i h1 _
    exact .base (.tup (e _ _ h1))
  · rename_i h1 _
    exact .fDict (e _ _ h1)
/-- the built-in types that isinstance asks for -/
inductive TyN where
  | str | int | bool | list | tuple | dict
def TyN.nm : TyN → String
  | .str => "str" | .int => "int" | .bool => "bool" | .list => "list" | .tuple => "tuple" | .dict => "dict"
def isTD : D → TyN → Option Bool
  | .non, _ => some false
  | .bl _, .bool => some true
  | .bl _, .int => some true
  | .bl _, _ => some false
  | .int _, .int => some true
  | .int _, _ => some false
  | .str _, .str => some true
  | .str _, _ => some false
  | .lst _, .list => some true
  | .lst _, _ => some false
  | .tup _, .tuple => some true
  | .tup _, _ => some false
  | .ins _ _, _ => some false
  | .dk _, .dict => some true
  | .dk _, _ => some false
  | _, _ => none
/-- the type of data -/
def TyD (w : Wd) (d : D) (t : Value) : Prop := match d with
  | .ins c _ => w.mg c = some t
  | d => ∃ k, kindD d = some k ∧ t = .type k
theorem TyD.eq {w : Wd} {d : D} {t t' : Value} (h : TyD w d t) (h' : TyD w d t') : t = t' := by
  cases d with
  | ins c fs =>
    have h1 : w.mg c = some t := h
    have h2 : w.mg c = some t' := h'
    rw [h1] at h2
    exact Option.some.inj h2
  | _ =>
    obtain ⟨k, e, rfl⟩ := h
    obtain ⟨k', e', rfl⟩ := h'
    rw [e] at e'
    cases e'
    rfl
theorem isTD_ok {w : Wd} {G H : Hp} {v : V} {d : D} {T : TyN} {b : Bool} (r : Rep w G v d) (e : Ex G H) (h : isTD d T = some b) : ∃ t, TyD w d t ∧ TyX w.K H v t ∧ PySem.W.kitOne w.K t (.type T.nm) = some b := by
  have basic : (∀ k, kindD d = some k → TyD w d (.type k)) → (∃ k, kindD d = some k ∧ kitB k T.nm = some b) → ∃ t, TyD w d t ∧ TyX w.K H v t ∧ PySem.W.kitOne w.K t (.type T.nm) = some b := fun h0 ⟨k, h1, h2⟩ => ⟨_, h0 k h1, kind_ok r e h1, kit_ty h2⟩
  cases d with
  | ins c fs =>
    have hb : b = false := by cases T <;> (cases h; rfl)
    subst hb
    cases r with
    | ins h1 hc h2 r =>
    refine ⟨_, h1, .base (.ins (e _ _ h2) hc.cl hc.ha hc.hn hc.htk hc.hm), ?_⟩
    have q := hc.bt T.nm (by cases T <;> decide)
    have q2 : PySem.W.kitMeta T.nm = true := by cases T <;> decide +kernel
    unfold PySem.W.kitOne
    rw [if_neg (by intro z; cases (beq_iff_eq.mp z))]
    show (if PySem.W.kitMeta T.nm = true then PySem.W.subIn w.K _ (.type T.nm) else none) = _
    rw [if_pos q2]
    exact q
  | _ =>
    refine basic (fun k h => ⟨k, h, rfl⟩) ?_
    cases T <;> first | (cases h; done) | skip
    all_goals
      cases h
      refine ⟨_, rfl, ?_⟩
      decide +kernel
/-- isinstance(e, T), T a built-in type -/
def wIsi (T : TyN) (w : WE) : WE := fun env P R => w env (fun d e => match isTD d T with
  | some b => P (.bl b) e
  | none => False) R
theorem px_isi (Tn : TyN) {T : Str} {p p2 : Pos} (hg : Gl X "isinstance") (hm : X.mg "isinstance" = none) (hgT : Gl X T) (hmT : X.mg T = none) (hvT : bootBuiltins T = some (.type Tn.nm)) (ha : PX X W a wa) (hnT : T ≠ "__name__" := by decide) (hdT : (T == ("__debug__" : Str)) = false := by decide)
    (he : starEach (a :: [.Name T p2]) X.env = (false, eval a X.env) :: starEach [.Name T p2] X.env := by rfl) (hpl : (backTo pos (starEach [.Name T p2] X.env)).any (·.1) = false := by rfl) (he2 : starEach [.Name T p2] X.env = (false, eval (.Name T p2) X.env) :: starEach [] X.env := by rfl) :
    PX X W (.Call (.Name "isinstance" p) [a, .Name T p2] [] pos) (wIsi Tn wa) := by
  obtain ⟨t, a1, a2⟩ := ha.ex
  have hT : PE X (.Name T p2) (tC (.ty Tn.nm)) := pe_bltn hgT hmT hvT rfl hnT hdT
  refine ⟨⟨_, pe_callB call_isi hg hm (by decide +kernel) (pa_cons a1 (pa_cons hT pa_nil he2) he) (by decide) (by decide) he hpl, fun F env σ G H P R Q hx hs hw hq hk => a2 F env σ G H _ R _ hx hs hw (fun d e1 v G1 H1 p s1 x1 r1 => ?_) hk⟩⟩
  cases e0 : isTD d Tn with
  | none => rw [e0] at p; exact p.elim
  | some bb =>
    rw [e0] at p
    obtain ⟨t, _, ty, h1⟩ := isTD_ok r1 s1.exG e0
    rw [hx.k] at ty h1
    exact ⟨v, _, _, _, bb, rfl, .ty _, ty, h1, hq _ e1 _ G1 H1 p s1 x1 .bl⟩
/-- isinstance(e, (T, U)) -/
def wIsi2 (T U : TyN) (w : WE) : WE := fun env P R => w env (fun d e => match isTD d T, isTD d U with
  | some b, some c => P (.bl (b || c)) e
  | _, _ => False) R
theorem px_isi2 (Tn Un : TyN) {T U : Str} {p p2 p3 p4 : Pos} {kk} (hg : Gl X "isinstance") (hm : X.mg "isinstance" = none) (hgT : Gl X T) (hmT : X.mg T = none) (hvT : bootBuiltins T = some (.type Tn.nm)) (hgU : Gl X U) (hmU : X.mg U = none) (hvU : bootBuiltins U = some (.type Un.nm)) (ha : PX X W a wa)
    (hnT : T ≠ "__name__" := by decide) (hdT : (T == ("__debug__" : Str)) = false := by decide) (hnU : U ≠ "__name__" := by decide) (hdU : (U == ("__debug__" : Str)) = false := by decide)
    (he : starEach (a :: [.Tuple [.Name T p2, .Name U p3] kk p4]) X.env = (false, eval a X.env) :: starEach [.Tuple [.Name T p2, .Name U p3] kk p4] X.env := by rfl) (hpl : (backTo pos (starEach [.Tuple [.Name T p2, .Name U p3] kk p4] X.env)).any (·.1) = false := by rfl) (he2 : starEach [.Tuple [.Name T p2, .Name U p3] kk p4] X.env = (false, eval (.Tuple [.Name T p2, .Name U p3] kk p4) X.env) :: starEach [] X.env := by rfl)
    (he3 : starEach [.Name T p2, .Name U p3] X.env = (false, eval (.Name T p2) X.env) :: starEach [.Name U p3] X.env := by rfl) (he4 : starEach [.Name U p3] X.env = (false, eval (.Name U p3) X.env) :: starEach [] X.env := by rfl) :
    PX X W (.Call (.Name "isinstance" p) [a, .Tuple [.Name T p2, .Name U p3] kk p4] [] pos) (wIsi2 Tn Un wa) := by
  obtain ⟨t, a1, a2⟩ := ha.ex
  have hT : PE X (.Name T p2) (tC (.ty Tn.nm)) := pe_bltn hgT hmT hvT rfl hnT hdT
  have hU : PE X (.Name U p3) (tC (.ty Un.nm)) := pe_bltn hgU hmU hvU rfl hnU hdU
  refine ⟨⟨_, pe_callB call_isiT hg hm (by decide +kernel) (pa_cons a1 (pa_cons (pe_tup (pa_cons hT (pa_cons hU pa_nil he4) he3)) pa_nil he2) he) (by decide) (by decide) he hpl, fun F env σ G H P R Q hx hs hw hq hk => a2 F env σ G H _ R _ hx hs hw (fun d e1 v G1 H1 p s1 x1 r1 => ?_) hk⟩⟩
  cases e0 : isTD d Tn with
  | none => rw [e0] at p; exact p.elim
  | some bb =>
    cases e2 : isTD d Un with
    | none => rw [e0, e2] at p; exact p.elim
    | some cc =>
    rw [e0, e2] at p
    refine ⟨by show 2 ≤ sizeLine; decide, fun l hl => ?_⟩
    have po := Post.new1 (o := .tup [.ty Tn.nm, .ty Un.nm]) s1.pre hl
    have s2 := s1.step po
    obtain ⟨t, td, ty, h1⟩ := isTD_ok (r1.mono po.ex) s2.exG e0
    obtain ⟨t', td', ty', h3⟩ := isTD_ok (r1.mono po.ex) s2.exG e2
    have tt : t' = t := td'.eq td
    subst tt
    rw [hx.k] at ty h1 h3
    refine ⟨v, l, _, _, [.type Tn.nm, .type Un.nm], bb || cc, rfl, upd_same, .cons (.ty _) (.cons (.ty _) .nil), ty, ?_, hq _ e1 _ _ _ p s2 (x1.trans po.ex) .bl⟩
    refine kitAny_cons h1 (fun z => ?_) (fun z => by rw [z]; rfl)
    subst z
    refine kitAny_cons h3 (fun z => ?_) (fun z => by rw [z]; rfl)
    subst z
    rfl
end

/-! ### what is walked -/
structure Wk (F : Fc) (G1 : Hp) (J : It) (ds : List D) : Prop where
  ex : ∃ (Gd : Hp → Prop) (Y : Nat → Hp → V → Hp → Prop), Walk J ds.length Gd Y ∧ (∀ G2 H2, Ex G1 G2 → Ex G2 H2 → Gd H2) ∧
    ∀ i H2 v H3 G2, Y i H2 v H3 → Pre F.wd G2 H2 → Ex G1 G2 → ∃ d G3, ds[i]? = some d ∧ Post F.wd G2 H2 G3 H3 ∧ Rep F.wd G3 v d
structure PXI (X : Cx) (W : WX) (tg iter : Expr) (w : WA) : Prop where
  ex : ∃ wi : TI, PI X tg iter wi ∧ ∀ (F : Fc) (env : En) (σ : L2.St) (G H : Hp) (P : List D → En → Prop) (R : QX) (Rq : It → Hp → Prop), XOk X F → SI F env σ G H → w env P R →
    (∀ ds env' J G' H', P ds env' → SI F env' σ G' H' → Ex G G' → Wk F G' J ds → Rq J H') → XK' F W σ R → wi σ H Rq
def iSeq (K : PySem.W.Frag) (tl : TE) : TI := fun σ H R => tl σ H fun x H1 => (∃ a, x = .ref a ∧ (∃ xs, SqL K H1 a xs) ∧ R (Itl K a) H1) ∨ (∃ a, x = .ref a ∧ (∃ xs, SqT K H1 a xs) ∧ R (Itt K a) H1) ∨ ∃ z, x = .str z ∧ R (Its z) H1
section
variable {X : Cx} {W : WX} {tg : Expr}
/-- an expression that stands for a value which has come -/
theorem pi_seq {l : Expr} {tl : TE} (hl : PE X l tl) : PI X tg l (iSeq X.K tl) := by
  refine ⟨fun pins s σ H R I h => ?_⟩
  refine thn (hl.run pins s σ H _ I h) fun v s1 ⟨x, H1, I1, r1, q1⟩ => ?_
  rcases q1 with ⟨a, e, ⟨xs, hq⟩, q⟩ | ⟨a, e, ⟨xs, hq⟩, q⟩ | ⟨z, e, q⟩
  · subst e
    cases r1
    obtain ⟨its, rv, p, hz⟩ := I1.list hq
    refine wpAny_pyIter_list p.isList ?_
    refine ⟨s1.heap.objs.size, [s1.heap.objs.size], _, _, H1, rfl, I1.kept (t' := s1.toks) fun b o e => Heap.get?_push_of_some _ e, turn_list a _, ⟨_, Heap.get?_push_size _ rfl, rfl, rfl⟩, fun b hb => ?_, q⟩
    have e : b = s1.heap.objs.size := by simpa using hb
    subst e
    exact I1.fpOk (Nat.le_refl _) (I1.hok.fresh (Nat.le_refl _))
  · subst e
    cases r1
    obtain ⟨its, rv, p, hz⟩ := I1.tuple hq
    refine wpAny_pyIter_tuple (show s1.heap.IsTuple a its.toArray from p) ?_
    refine ⟨s1.heap.objs.size, [s1.heap.objs.size], _, _, H1, rfl, I1.kept (t' := s1.toks) fun b o e => Heap.get?_push_of_some _ e, turn_tuple a _, ⟨_, Heap.get?_push_size _ rfl, rfl, rfl⟩, fun b hb => ?_, q⟩
    have e : b = s1.heap.objs.size := by simpa using hb
    subst e
    exact I1.fpOk (Nat.le_refl _) (I1.hok.fresh (Nat.le_refl _))
  · subst e
    obtain ⟨t, rfl⟩ := r1
    cases ha : z.cps.all (· < 128)
    · exact wpAny_pyIter_wide ha (pi_one (tk := s1.toks) I1 _ (turn_str _ z t "str_iterator" (.inr rfl)) ⟨_, Heap.get?_push_size _ rfl, rfl, rfl⟩ q)
    · exact wpAny_pyIter_ascii ha (pi_one (tk := s1.toks) I1 _ (turn_str _ z t "str_ascii_iterator" (.inl rfl)) ⟨_, Heap.get?_push_size _ rfl, rfl, rfl⟩ q)
def rdIt (d : D) (P : List D → Prop) : Prop := match d with
  | .lst l => P l
  | .tup l => P l
  | .str s => P (signsD s)
  | _ => False
def wIt (w : WE) : WA := fun env P R => w env (fun d e => rdIt d fun l => P l e) R
theorem pi_it {e : Expr} {w : WE} (h : PX X W e w) : PXI X W tg e (wIt w) := by
  obtain ⟨t, a1, a2⟩ := h.ex
  refine ⟨⟨_, pi_seq a1, fun F env σ G H P R Rq hx hs hw hq hk => a2 F env σ G H _ R _ hx hs hw (fun d e1 v G1 H1 p s1 x1 r1 => ?_) hk⟩⟩
  unfold rdIt at p
  cases d <;> first | exact p.elim | skip
  · cases r1
    rename_i z
    refine .inr (.inr ⟨z, rfl, hq _ e1 _ G1 H1 p s1 x1 ⟨⟨fun _ => True, fun i H v H' => H' = H ∧ ∃ c, z.cps[i]? = some c ∧ v = .str ⟨#[c]⟩, ?_, fun _ _ _ _ => trivial, fun i H2 v H3 G2 y hp _ => ?_⟩⟩⟩)
    · have q := walk_str (z := z)
      have e : (signsD z).length = z.cps.size := by unfold signsD; rw [List.length_map, Array.length_toList]
      rw [e]
      exact q
    · obtain ⟨rfl, c, hc, rfl⟩ := y
      refine ⟨_, G2, ?_, Post.refl hp, .str⟩
      unfold signsD
      rw [List.getElem?_map, Array.getElem?_toList, hc]
      rfl
  · cases r1 with
    | lst l1 l2 =>
      refine .inl ⟨_, rfl, ⟨_, SqL.of (s1.exG _ _ l1)⟩, hq _ e1 _ G1 H1 p s1 x1 ⟨⟨_, _, by rw [← l2.length]; exact walk_list, fun G2 H2 y1 y2 => SqL.of (y2 _ _ (y1 _ _ l1)), fun i H2 v H3 G2 y hp y1 => ?_⟩⟩⟩
      obtain ⟨rfl, e⟩ := y
      obtain ⟨d, e2, r⟩ := l2.get e
      exact ⟨d, G2, e2, Post.refl hp, r.mono y1⟩
  · cases r1 with
    | tup l1 l2 =>
      refine .inr (.inl ⟨_, rfl, ⟨_, by rw [← hx.k]; exact s1.exG.tt l1⟩, hq _ e1 _ G1 H1 p s1 x1 ⟨⟨_, _, by rw [← l2.length]; exact walk_tup, fun G2 H2 y1 y2 => by rw [← hx.k]; exact y2.tt (y1 _ _ l1), fun i H2 v H3 G2 y hp y1 => ?_⟩⟩⟩)
      obtain ⟨rfl, e⟩ := y
      obtain ⟨d, e2, r⟩ := l2.get e
      exact ⟨d, G2, e2, Post.refl hp, r.mono y1⟩
def rangeD (lo : Int) (n : Nat) : List D := (List.range n).map fun (i : Nat) => D.int (lo + (i : Int))
theorem range_wk {F : Fc} {G1 : Hp} (lo : Int) (n : Nat) : Wk F G1 (Itr lo n) (rangeD lo n) := by
  have e : (rangeD lo n).length = n := by unfold rangeD; simp
  refine ⟨⟨fun _ => True, fun i H v H' => i < n ∧ H' = H ∧ v = .int (lo + i), ?_, fun _ _ _ _ => trivial, fun i H2 v H3 G2 y hp _ => ?_⟩⟩
  · rw [e]
    exact walk_range.mono (fun _ h => h) fun i H x H' hi _ y => ⟨hi, y⟩
  · obtain ⟨hi, rfl, rfl⟩ := y
    refine ⟨_, G2, ?_, Post.refl hp, .int⟩
    unfold rangeD
    rw [List.getElem?_map, List.getElem?_range hi]
    rfl
def wRng1 (w : WE) : WA := fun env P R => w env (fun d e => match d with | .int j => (-(2 ^ 62) ≤ j ∧ j < 2 ^ 62) ∧ P (rangeD 0 j.toNat) e | _ => False) R
theorem pi_rng1 {a : Expr} {w : WE} {p pos : Pos} (hg : Gl X "range") (hm : X.mg "range" = none) (h : PX X W a w) (hs : starEach [a] X.env = [(false, eval a X.env)] := by rfl) : PXI X W tg (.Call (.Name "range" p) [a] [] pos) (wRng1 w) := by
  obtain ⟨t, a1, a2⟩ := h.ex
  refine ⟨⟨_, pi_range1 hg hm (pa_cons a1 pa_nil hs) hs, fun F env σ G H P R Rq hx hs hw hq hk => a2 F env σ G H _ R _ hx hs hw (fun d e1 v G1 H1 p s1 x1 r1 => ?_) hk⟩⟩
  cases d <;> first | exact p.elim | skip
  cases r1
  exact ⟨_, rfl, p.1.1, p.1.2, hq _ e1 _ G1 H1 p.2 s1 x1 (range_wk 0 _)⟩
def wRng2 (w u : WE) : WA := fun env P R => w env (fun d e => u e (fun d2 e2 => match d, d2 with | .int i, .int j => (-(2 ^ 62) ≤ i ∧ i < 2 ^ 62 ∧ -(2 ^ 62) ≤ j ∧ j < 2 ^ 62) ∧ P (rangeD i (j - i).toNat) e2 | _, _ => False) R) R
theorem pi_rng2 {a b : Expr} {w u : WE} {p pos : Pos} (hg : Gl X "range") (hm : X.mg "range" = none) (h : PX X W a w) (h' : PX X W b u) (hs : starEach [a, b] X.env = [(false, eval a X.env), (false, eval b X.env)] := by rfl) (hs2 : starEach [b] X.env = [(false, eval b X.env)] := by rfl)
    (hs1 : starEach (a :: [b]) X.env = (false, eval a X.env) :: starEach [b] X.env := by rfl) : PXI X W tg (.Call (.Name "range" p) [a, b] [] pos) (wRng2 w u) := by
  obtain ⟨t, a1, a2⟩ := h.ex
  obtain ⟨t', b1, b2⟩ := h'.ex
  refine ⟨⟨_, pi_range2 hg hm (pa_cons a1 (pa_cons b1 pa_nil hs2) hs1) hs hs2, fun F env σ G H P R Rq hx hs hw hq hk => a2 F env σ G H _ R _ hx hs hw (fun d e1 v G1 H1 p s1 x1 r1 => b2 F e1 σ G1 H1 _ R _ hx s1 p (fun d2 e2 v2 G2 H2 p2 s2 x2 r2 => ?_) hk) hk⟩⟩
  cases d <;> first | exact p2.elim | skip
  cases d2 <;> first | exact p2.elim | skip
  cases r1
  cases r2
  exact ⟨_, _, rfl, p2.1, hq _ e2 _ G2 H2 p2.2 s2 (x1.trans x2) (range_wk _ _)⟩

/-! ### targets -/
abbrev WG := D → En → (En → Prop) → Prop
structure PXG (X : Cx) (tg : Expr) (own : List Nat) (w : WG) : Prop where
  ex : ∃ g : TG, PG X tg g ∧ ∀ (F : Fc) (env : En) (σ : L2.St) (G H : Hp) (v : V) (d : D) (P : En → Prop) (Q : L2.St → Hp → Prop), XOk X F → SI F env σ G H → Rep F.wd G v d → w d env P →
    (∀ env' σ', P env' → SI F env' σ' G H → (∀ vs : List Nat, (∀ i ∈ own, i ∈ vs) → wipe σ' vs = wipe σ vs) → Q σ' H) → g v σ H Q
def tG (C : Fc → Prop) (own : List Nat) (w : WG) : TG := fun v σ H Q => ∃ (F : Fc) (env : En) (G : Hp) (d : D) (P : En → Prop), C F ∧ SI F env σ G H ∧ Rep F.wd G v d ∧ w d env P ∧
  ∀ env' σ', P env' → SI F env' σ' G H → (∀ vs : List Nat, (∀ i ∈ own, i ∈ vs) → wipe σ' vs = wipe σ vs) → Q σ' H
theorem PXG.can {own : List Nat} {w : WG} (h : PXG X tg own w) : PG X tg (tG (XOk X) own w) := by
  obtain ⟨g, h1, h2⟩ := h.ex
  refine ⟨fun pins s σ H v u Q I r hq => ?_⟩
  obtain ⟨F, env, G, d, P, hx, hs, hr, hw, hk⟩ := hq
  exact h1.run pins s σ H v u Q I r (h2 F env σ G H v d P Q hx hs hr hw hk)
theorem wipe_set {σ : L2.St} {i : Nat} {x : Option V} : ∀ {vs : List Nat}, i ∈ vs → wipe (σ.set i x) vs = wipe σ vs
  | [], h => by cases h
  | v :: vs, h => by
    unfold wipe
    by_cases hv : i ∈ vs
    · rw [wipe_set hv]
    · have e : i = v := by
        rcases List.mem_cons.mp h with z | z
        · exact z
        · exact absurd z hv
      subst e
      have cm : ∀ (us : List Nat), i ∉ us → wipe (σ.set i x) us = (wipe σ us).set i x := by
        intro us
        induction us with
        | nil => intro _; rfl
        | cons u us ih =>
          intro hu
          have hu1 : i ≠ u := fun z => hu (by rw [z]; exact List.mem_cons_self)
          have hu2 : i ∉ us := fun z => hu (List.mem_cons_of_mem _ z)
          unfold wipe
          rw [ih hu2, List.set_comm _ _ hu1]
      rw [cm vs hv, List.set_set]
def wgName (i : Nat) : WG := fun d env P => P (env.set i (.v d))
theorem pg_name' {i : Nat} {x : Str} {pos : Pos} (h : PG X (.Name x pos) (gName i)) : PXG X (.Name x pos) [i] (wgName i) :=
  ⟨⟨_, h, fun F env σ G H v d P Q hx hs hr hw hq => hq _ _ hw (hs.set hr) fun vs hvs => wipe_set (hvs i (by simp))⟩⟩
/-- a tuple of two names -/
def wgTup2 (g1 g2 : WG) : WG := fun d env P => match d with
  | .tup [d1, d2] => g1 d1 env fun e1 => g2 d2 e1 P
  | _ => False
theorem pg_tup2 {a b : Expr} {g1 g2 : WG} {o1 o2 : List Nat} {kk pos} (hc : X.calm = true) (h1 : PXG X a o1 g1) (h2 : PXG X b o2 g2) (hn : (assignEach [a, b] X.env).length = 2 := by rfl) (hst : (assignEach [a, b] X.env).findIdx? (·.1) = none := by rfl)
    (hs1 : (assignEach (a :: [b]) X.env).map (·.2) = assign a X.env :: (assignEach [b] X.env).map (·.2) := by rfl) (hs2 : (assignEach (b :: []) X.env).map (·.2) = assign b X.env :: (assignEach [] X.env).map (·.2) := by rfl) : PXG X (.Tuple [a, b] kk pos) (o1 ++ o2) (wgTup2 g1 g2) := by
  obtain ⟨t1, a1, a2⟩ := h1.ex
  obtain ⟨t2, b1, b2⟩ := h2.ex
  refine ⟨⟨_, pg_tup hc (pgs_cons a1 (pgs_cons b1 pgs_nil hs2) hs1) hn hst, fun F env σ G H v d P Q hx hs hr hw hq => ?_⟩⟩
  unfold wgTup2 at hw
  split at hw
  · rename_i d1 d2
    cases hr with
    | tup l1 l2 =>
      obtain ⟨v1, v2, rfl, r1, r2⟩ := l2.inv2
      refine ⟨_, _, rfl, by rw [← hx.k]; exact hs.exG.tt l1, rfl, v1, _, rfl, ?_⟩
      refine a2 F env σ G H v1 d1 _ _ hx hs r1 hw fun e1 σ1 p1 s1 w1 => ⟨v2, _, rfl, ?_⟩
      refine b2 F e1 σ1 G H v2 d2 _ _ hx s1 r2 p1 fun e2 σ2 p2 s2 w2 => ⟨rfl, ?_⟩
      exact hq e2 σ2 p2 s2 fun vs hvs => by rw [w2 vs fun i hi => hvs i (List.mem_append_right _ hi), w1 vs fun i hi => hvs i (List.mem_append_left _ hi)]
  · exact hw.elim
end
end Pu
set_option maxRecDepth 100000
/-! Rules of the pure layer: comprehensions, statements, loops, calls, defs -/
namespace Pu
open PySem L2

/-! ### list comprehensions -/
def wipeE (env : En) : List Nat → En
  | [] => env
  | v :: vs => (wipeE env vs).set v .no
theorem SI.wipe {F : Fc} {env : En} {σ : L2.St} {G H : Hp} (h : SI F env σ G H) : ∀ vs : List Nat, SI F (wipeE env vs) (L2.wipe σ vs) G H
  | [] => h
  | v :: vs => (h.wipe vs).forget
/-- behind the block: the block's own names hold what they held (a value), or are forgotten -/
def backE (e0 e : En) : List Nat → En
  | [] => e
  | v :: vs => (backE e0 e vs).set v (match e0[v]? with | some (.v d) => .v d | _ => .no)
def wLcL (g : WG) (wt : WT) (we : WE) (own : List Nat) : List D → List D → En → (List D → En → Prop) → Prop
  | [], acc, env, P => P acc env
  | x :: xs, acc, env, P => g x (wipeE env own) fun e1 => wt e1 (fun k e2 => match k with
    | true => we e2 (fun d e3 => wLcL g wt we own xs (acc ++ [d]) e3 P) fun _ _ => False
    | false => wLcL g wt we own xs acc e2 P) fun _ _ => False
def wLc (own : List Nat) (wi : WA) (g : WG) (wt : WT) (we : WE) : WE := fun env P R => wi env (fun ds e1 => ds.length ≤ 100000 ∧ wLcL g wt we own ds [] e1 fun acc e2 => P (.lst acc) (backE e1 e2 own)) R
/-- no test -/
def wYes : WT := fun env P _ => P true env
structure PXTs (X : Cx) (ifs : List Expr) (w : WT) : Prop where
  ex : PTs X ifs (tTs (XOk X) (fun _ _ _ _ => False) w)
abbrev W0 : WX := fun _ _ _ _ => False
section
variable {X : Cx} {W : WX}
theorem pts_nil' : PXTs X [] wYes := by
  refine ⟨⟨fun pins s σ H Q I hq => ?_⟩⟩
  obtain ⟨F, env, G, P, R, hx, hs, hw, hk, hr⟩ := hq
  exact (pts_nil (X := X)).run pins s σ H Q I (hk true env G H hw hs (Ex.refl _))
theorem pts_one' {c : Expr} {w : WT} (h : PXT X W0 c w) : PXTs X [c] w := ⟨pts_one h.can⟩

theorem SI.mkPin {F : Fc} {env : En} {σ : L2.St} {G H : Hp} {a : Addr} {o : HO} (h : SI F env σ G H) (hn : H a = none) (nt : ∀ ts, o ≠ .tup ts := by intro ts z; cases z) : SI { F with pins := (a, o) :: F.pins } env σ G (upd H a o) := by
  have h0 : F.H0 a = none := by
    cases e : F.H0 a with
    | none => rfl
    | some u =>
      by_cases hb : F.wd.b = some a
      · exact absurd hn (h.post.bag a hb).2.1
      · rw [h.post.keep a u hb e] at hn
        cases hn
  have g0 : G a = none := h.exG.back hn
  refine ⟨h.pre0, ⟨h.post.ex, fun x u hx => ?_, fun x u nb hx => ?_, fun x hx => ?_, fun β hβ => ?_⟩, h.len, fun i s e => ?_, h.ap, fun p hp => ?_, tabs_new h.tab hn, fun p hp => (List.mem_cons.mp hp).elim (fun z => by rw [z]; exact nt) (h.pt p)⟩
  · rw [upd_ne (ne_of_none hx g0)]
    exact h.exG _ _ hx
  · rw [upd_ne (ne_of_none hx h0)]
    exact h.post.keep _ _ nb hx
  · exact h.post.new x hx
  · obtain ⟨b1, b2, b3⟩ := h.post.bag β hβ
    have ne : β ≠ a := fun z => by
      rw [z] at b2
      exact b2 hn
    exact ⟨b1, by rw [upd_ne ne]; exact b2, b3.mono (Ex.refl _) (upd_ne ne)⟩
  · have q := h.sl i s e
    cases s with
    | no => trivial
    | v d => exact q
    | ol l =>
      obtain ⟨b, vs, h1, h2, h3, h4, h5⟩ := q
      exact ⟨b, vs, h1, h2, h3, by rw [upd_ne (ne_of_none h4 hn)]; exact h4, h5⟩
    | fz d => exact q
  · rcases List.mem_cons.mp hp with z | z
    · subst z
      refine ⟨upd_same, g0, h0, fun i l e q => ?_⟩
      obtain ⟨b, vs, h1, h2, h3, h4, h5⟩ := h.sl i _ e
      rw [q] at h1
      cases h1
      rw [h4] at hn
      cases hn
    · obtain ⟨h1, h2, h3, h4⟩ := h.pin p z
      exact ⟨by rw [upd_ne (ne_of_none h1 hn)]; exact h1, h2, h3, h4⟩
/-- the pinned object becomes another one -/
theorem SI.rePin {F : Fc} {env : En} {σ : L2.St} {G H : Hp} {a : Addr} {o o' : HO} (h : SI { F with pins := (a, o) :: F.pins } env σ G H) (hd : ∀ p ∈ F.pins, p.1 ≠ a) (t1 : ∀ ps, o ≠ .tbl ps) (t2 : ∀ c q, o ≠ LamX.CodeO c q) (nt : ∀ ts, o' ≠ .tup ts := by intro ts z; cases z) : SI { F with pins := (a, o') :: F.pins } env σ G (upd H a o') := by
  obtain ⟨q1, q2, q3, q4⟩ := h.pin (a, o) List.mem_cons_self
  have na : ∀ x u, G x = some u → x ≠ a := fun x u hx => ne_of_none hx q2
  refine ⟨h.pre0, ⟨h.post.ex, fun x u hx => ?_, fun x u nb hx => ?_, fun x hx => h.post.new x hx, fun β hβ => ?_⟩, h.len, fun i s e => ?_, h.ap, fun p hp => ?_, tabs_upd h.tab q1 t1, fun p hp => (List.mem_cons.mp hp).elim (fun z => by rw [z]; exact nt) (fun z => h.pt p (List.mem_cons_of_mem _ z))⟩
  · rw [upd_ne (na x u hx)]
    exact h.exG _ _ hx
  · rw [upd_ne (ne_of_none hx q3)]
    exact h.post.keep _ _ nb hx
  · obtain ⟨b1, b2, b3⟩ := h.post.bag β hβ
    have ne : β ≠ a := fun z => by
      rw [z] at hβ
      exact (h.pre0.bag a hβ).2.1 q3
    exact ⟨b1, by rw [upd_ne ne]; exact b2, b3.mono (Ex.refl _) (upd_ne ne)⟩
  · have q := h.sl i s e
    cases s with
    | no => trivial
    | v d => exact q
    | ol l =>
      obtain ⟨b, vs, h1, h2, h3, h4, h5⟩ := q
      have ne : b ≠ a := fun z => by
        rw [z] at h1
        exact q4 i l e h1
      exact ⟨b, vs, h1, h2, h3, by rw [upd_ne ne]; exact h4, h5⟩
    | fz d => exact q
  · rcases List.mem_cons.mp hp with z | z
    · subst z
      exact ⟨upd_same, q2, q3, q4⟩
    · obtain ⟨h1, h2, h3, h4⟩ := h.pin p (List.mem_cons_of_mem _ z)
      exact ⟨by rw [upd_ne (hd p z)]; exact h1, h2, h3, h4⟩
/-- the pinned object is settled -/
theorem SI.unPin {F : Fc} {env : En} {σ : L2.St} {G H : Hp} {a : Addr} {o : HO} (h : SI { F with pins := (a, o) :: F.pins } env σ G H) (hd : ∀ p ∈ F.pins, p.1 ≠ a) (t1 : ∀ ps, o ≠ .tbl ps := by intro ps z; cases z) : Ex G (upd G a o) ∧ SI F env σ (upd G a o) H := by
  obtain ⟨q1, q2, q3, q4⟩ := h.pin (a, o) List.mem_cons_self
  have e1 : Ex G (upd G a o) := fun x u hx => by
    rw [upd_ne (ne_of_none hx q2)]
    exact hx
  refine ⟨e1, h.pre0, ⟨h.post.ex.trans e1, fun x u hx => ?_, h.post.keep, fun x hx => ?_, fun β hβ => ?_⟩, h.len, fun i s e => ?_, h.ap, fun p hp => ?_, h.tab.settle q1 t1 e1, fun p hp => h.pt p (List.mem_cons_of_mem _ hp)⟩
  · by_cases z : x = a
    · subst z
      rw [upd_same] at hx
      cases hx
      exact q1
    · rw [upd_ne z] at hx
      exact h.exG _ _ hx
  · by_cases z : x = a
    · exact .inr (.inl (by rw [z]; exact q3))
    · rw [upd_ne z] at hx
      exact h.post.new x hx
  · obtain ⟨b1, b2, b3⟩ := h.post.bag β hβ
    have ne : β ≠ a := fun z => by
      rw [z] at hβ
      exact (h.pre0.bag a hβ).2.1 q3
    exact ⟨by rw [upd_ne ne]; exact b1, b2, b3.mono e1 rfl⟩
  · have q := h.sl i s e
    cases s with
    | no => trivial
    | v d =>
      obtain ⟨v, h1, h2⟩ := q
      exact ⟨v, h1, h2.mono e1⟩
    | ol l =>
      obtain ⟨b, vs, h1, h2, h3, h4, h5, h6⟩ := q
      have ne : b ≠ a := fun z => by
        rw [z] at h1
        exact q4 i l e h1
      exact ⟨b, vs, h1, h2, by rw [upd_ne ne]; exact h3, h4, h5.mono e1, h6⟩
    | fz d =>
      obtain ⟨h1, h2⟩ := q
      exact ⟨h1, h2.mono e1⟩
  · obtain ⟨h1, h2, h3, h4⟩ := h.pin p (List.mem_cons_of_mem _ hp)
    exact ⟨h1, by rw [upd_ne (hd p hp)]; exact h2, h3, h4⟩
theorem back_si0 {F : Fc} {e0 e : En} {σ : L2.St} {G0 G H : Hp} (l0 : e0.length = σ.length) (s0 : ∀ (u : Nat) (d : D), e0[u]? = some (.v d) → ∃ v, σ[u]? = some (some v) ∧ Rep F.wd G0 v d) (x : Ex G0 G) : ∀ {vs : List Nat}, SI F e (L2.wipe σ vs) G H → ∃ σ', (∀ i, i ∉ vs → σ'[i]? = (L2.wipe σ vs)[i]?) ∧ σ'.length = σ.length ∧ (∀ i ∈ vs, σ'[i]? = σ[i]?) ∧ SI F (backE e0 e vs) σ' G H := by
  intro vs h
  have main : ∀ us : List Nat, ∃ σ', (∀ i, i ∉ us → σ'[i]? = (L2.wipe σ vs)[i]?) ∧ σ'.length = σ.length ∧ (∀ i ∈ us, σ'[i]? = σ[i]?) ∧ SI F (backE e0 e us) σ' G H := by
    intro us
    induction us with
    | nil => exact ⟨L2.wipe σ vs, fun _ _ => rfl, wipe_length _ _, fun i hi => by (cases hi), h⟩
    | cons u us ih =>
      obtain ⟨σ', h1, h2, h3, h4⟩ := ih
      have hget : ∀ x : Option V, σ[u]? = some x → ∀ i ∈ u :: us, (σ'.set u x)[i]? = σ[i]? := fun x ex i hi => by
        by_cases z : u = i
        · subst z
          have hl : u < σ'.length := by rw [h2]; exact (List.getElem?_eq_some_iff.mp ex).1
          rw [List.getElem?_set, if_pos rfl, if_pos hl, ex]
        · rw [List.getElem?_set_ne z]
          exact h3 i (by rcases List.mem_cons.mp hi with q | q; · exact absurd q.symm z
                         · exact q)
      have hout : ∀ x : Option V, ∀ i, i ∉ u :: us → (σ'.set u x)[i]? = (L2.wipe σ vs)[i]? := fun x i hi => by
        have z1 : u ≠ i := fun z => hi (by rw [z]; exact List.mem_cons_self)
        have z2 : i ∉ us := fun z => hi (List.mem_cons_of_mem _ z)
        rw [List.getElem?_set_ne z1]
        exact h1 i z2
      cases eu : σ[u]? with
      | none =>
        have hl : ¬ u < σ.length := fun z => by
          rw [List.getElem?_eq_getElem z] at eu
          cases eu
        refine ⟨σ'.set u none, hout none, by rw [List.length_set]; exact h2, fun i hi => ?_, ?_⟩
        · by_cases z : u = i
          · subst z
            rw [List.getElem?_set, if_pos rfl, if_neg (by rw [h2]; exact hl), eu]
          · rw [List.getElem?_set_ne z]
            exact h3 i (by rcases List.mem_cons.mp hi with q | q; · exact absurd q.symm z
                           · exact q)
        · show SI F ((backE e0 e us).set u _) _ G H
          have e1 : e0[u]? = none := List.getElem?_eq_none (by rw [l0]; exact Nat.le_of_not_lt hl)
          rw [e1]
          exact h4.forget
      | some x =>
        refine ⟨σ'.set u x, hout x, by rw [List.length_set]; exact h2, hget x eu, ?_⟩
        show SI F ((backE e0 e us).set u _) _ G H
        cases ee : e0[u]? with
        | none => exact h4.forget
        | some s =>
          cases s with
          | no => exact h4.forget
          | ol l => exact h4.forget
          | fz d => exact h4.forget
          | v d =>
            obtain ⟨v, q1, q2⟩ := s0 u _ ee
            rw [eu] at q1
            cases q1
            exact h4.set (q2.mono x)
  exact main vs
theorem back_si {F : Fc} {e0 e : En} {σ : L2.St} {G0 H0 G H : Hp} (h0 : SI F e0 σ G0 H0) (x : Ex G0 G) : ∀ {vs : List Nat}, SI F e (L2.wipe σ vs) G H → ∃ σ', (∀ i, i ∉ vs → σ'[i]? = (L2.wipe σ vs)[i]?) ∧ σ'.length = σ.length ∧ (∀ i ∈ vs, σ'[i]? = σ[i]?) ∧ SI F (backE e0 e vs) σ' G H :=
  fun h => back_si0 h0.len (fun u d e => h0.sl u _ e) x h
theorem ext_get {σ σ' : L2.St} (h : ∀ i : Nat, σ[i]? = σ'[i]?) : σ = σ' := List.ext_getElem? h
theorem wipe_out' {σ : L2.St} {i : Nat} {vs : List Nat} (h : i ∉ vs) : (L2.wipe σ vs)[i]? = σ[i]? := wipe_out h

theorem wipeE_length (e : En) : ∀ us : List Nat, (wipeE e us).length = e.length
  | [] => rfl
  | u :: us => by unfold wipeE; rw [List.length_set, wipeE_length e us]
theorem wipeE_out (e : En) : ∀ (us : List Nat) (i : Nat), i ∉ us → (wipeE e us)[i]? = e[i]?
  | [], i, _ => rfl
  | u :: us, i, hi => by
    unfold wipeE
    rw [List.getElem?_set_ne (fun z => hi (by rw [z]; exact List.mem_cons_self))]
    exact wipeE_out e us i fun z => hi (List.mem_cons_of_mem _ z)
theorem set_get_idem {α : Type} {a : List α} {c : α} : ∀ {u : Nat}, (∀ s, a[u]? = some s → s = c) → a.set u c = a := fun {u} ha => by
  apply List.ext_getElem?
  intro i
  rw [List.getElem?_set]
  by_cases z : u = i
  · subst z
    rw [if_pos rfl]
    by_cases hl : u < a.length
    · rw [if_pos hl, List.getElem?_eq_getElem hl, ha _ (List.getElem?_eq_getElem hl)]
    · rw [if_neg hl, List.getElem?_eq_none (Nat.le_of_not_lt hl)]
  · rw [if_neg z]
theorem mem_tail {i u : Nat} {us : List Nat} (hi : i ∈ u :: us) (z : ¬ u = i) : i ∈ us := by
  rcases List.mem_cons.mp hi with q | q
  · exact absurd q.symm z
  · exact q
theorem wipeE_no (e : En) : ∀ (us : List Nat) (i : Nat), i ∈ us → ∀ s, (wipeE e us)[i]? = some s → s = .no
  | [], i, hi => by cases hi
  | u :: us, i, hi => fun s q => by
    unfold wipeE at q
    rw [List.getElem?_set] at q
    by_cases z : u = i
    · rw [if_pos z] at q
      split at q
      · exact (Option.some.inj q).symm
      · cases q
    · rw [if_neg z] at q
      exact wipeE_no e us i (mem_tail hi z) s q
theorem wipeE_fix : ∀ (us : List Nat) (a : En), (∀ i ∈ us, ∀ s, a[i]? = some s → s = .no) → wipeE a us = a
  | [], a, _ => rfl
  | u :: us, a, ha => by
    unfold wipeE
    rw [wipeE_fix us a fun i hi => ha i (List.mem_cons_of_mem _ hi)]
    exact set_get_idem (ha u List.mem_cons_self)
theorem wipeE_idem (e : En) (us : List Nat) : wipeE (wipeE e us) us = wipeE e us := wipeE_fix us _ (wipeE_no e us)
theorem wipe_no (e : L2.St) : ∀ (us : List Nat) (i : Nat), i ∈ us → ∀ s, (L2.wipe e us)[i]? = some s → s = none
  | [], i, hi => by cases hi
  | u :: us, i, hi => fun s q => by
    unfold L2.wipe at q
    rw [List.getElem?_set] at q
    by_cases z : u = i
    · rw [if_pos z] at q
      split at q
      · exact (Option.some.inj q).symm
      · cases q
    · rw [if_neg z] at q
      exact wipe_no e us i (mem_tail hi z) s q
theorem wipe_fix : ∀ (us : List Nat) (a : L2.St), (∀ i ∈ us, ∀ s, a[i]? = some s → s = none) → L2.wipe a us = a
  | [], a, _ => rfl
  | u :: us, a, ha => by
    unfold L2.wipe
    rw [wipe_fix us a fun i hi => ha i (List.mem_cons_of_mem _ hi)]
    exact set_get_idem (ha u List.mem_cons_self)
theorem wipe_idem (e : L2.St) (us : List Nat) : L2.wipe (L2.wipe e us) us = L2.wipe e us := wipe_fix us _ (wipe_no e us)
theorem backE_length (e1 a : En) : ∀ us : List Nat, (backE e1 a us).length = a.length
  | [] => rfl
  | u :: us => by unfold backE; rw [List.length_set, backE_length e1 a us]
theorem backE_out (e1 a : En) : ∀ (us : List Nat) (i : Nat), i ∉ us → (backE e1 a us)[i]? = a[i]?
  | [], i, _ => rfl
  | u :: us, i, hi => by
    unfold backE
    rw [List.getElem?_set_ne (fun z => hi (by rw [z]; exact List.mem_cons_self))]
    exact backE_out e1 a us i fun z => hi (List.mem_cons_of_mem _ z)
theorem backE_in (e1 a b : En) (hl : a.length = b.length) : ∀ (us : List Nat) (i : Nat), i ∈ us → (backE e1 a us)[i]? = (backE e1 b us)[i]?
  | [], i, hi => by cases hi
  | u :: us, i, hi => by
    unfold backE
    rw [List.getElem?_set, List.getElem?_set]
    by_cases z : u = i
    · rw [if_pos z, if_pos z, backE_length, backE_length, hl]
    · rw [if_neg z, if_neg z]
      exact backE_in e1 a b hl us i (mem_tail hi z)
theorem backE_wipe (e1 e : En) (us : List Nat) : backE e1 (wipeE e us) us = backE e1 e us := by
  apply List.ext_getElem?
  intro i
  by_cases hi : i ∈ us
  · exact backE_in e1 _ _ (wipeE_length e us) us i hi
  · rw [backE_out _ _ _ _ hi, backE_out _ _ _ _ hi, wipeE_out e us i hi]
theorem lcL_wipe {g : WG} {wt : WT} {we : WE} {vs : List Nat} {e : En} {l acc : List D} {P' : List D → En → Prop} (h : ∀ e, P' acc e → P' acc (wipeE e vs)) (q : wLcL g wt we vs l acc e P') : wLcL g wt we vs l acc (wipeE e vs) P' := by
  cases l with
  | nil => exact h _ q
  | cons y l =>
    show g y (wipeE (wipeE e vs) vs) _
    rw [wipeE_idem]
    exact q
theorem lc_runN {tg iter : Expr} {vs og : List Nat} {wi : WA} {g : WG} {wt : WT} {we : WE} {ti : TI} (hog : ∀ i ∈ og, i ∈ vs)
    (i2 : ∀ (F : Fc) (env : En) (σ : L2.St) (G H : Hp) (P : List D → En → Prop) (R : QX) (Rq : It → Hp → Prop), XOk X F → SI F env σ G H → wi env P R →
    (∀ ds env' J G' H', P ds env' → SI F env' σ G' H' → Ex G G' → Wk F G' J ds → Rq J H') → XK' F W σ R → ti σ H Rq)
    (F : Fc) (env : En) (σ : L2.St) (G H : Hp) (P : D → En → Prop) (R : QX) (Q : VK) (hx : XOk X F) (hs : SI F env σ G H) (hw : wLc vs wi g wt we env P R) (hq : ∀ l env' a vs G' H', P (.lst l) env' → SI { F with pins := (a, .lst vs) :: F.pins } env' σ G' H' → Ex G G' → Reps F.wd G' vs l → (∀ p ∈ F.pins, p.1 ≠ a) → Q (.ref a) H') (hk : XK' F W σ R) :
    tLc ti (tG (XOk X) og g) (tTs (XOk X) W0 wt) (tE (XOk X) W0 we) vs σ H Q := by
  refine i2 F env σ G H _ R _ hx hs hw (fun ds e1 J G1 H1 p1 s1 x1 wk => ?_) hk
  obtain ⟨hlen, p1⟩ := p1
  obtain ⟨Gd, Y, w1, w2, w3⟩ := wk.ex
  intro Dl hD
  have hpd : ∀ p ∈ F.pins, p.1 ≠ Dl := fun p hp z => by
    obtain ⟨h1, _⟩ := s1.pin p hp
    rw [z, hD] at h1
    cases h1
  have bwipe : ∀ (acc : List D) (e : En), P (.lst acc) (backE e1 e vs) → P (.lst acc) (backE e1 (wipeE e vs) vs) := fun acc e q => by
    rw [backE_wipe]
    exact q
  refine lc_it w1 (fun i H' => ∃ (e2 : En) (G2 : Hp) (acc : List D) (us : List V), SI { F with pins := (Dl, .lst us) :: F.pins } e2 (L2.wipe σ vs) G2 H' ∧ Ex G1 G2 ∧ Reps F.wd G2 us acc ∧ acc.length ≤ i ∧ wLcL g wt we vs (ds.drop i) acc e2 fun acc e2 => P (.lst acc) (backE e1 e2 vs)) ?_ ?_ ?_ ?_
  · exact ⟨wipeE e1 vs, G1, [], [], (s1.mkPin hD).wipe vs, Ex.refl _, .nil, Nat.zero_le _, lcL_wipe (bwipe []) p1⟩
  · intro i H' hi ⟨e2, G2, acc, us, a1, a2, _⟩
    exact w2 G2 H' a2 a1.exG
  · intro i x H' H'' hi ⟨e2, G2, acc, us, a1, a2, a3, a4, a5⟩ hy
    obtain ⟨d, G3, b1, b2, b3⟩ := w3 i H' x H'' G2 hy a1.pre a2
    have s3 := a1.step b2
    have hd : ds.drop i = d :: ds.drop (i + 1) := by
      obtain ⟨hl, e⟩ := List.getElem?_eq_some_iff.mp b1
      rw [← e]
      exact List.drop_eq_getElem_cons hl
    rw [hd] at a5
    have s4 := s3.wipe vs
    rw [wipe_idem] at s4
    refine ⟨{ F with pins := (Dl, .lst us) :: F.pins }, wipeE e2 vs, G3, d, _, hx.pin (fun _ z => nomatch z), s4, b3, a5, fun e3 σ3 c1 c2 c3 => ⟨?_, ?_⟩⟩
    · rw [c3 vs hog, wipe_idem]
    have ws : L2.wipe σ3 vs = L2.wipe σ vs := by rw [c3 vs hog, wipe_idem]
    have wp : ∀ {e : En} {G H : Hp} {us : List V}, SI { F with pins := (Dl, .lst us) :: F.pins } e σ3 G H → SI { F with pins := (Dl, .lst us) :: F.pins } (wipeE e vs) (L2.wipe σ vs) G H := fun s => by
      rw [← ws]
      exact s.wipe vs
    refine ⟨{ F with pins := (Dl, .lst us) :: F.pins }, e3, G3, _, _, hx.pin (fun _ z => nomatch z), c2, c1, fun k e4 G4 H4 d1 d2 d3 => ?_, fun _ _ _ _ _ _ z => z.elim⟩
    cases k with
    | false =>
      refine iteF ?_
      exact ⟨wipeE e4 vs, G4, acc, us, wp d2, (a2.trans b2.ex).trans d3, a3.mono (b2.ex.trans d3), by omega, lcL_wipe (bwipe acc) d1⟩
    | true =>
      refine iteT ?_
      refine ⟨{ F with pins := (Dl, .lst us) :: F.pins }, e4, G4, _, _, hx.pin (fun _ z => nomatch z), d2, d1, fun d' e5 v5 G5 H5 f1 f2 f3 f4 => ?_, fun _ _ _ _ _ _ z => z.elim⟩
      obtain ⟨q1, q2, q3, q4⟩ := f2.pin (Dl, .lst us) List.mem_cons_self
      have hl : us.length = acc.length := a3.length
      have hz : (100000 : Nat) ≤ sizeLine := by decide
      exact ⟨us, q1, by omega, wipeE e5 vs, G5, acc ++ [d'], us ++ [v5], (wp f2).rePin hpd (fun _ z => nomatch z) lst_codeO, ((a2.trans b2.ex).trans d3).trans f3, (a3.mono ((b2.ex.trans d3).trans f3)).append (.cons f4 .nil), by rw [List.length_append, List.length_singleton]; omega, lcL_wipe (bwipe _) f1⟩
  · intro H' ⟨e2, G2, acc, us, a1, a2, a3, a4, a5⟩
    have hd : ds.drop ds.length = [] := List.drop_length
    rw [hd] at a5
    have a5' : P (.lst acc) (backE e1 e2 vs) := a5
    obtain ⟨σ', g1, g2, g3, g4⟩ := back_si0 (F := { F with pins := (Dl, .lst us) :: F.pins }) s1.len (fun u d e => s1.sl u _ e) a2 a1
    have eσ : σ' = σ := by
      apply List.ext_getElem?
      intro i
      by_cases hi : i ∈ vs
      · exact g3 i hi
      · rw [g1 i hi]
        exact wipe_out' hi
    rw [eσ] at g4
    exact hq acc _ Dl us _ _ a5' g4 (x1.trans a2) a3 hpd
theorem lc_run {tg iter : Expr} {vs og : List Nat} {wi : WA} {g : WG} {wt : WT} {we : WE} {ti : TI} (hog : ∀ i ∈ og, i ∈ vs)
    (i2 : ∀ (F : Fc) (env : En) (σ : L2.St) (G H : Hp) (P : List D → En → Prop) (R : QX) (Rq : It → Hp → Prop), XOk X F → SI F env σ G H → wi env P R →
    (∀ ds env' J G' H', P ds env' → SI F env' σ G' H' → Ex G G' → Wk F G' J ds → Rq J H') → XK' F W σ R → ti σ H Rq)
    (F : Fc) (env : En) (σ : L2.St) (G H : Hp) (P : D → En → Prop) (R : QX) (Q : VK) (hx : XOk X F) (hs : SI F env σ G H) (hw : wLc vs wi g wt we env P R) (hq : ∀ d env' v G' H', P d env' → SI F env' σ G' H' → Ex G G' → Rep F.wd G' v d → Q v H') (hk : XK' F W σ R) :
    tLc ti (tG (XOk X) og g) (tTs (XOk X) W0 wt) (tE (XOk X) W0 we) vs σ H Q :=
  lc_runN (tg := tg) (iter := iter) hog i2 F env σ G H P R Q hx hs hw (fun l env' a vs G' H' p s x r hd => by
    obtain ⟨x2, s2⟩ := s.unPin hd
    exact hq _ env' _ _ H' p s2 (x.trans x2) (.lst upd_same (r.mono x2))) hk
theorem px_lc {elt tg iter : Expr} {ifs : List Expr} {scope : Scope} {own : List (Str × Nat)} {pos : Pos} {wi : WA} {g : WG} {wt : WT} {we : WE} (og : List Nat) (hc : X.calm = true) (hN : X.N.Nodup) (hi : PXI X W tg iter wi) (hb : BlkOk X.N X.env.scope scope own)
    (hg : ∀ (s : Shared) (H : Hp) (C : Addr) (cl : List (Str × Addr)) (fp : List Addr), PXG (X.blk s H scope (compEnvC scope cl C X.env) fp) tg og g)
    (ht : ∀ (s : Shared) (H : Hp) (C : Addr) (cl : List (Str × Addr)) (fp : List Addr), PXTs (X.blk s H scope (compEnvC scope cl C X.env) fp) ifs wt)
    (he : ∀ (s : Shared) (H : Hp) (C : Addr) (cl : List (Str × Addr)) (fp : List Addr), PX (X.blk s H scope (compEnvC scope cl C X.env) fp) W0 elt we)
    (hog : ∀ i ∈ og, i ∈ own.map (·.2) := by decide)
    (hf : ∀ x, foldedSetIterable iter X.env x = pure x := by intro _; rfl) : PX X W (.ListComp elt [{ target := tg, iter := iter, ifs := ifs, is_async := 0 }] scope pos) (wLc (own.map (·.2)) wi g wt we) := by
  obtain ⟨ti, i1, i2⟩ := hi.ex
  exact ⟨⟨_, pe_lc (g := tG (XOk X) og g) (tt := tTs (XOk X) W0 wt) (te := tE (XOk X) W0 we) hc hN i1 hb (fun s H C cl fp => (hg s H C cl fp).can) (fun s H C cl fp => (ht s H C cl fp).ex) (fun s H C cl fp => (he s H C cl fp).can) hf, lc_run (tg := tg) (iter := iter) hog i2⟩⟩
/-- name = [..] on one line -/
def wsSet (i : Nat) (w : WE) : WS := fun env K => w env (fun d e => K.nx (e.set i (.v d))) K.ex
theorem pxs_setLc {i : Nat} {y : Str} {py : Pos} {elt tg iter : Expr} {ifs : List Expr} {scope : Scope} {own : List (Str × Nat)} {pos spos : Pos} {wi : WA} {g : WG} {wt : WT} {we : WE} (og : List Nat) (hc : X.calm = true) (hN : X.N.Nodup) (hy : X.N[i]? = some y) (hyl : X.env.scope.names.lookup y = some .local)
    (hsw : swapsWith (.ListComp elt [⟨tg, iter, ifs, 0⟩] scope pos) (some (.Name y py)) spos.line X.env = pure true) (hi : PXI X W tg iter wi) (hb : BlkOk X.N X.env.scope scope own)
    (hg : ∀ (s : Shared) (H : Hp) (C : Addr) (cl : List (Str × Addr)) (fp : List Addr), PXG (X.blk s H scope (compEnvC scope cl C X.env) fp) tg og g)
    (ht : ∀ (s : Shared) (H : Hp) (C : Addr) (cl : List (Str × Addr)) (fp : List Addr), PXTs (X.blk s H scope (compEnvC scope cl C X.env) fp) ifs wt)
    (he : ∀ (s : Shared) (H : Hp) (C : Addr) (cl : List (Str × Addr)) (fp : List Addr), PX (X.blk s H scope (compEnvC scope cl C X.env) fp) W0 elt we)
    (hog : ∀ i ∈ og, i ∈ own.map (·.2) := by decide)
    (hf : ∀ x, foldedSetIterable iter X.env x = pure x := by intro _; rfl) : PXS X W (.Assign [.Name y py] (.ListComp elt [⟨tg, iter, ifs, 0⟩] scope pos) spos) (wsSet i (wLc (own.map (·.2)) wi g wt we)) := by
  obtain ⟨ti, i1, i2⟩ := hi.ex
  refine ⟨⟨_, ps_setLc (g := tG (XOk X) og g) (tt := tTs (XOk X) W0 wt) (te := tE (XOk X) W0 we) hc hN hy hyl hsw i1 hb (fun s H C cl fp => (hg s H C cl fp).can) (fun s H C cl fp => (ht s H C cl fp).ex) (fun s H C cl fp => (he s H C cl fp).can) hf, fun F env σ G H P Q hx hs hw hq => ?_⟩⟩
  exact lc_run (tg := tg) (iter := iter) hog i2 F env σ G H _ _ _ hx hs hw (fun d e1 v G1 H1 p s1 x1 r1 => hq.nx _ _ G1 H1 p (s1.set r1) x1) (hq.ex σ)
end
end Pu
set_option maxRecDepth 100000
/-! Rules of the pure layer: statements, loops, calls, defs -/
namespace Pu
open PySem L2 PySem.Spec PyProof.Rows
section
variable {X : Cx} {W : WX} {st : Stmt} {rest : List Stmt} {e : Expr} {w : WE} {pos : Pos}
def wsNext : WS := fun env K => K.nx env
def wsSeq (a b : WS) : WS := fun env K => a env { K with nx := fun e => b e K }
theorem pb_nil : PXB X W [] wsNext := ⟨⟨_, pss_nil, fun F env σ G H P Q hx hs hw hq => hq.nx env σ G H hw hs (Ex.refl _)⟩⟩
theorem pb_cons {a b : WS} (h : PXS X W st a) (g : PXB X W rest b) : PXB X W (st :: rest) (wsSeq a b) := by
  obtain ⟨t, a1, a2⟩ := h.ex
  obtain ⟨u, b1, b2⟩ := g.ex
  refine ⟨⟨_, pss_cons a1 b1, fun F env σ G H P Q hx hs hw hq => a2 F env σ G H _ _ hx hs hw ⟨fun e1 σ1 G1 H1 p s1 x1 => b2 F e1 σ1 G1 H1 P Q hx s1 p (hq.mono x1), hq.rt, hq.bk, hq.ct, hq.ex⟩⟩⟩
theorem pb_one {a : WS} (h : PXS X W st a) : PXB X W [st] a := by
  obtain ⟨t, a1, a2⟩ := h.ex
  exact ⟨⟨_, pss_one a1, a2⟩⟩
theorem ps_pass' : PXS X W (.Pass pos) wsNext := ⟨⟨_, ps_pass, fun F env σ G H P Q hx hs hw hq => hq.nx env σ G H hw hs (Ex.refl _)⟩⟩
def wsBreak : WS := fun env K => K.bk env
def wsCont : WS := fun env K => K.ct env
theorem ps_break' : PXS X W (.Break pos) wsBreak := ⟨⟨_, ps_break, fun F env σ G H P Q hx hs hw hq => hq.bk env σ G H hw hs (Ex.refl _)⟩⟩
theorem ps_cont' : PXS X W (.Continue pos) wsCont := ⟨⟨_, ps_continue, fun F env σ G H P Q hx hs hw hq => hq.ct env σ G H hw hs (Ex.refl _)⟩⟩
def wsNever : WS := fun _ _ => False
theorem ps_never' : PXS X W st wsNever := ⟨⟨_, ps_never, fun F env σ G H P Q hx hs hw hq => hw.elim⟩⟩
theorem pb_never {l : List Stmt} : PXB X W l wsNever := ⟨⟨_, pss_never, fun F env σ G H P Q hx hs hw hq => hw.elim⟩⟩
def wsDrop (w : WE) : WS := fun env K => w env (fun _ e => K.nx e) K.ex
theorem ps_expr' (h : PX X W e w) (hs : swapsWith e none pos.line X.env = pure false := by rfl) : PXS X W (.Expr e pos) (wsDrop w) := by
  obtain ⟨t, a1, a2⟩ := h.ex
  exact ⟨⟨_, ps_expr a1 hs, fun F env σ G H P Q hx hs hw hq => a2 F env σ G H _ _ _ hx hs hw (fun d e1 v G1 H1 p s1 x1 r1 => hq.nx e1 σ G1 H1 p s1 x1) (hq.ex σ)⟩⟩
def wsRet (w : WE) : WS := fun env K => w env (fun d _ => K.rt d) K.ex
theorem ps_ret' (h : PX X W e w) : PXS X W (.Return (some e) pos) (wsRet w) := by
  obtain ⟨t, a1, a2⟩ := h.ex
  exact ⟨⟨_, ps_ret a1, fun F env σ G H P Q hx hs hw hq => a2 F env σ G H _ _ _ hx hs hw (fun d e1 v G1 H1 p s1 x1 r1 => hq.rt d v e1 σ G1 H1 p s1 r1) (hq.ex σ)⟩⟩
def wsRetN : WS := fun _ K => K.rt .non
theorem ps_retN' : PXS X W (.Return none pos) wsRetN := ⟨⟨_, ps_retN, fun F env σ G H P Q hx hs hw hq => hq.rt .non .non env σ G H hw hs .non⟩⟩
def wsIf (c : WT) (a b : WS) : WS := fun env K => c env (fun k e => match k with | true => a e K | false => b e K) K.ex
theorem ps_if' {c : Expr} {l r : List Stmt} {wc : WT} {a b : WS} (hc : PXT X W c wc) (h : PXB X W l a) (g : PXB X W r b) : PXS X W (.If c l r pos) (wsIf wc a b) := by
  obtain ⟨t, c1, c2⟩ := hc.ex
  obtain ⟨u, a1, a2⟩ := h.ex
  obtain ⟨v, b1, b2⟩ := g.ex
  refine ⟨⟨_, ps_if c1 a1 b1, fun F env σ G H P Q hx hs hw hq => c2 F env σ G H _ _ _ hx hs hw (fun k e1 G1 H1 p s1 x1 => ?_) (hq.ex σ)⟩⟩
  cases k with
  | true => exact iteT (a2 F e1 σ G1 H1 P Q hx s1 p (hq.mono x1))
  | false => exact iteF (b2 F e1 σ G1 H1 P Q hx s1 p (hq.mono x1))
theorem ps_set' {i : Nat} {x : Str} {pos' : Pos} (hN : X.N.Nodup) (hi : X.N[i]? = some x) (hx : Loc X.env.scope x) (he : PX X W e w) (hs : swapsWith e (some (.Name x pos')) pos.line X.env = pure false := by rfl) (hf : X.fn x = true ∨ X.env.scope.names.lookup x = some .local := by first | exact .inl rfl | exact .inr rfl | assumption) :
    PXS X W (.Assign [.Name x pos'] e pos) (wsSet i w) := by
  obtain ⟨t, a1, a2⟩ := he.ex
  exact ⟨⟨_, ps_set hN hi hx a1 hs hf, fun F env σ G H P Q hx hs hw hq => a2 F env σ G H _ _ _ hx hs hw (fun d e1 v G1 H1 p s1 x1 r1 => hq.nx _ _ G1 H1 p (s1.set r1) x1) (hq.ex σ)⟩⟩
def wsPar (i j : Nat) (u : WA) : WS := fun env K => u env (fun ds e => match ds with | [d1, d2] => K.nx ((e.set i (.v d1)).set j (.v d2)) | _ => False) K.ex
theorem ps_par' {i j : Nat} {x y : Str} {a b : Expr} {u : WA} {px py pt : Pos} {kt k2 pt2} (hc : X.calm = true) (hN : X.N.Nodup) (hi : X.N[i]? = some x) (hj : X.N[j]? = some y) (hij : i ≠ j)
    (hx : X.env.scope.names.lookup x = some .local) (hy : X.env.scope.names.lookup y = some .local) (ha : PXA X W [a, b] u)
    (hw : swappedStores [.Tuple [.Name x px, .Name y py] kt pt] (.Tuple [a, b] k2 pt2) X.env = pure (some [x, y]))
    (hs : swapsWithSole [.Tuple [.Name x px, .Name y py] kt pt] (.Tuple [a, b] k2 pt2) pos.line X.env = pure false := by rfl) :
    PXS X W (.Assign [.Tuple [.Name x px, .Name y py] kt pt] (.Tuple [a, b] k2 pt2) pos) (wsPar i j u) := by
  obtain ⟨t, a1, a2⟩ := ha.ex
  refine ⟨⟨_, ps_par hc hN hi hj hij hx hy a1 hw hs, fun F env σ G H P Q hx hs hw hq => a2 F env σ G H _ _ _ hx hs hw (fun ds e1 vs G1 H1 p s1 x1 r1 => ?_) (hq.ex σ)⟩⟩
  match ds, p, r1 with
  | [d1, d2], p, r1 =>
    obtain ⟨v1, v2, rfl, q1, q2⟩ := r1.inv2
    exact ⟨v1, v2, rfl, hq.nx _ _ G1 H1 p ((s1.set q1).set q2) x1⟩
  | [], p, _ => exact p.elim
  | [_], p, _ => exact p.elim
  | _ :: _ :: _ :: _, p, _ => exact p.elim
def wsPar3 (i j k : Nat) (u : WA) : WS := fun env K => u env (fun ds e => match ds with | [d1, d2, d3] => K.nx (((e.set i (.v d1)).set j (.v d2)).set k (.v d3)) | _ => False) K.ex
/-- a target of any form -/
def wsAsg (w : WE) (g : WG) : WS := fun env K => w env (fun d e => g d e K.nx) K.ex
theorem ps_asg' {tg : Expr} {own : List Nat} {g : WG} (he : PX X W e w) (hg : PXG X tg own g) (hs : swapsWithSole [tg] e pos.line X.env = pure false := by rfl) (hw : swappedStores [tg] e X.env = pure none := by rfl)
    (h1 : (assignEach [tg] X.env).map (·.2) = [assign tg X.env] := by rfl) : PXS X W (.Assign [tg] e pos) (wsAsg w g) := by
  obtain ⟨t, a1, a2⟩ := he.ex
  obtain ⟨gt, g1, g2⟩ := hg.ex
  exact ⟨⟨_, ps_asg a1 g1 hs hw h1, fun F env σ G H P Q hx hs hw hq => a2 F env σ G H _ _ _ hx hs hw (fun d e1 v G1 H1 p s1 x1 r1 => g2 F e1 σ G1 H1 v d _ _ hx s1 r1 p fun e2 σ2 p2 s2 _ => hq.nx e2 σ2 G1 H1 p2 s2 x1) (hq.ex σ)⟩⟩

/-! ### loops -/
def wsForL (g : WG) (b : WS) (K : EnD) : List D → En → Prop
  | [], env => K.nx env
  | x :: xs, env => g x env fun e1 => b e1 { K with nx := fun e => wsForL g b K xs e, ct := fun e => wsForL g b K xs e, bk := K.nx }
def wsFor (wi : WA) (g : WG) (b : WS) : WS := fun env K => wi env (fun ds e => wsForL g b K ds e) K.ex
theorem ps_for' {tg iter : Expr} {body : List Stmt} {own : List Nat} {wi : WA} {g : WG} {b : WS} (hp : PassesOwn (model X.prog X.w) X.A X.env X.xe) (hc : X.calm = true) (hi : PXI X W tg iter wi) (hg : PXG X tg own g) (hb : PXB X W body b)
    (hf : ∀ x, foldedSetIterable iter X.env x = pure x := by intro _; rfl) : PXS X W (.For tg iter body [] pos) (wsFor wi g b) := by
  obtain ⟨ti, i1, i2⟩ := hi.ex
  obtain ⟨gt, g1, g2⟩ := hg.ex
  obtain ⟨tb, b1, b2⟩ := hb.ex
  refine ⟨⟨_, ps_for hp hc i1 g1 b1 hf, fun F env σ G H P Q hx hs hw hq => i2 F env σ G H _ _ _ hx hs hw (fun ds e1 J G1 H1 p1 s1 x1 wk => ?_) (hq.ex σ)⟩⟩
  obtain ⟨Gd, Y, w1, w2, w3⟩ := wk.ex
  refine for_it w1 (fun i σ' H' => ∃ (e2 : En) (G2 : Hp), SI F e2 σ' G2 H' ∧ Ex G1 G2 ∧ wsForL g b P (ds.drop i) e2) ⟨e1, G1, s1, Ex.refl _, p1⟩ (fun i σ' H' hi ⟨e2, G2, a1, a2, _⟩ => w2 G2 H' a2 a1.exG) ?_ ?_
  · intro i x σ' H' H'' hi ⟨e2, G2, a1, a2, a3⟩ hy
    obtain ⟨d, G3, c1, c2, c3⟩ := w3 i H' x H'' G2 hy a1.pre a2
    have hd : ds.drop i = d :: ds.drop (i + 1) := by
      obtain ⟨hl, e⟩ := List.getElem?_eq_some_iff.mp c1
      rw [← e]
      exact List.drop_eq_getElem_cons hl
    rw [hd] at a3
    have s3 := a1.step c2
    have x3 : Ex G1 G3 := a2.trans c2.ex
    refine g2 F e2 σ' G3 H'' x d _ _ hx s3 c3 a3 fun e3 σ3 p3 s4 _ => ?_
    refine b2 F e3 σ3 G3 H'' _ _ hx s4 p3 ⟨fun e4 σ4 G4 H4 p4 s5 x5 => ⟨e4, G4, s5, x3.trans x5, p4⟩, hq.rt, fun e4 σ4 G4 H4 p4 s5 x5 => hq.nx e4 σ4 G4 H4 p4 s5 ((x1.trans x3).trans x5), fun e4 σ4 G4 H4 p4 s5 x5 => ⟨e4, G4, s5, x3.trans x5, p4⟩, hq.ex⟩
  · intro σ' H' ⟨e2, G2, a1, a2, a3⟩
    have hd : ds.drop ds.length = [] := List.drop_length
    rw [hd] at a3
    exact hq.nx e2 σ' G2 H' a3 a1 (x1.trans a2)
/-- a while that ends within n turns -/
def wsWhN (c : WT) (b : WS) (K : EnD) : Nat → En → Prop
  | 0, _ => False
  | n + 1, env => c env (fun k e => match k with
    | true => b e { K with nx := wsWhN c b K n, ct := wsWhN c b K n, bk := K.nx }
    | false => K.nx e) K.ex
def wsWhile (c : WT) (b : WS) : WS := fun env K => ∃ n, wsWhN c b K n env
theorem ps_while' {c : Expr} {body : List Stmt} {wc : WT} {b : WS} (hp : PassesOwn (model X.prog X.w) X.A X.env X.xe) (hc : PXT X W c wc) (hb : PXB X W body b) : PXS X W (.While c body [] pos) (wsWhile wc b) := by
  obtain ⟨tc, c1, c2⟩ := hc.ex
  obtain ⟨tb, b1, b2⟩ := hb.ex
  refine ⟨⟨_, ps_while hp c1 b1, fun F env σ G H P Q hx hs hw hq => ?_⟩⟩
  obtain ⟨n, hw⟩ := hw
  refine ⟨fun m σ' H' => ∃ (e2 : En) (G2 : Hp), SI F e2 σ' G2 H' ∧ Ex G G2 ∧ wsWhN wc b P m e2, ⟨n, env, G, hs, Ex.refl _, hw⟩, ?_⟩
  intro m σ' H' ⟨e2, G2, a1, a2, a3⟩
  cases m with
  | zero => exact a3.elim
  | succ m =>
    refine c2 F e2 σ' G2 H' _ _ _ hx a1 a3 (fun k e3 G3 H3 p3 s3 x3 => ?_) (hq.ex σ')
    cases k with
    | false => exact iteF (hq.nx e3 σ' G3 H3 p3 s3 (a2.trans x3))
    | true =>
      refine iteT ⟨fun σ4 H4 => ∃ (e2 : En) (G2 : Hp), SI F e2 σ4 G2 H4 ∧ Ex G G2 ∧ wsWhN wc b P m e2, fun σ4 H4 h => ⟨m, Nat.lt_succ_self m, h⟩, ?_⟩
      exact b2 F e3 σ' G3 H3 _ _ hx s3 p3 ⟨fun e4 σ4 G4 H4 p4 s5 x5 => ⟨e4, G4, s5, (a2.trans x3).trans x5, p4⟩, hq.rt, fun e4 σ4 G4 H4 p4 s5 x5 => hq.nx e4 σ4 G4 H4 p4 s5 ((a2.trans x3).trans x5), fun e4 σ4 G4 H4 p4 s5 x5 => ⟨e4, G4, s5, (a2.trans x3).trans x5, p4⟩, hq.ex⟩
end

/-! ### defs: what they promise -/
abbrev FT := List D → (D → Prop) → (DX → Prop) → Prop
/-- the promise of a def of n parameters over data -/
def spP (K : PySem.W.Frag) (mg : Str → Option Value) (n : Nat) (F : FT) : Sp := fun vs H Q E => ∃ (b : Option Addr) (G : Hp) (ds : List D) (P : D → Prop) (R : DX → Prop), Pre ⟨K, mg, b⟩ G H ∧ Reps ⟨K, mg, b⟩ G vs ds ∧ ds.length = n ∧ F ds P R ∧
  (∀ d v G' H', P d → Post ⟨K, mg, b⟩ G H G' H' → Rep ⟨K, mg, b⟩ G' v d → Q v H') ∧ ∀ x cls dct G' H', R x → Post ⟨K, mg, b⟩ G H G' H' → RX ⟨K, mg, b⟩ G' x cls dct → E cls dct H'
theorem spP_len {K : PySem.W.Frag} {mg : Str → Option Value} {n : Nat} {F : FT} {vs : List V} {H : Hp} {Q : VK} {E : XK} (h : spP K mg n F vs H Q E) : vs.length = n := by
  obtain ⟨b, G, ds, P, R, _, r, hl, _⟩ := h
  rw [r.length, hl]
def startE (n : Nat) (ds : List D) : En := ds.map Sl.v ++ List.replicate (n - ds.length) Sl.no
theorem start_si {w : Wd} {G H : Hp} {vs : List V} {ds : List D} (N : List Str) (p : Pre w G H) (r : Reps w G vs ds) : SI { wd := w, G0 := G, H0 := H } (startE N.length ds) (L2.start N vs) G H := by
  have hno : ∀ (j : Nat) (l : OD), (startE N.length ds)[j]? ≠ some (.ol l) := fun j l e => by
    unfold startE at e
    by_cases hj : j < ds.length
    · rw [List.getElem?_append_left (by simpa using hj), List.getElem?_map, List.getElem?_eq_getElem hj] at e
      cases e
    · rw [List.getElem?_append_right (by simpa using hj), List.getElem?_replicate] at e
      split at e <;> cases e
  refine ⟨p, Post.refl p, ?_, fun i s e => ?_, fun i j l l' a _ e _ _ => absurd e (hno i l), (fun q hq => by cases hq), tabs_nil, fun q hq => by cases hq⟩
  · unfold startE L2.start
    rw [List.length_append, List.length_map, List.length_replicate, List.length_append, List.length_map, List.length_replicate, r.length]
  · unfold startE at e
    by_cases hj : i < ds.length
    · rw [List.getElem?_append_left (by simpa using hj), List.getElem?_map, List.getElem?_eq_getElem hj] at e
      cases e
      obtain ⟨v, h1, h2⟩ := r.getD (List.getElem?_eq_getElem hj)
      refine ⟨v, ?_, h2⟩
      unfold L2.start
      rw [List.getElem?_append_left (by rw [List.length_map, r.length]; exact hj), List.getElem?_map, h1]
      rfl
    · rw [List.getElem?_append_right (by simpa using hj), List.getElem?_replicate] at e
      split at e
      · cases e
        trivial
      · cases e
section
variable {P : Program} {w : World} {K : PySem.W.Frag} {mg : Str → Option Value} {base : Heap}
abbrev WDef (E : XK) : WX := fun cls d _ H => E cls d H
/-- THE RULE: a def by its body -/
theorem def_ok {x qual : Str} {st : Stmt} {f : Addr} {fd : FuncData} {N ps : List Str} {k : Nat} {F : FT} (Fn : Fun K x qual st f fd) (S : FnScope N ps (defScope st))
    (body : ∀ (cdv : Value) (A : Around) (outer : List Env) (s : Shared) (H : Hp) (E : XK), Room k (A.deeper (envOfC qual (defScope st) s.heap.objs.size f cdv)) →
      ∃ ws : WS, PXB (cxOf (L2.CX P w) P w K mg base N qual (defScope st) f cdv A outer s H E) (WDef E) (defBody st) ws ∧
        ∀ (ds : List D) (Pd : D → Prop) (R : DX → Prop), ds.length = ps.length → F ds Pd R → ws (startE N.length ds) { nx := fun _ => Pd .non, rt := Pd, ex := fun x _ => R x }) (hNl : N.contains ("<lambda>" : Str) = false := by decide) :
    FnOk P w K mg base (L2.CX P w) (k + 1) f fd ps (spP K mg ps.length F) := by
  refine Fn.okX S (fun vs H Q E h => spP_len h) (fun cdv A outer s H vs Q E hr h => ?_)
  obtain ⟨b, G, ds, Pd, R, hp, r, hl, hF, h1, h2⟩ := h
  obtain ⟨ws, hb, hw⟩ := body cdv A outer s H E hr
  obtain ⟨t, t1, t2⟩ := hb.ex
  refine ⟨t, t1, t2 { wd := ⟨K, mg, b⟩, G0 := G, H0 := H } (startE N.length ds) (L2.start N vs) G H _ _ (XOk.mk' hNl rfl rfl) (start_si N hp r) (hw ds Pd R hl hF) ?_⟩
  exact ⟨fun e1 σ1 G1 H1 p s1 x1 => h1 .non .non G1 H1 p s1.post .non, fun d v e1 σ1 G1 H1 p s1 r1 => h1 d v G1 H1 p s1.post r1, fun _ _ _ _ z => z.elim, fun _ _ _ _ z => z.elim, fun σ1 x e1 cls dct G1 H1 p s1 rx => h2 x cls dct G1 H1 p s1.post rx⟩
end

/-! ### calls -/
def wCall (F : FT) (dd : List D) (u : WA) : WE := fun env P R => u env (fun ds e => F (ds ++ dd) (fun d => P d e) fun x => R x e) R
section
variable {X : Cx} {W : WX} {k n : Nat} {f : Addr} {fd : FuncData} {ps : List Str} {F : FT} {x : Str} {p pos : Pos} {e : Expr} {es : List Expr} {u : WA} {ds : List Value} {dvs : List V} {dd : List D}
theorem call_run {Fc' : Fc} {env : En} {σ : L2.St} {G H : Hp} {vs : List V} {as : List D} {P : D → En → Prop} {R : QX} {Q : VK} (hx : XOk X Fc') (hn : (as ++ dd).length = n) (hdd : ∀ (w : Wd) (G : Hp), Reps w G dvs dd) (s1 : SI Fc' env σ G H) (r1 : Reps Fc'.wd G vs as) (p1 : F (as ++ dd) (fun d => P d env) fun x => R x env)
    (hq : ∀ d env' v G' H', P d env' → SI Fc' env' σ G' H' → Ex G G' → Rep Fc'.wd G' v d → Q v H') (hk : XK' Fc' W σ R) : spP X.K X.mg n F (vs ++ dvs) H Q (L2.WE W σ) := by
  obtain ⟨⟨K, mg, b⟩, G0, H0, pins, self⟩ := Fc'
  obtain ⟨h1, h2, _⟩ := hx
  cases h1
  cases h2
  exact ⟨b, G, as ++ dd, _, _, s1.pre, r1.append (hdd _ _), hn, p1, fun d v G' H' p po r => hq d env v G' H' p (s1.step po) po.ex r, fun x cls dct G' H' p po r => hk x env cls dct G' H' p (s1.step po) r⟩
theorem px_call (Fn : FnOk X.prog X.w X.K X.mg X.base (L2.CX X.prog X.w) k f fd ps (spP X.K X.mg n F)) (hr : Room k X.A) (hg : Gl X x) (hm : X.mg x = some (.ref f)) (hk : PySem.W.keepIn X.K (.ref f) = true) (hb : Binds X.K fd ps ds) (hd : Vals dvs ds) (hdd : ∀ (w : Wd) (G : Hp), Reps w G dvs dd) (tk : Takes X W)
    (ha : PXA X W (e :: es) u) (hn : (e :: es).length + dd.length = n) (hdb : (x == ("__debug__" : Str)) = false := by decide) (he : starEach (e :: es) X.env = (false, eval e X.env) :: starEach es X.env := by rfl) (hpl : (backTo pos (starEach es X.env)).any (·.1) = false := by rfl) :
    PX X W (.Call (.Name x p) (e :: es) [] pos) (wCall (fun ds P R => ds.length = n ∧ F ds P R) dd u) := by
  obtain ⟨t, a1, a2⟩ := ha.ex
  refine ⟨⟨_, pe_callSD Fn hr hg hm hk hb hd (fun σ => passAt tk σ) a1 hdb he hpl, fun Fc' env σ G H P R Q hx hs hw hq hk => a2 Fc' env σ G H _ R _ hx hs hw (fun as e1 vs G1 H1 p1 s1 x1 r1 => ?_) hk⟩⟩
  exact call_run hx p1.1 hdd s1 r1 p1.2 (fun d e' v G' H' p s x r => hq d e' v G' H' p s (x1.trans x) r) hk
/-- no defaults -/
theorem px_call' (Fn : FnOk X.prog X.w X.K X.mg X.base (L2.CX X.prog X.w) k f fd ps (spP X.K X.mg n F)) (hr : Room k X.A) (hg : Gl X x) (hm : X.mg x = some (.ref f)) (hk : PySem.W.keepIn X.K (.ref f) = true) (hb : Binds X.K fd ps []) (tk : Takes X W)
    (ha : PXA X W (e :: es) u) (hn : (e :: es).length = n) (hdb : (x == ("__debug__" : Str)) = false := by decide) (he : starEach (e :: es) X.env = (false, eval e X.env) :: starEach es X.env := by rfl) (hpl : (backTo pos (starEach es X.env)).any (·.1) = false := by rfl) :
    PX X W (.Call (.Name x p) (e :: es) [] pos) (wCall (fun ds P R => ds.length = n ∧ F ds P R) [] u) :=
  px_call Fn hr hg hm hk hb .nil (fun _ _ => .nil) tk ha (by rw [← hn]; rfl) hdb he hpl
end
end Pu
set_option maxRecDepth 100000
/-! Rules of the pure layer: zip, enumerate, join, a keyword; the law's bag -/
namespace Pu
open PySem L2 PySem.Spec PyProof.Rows
section
variable {X : Cx} {W : WX}
theorem pair_wk {w : Wd} {G2 H2 H3 : Hp} {T : Addr} {x y : V} {dx dy : D} (hp : Pre w G2 H2) (hn : H2 T = none) (e : H3 = upd H2 T (.tup [x, y])) (rx : Rep w G2 x dx) (ry : Rep w G2 y dy) : ∃ G3, Post w G2 H2 G3 H3 ∧ Rep w G3 (.ref T) (.tup [dx, dy]) := by
  subst e
  have po := Post.new1 (o := .tup [x, y]) hp hn
  exact ⟨_, po, .tup upd_same (.cons (rx.mono po.ex) (.cons (ry.mono po.ex) .nil))⟩
def zipD (a b : List D) : List D := List.zipWith (fun x y => .tup [x, y]) a b
theorem zipD_get {a b : List D} {i : Nat} {x y : D} (h1 : a[i]? = some x) (h2 : b[i]? = some y) : (zipD a b)[i]? = some (.tup [x, y]) := by
  unfold zipD
  rw [List.getElem?_zipWith, h1, h2]
theorem zipD_length (a b : List D) : (zipD a b).length = min a.length b.length := by
  unfold zipD
  rw [List.length_zipWith]
theorem walk_zipT {K : PySem.W.Frag} {a b : Addr} {xs ys : List V} {n : Nat} (hn : n = min xs.length ys.length) : Walk (RZ.ItzT K a b) n (fun H => SqT K H a xs ∧ SqT K H b ys) (YPair (fun i => xs[i]?) (fun i => ys[i]?)) := by
  subst hn
  refine ⟨fun i _ hi q => ?_, fun _ q => ⟨xs, ys, q.1, q.2, by omega⟩, fun i H v H' _ q y => ?_⟩
  · have h1 : i < xs.length := by omega
    have h2 : i < ys.length := by omega
    exact ⟨xs, ys, xs[i], ys[i], q.1, q.2, by simp [h1], by simp [h2]⟩
  · obtain ⟨T, x, z, h1, h2, h3, h4, h5⟩ := y
    exact ⟨T, x, z, h1, h2, h3, h4 xs q.1, h5 ys q.2⟩
def wZip (wa wb : WE) : WA := fun env P R => wa env (fun d1 e1 => wb e1 (fun d2 e2 => match d1, d2 with
  | .lst a, .lst b => P (zipD a b) e2
  | .tup a, .tup b => P (zipD a b) e2
  | _, _ => False) R) R
theorem pair_walk {F : Fc} {G1 : Hp} {J : It} {xs ys : List V} {a b : List D} {Gd : Hp → Prop} (r1 : Reps F.wd G1 xs a) (r2 : Reps F.wd G1 ys b) (hg : ∀ G2 H2, Ex G1 G2 → Ex G2 H2 → Gd H2) (w : Walk J (min xs.length ys.length) Gd (YPair (fun i => xs[i]?) (fun i => ys[i]?))) : Wk F G1 J (zipD a b) := by
  refine ⟨⟨Gd, _, by rw [zipD_length, ← r1.length, ← r2.length]; exact w, hg, fun i H2 v H3 G2 y hp x => ?_⟩⟩
  obtain ⟨T, u, z, rfl, hn, e, e1, e2⟩ := y
  obtain ⟨d1, q1, q2⟩ := r1.get e1
  obtain ⟨d2, q3, q4⟩ := r2.get e2
  obtain ⟨G3, po, r⟩ := pair_wk hp hn e (q2.mono x) (q4.mono x)
  exact ⟨_, G3, zipD_get q1 q3, po, r⟩
theorem pi_zip2 {e e2 : Expr} {wa wb : WE} {p pos tpos : Pos} {elts : List Expr} {kk : Nat} (hg : Gl X "zip") (hm : X.mg "zip" = none) (hc : X.calm = true) (h1 : PX X W e wa) (h2 : PX X W e2 wb)
    (hs : starEach [e, e2] X.env = (false, eval e X.env) :: starEach [e2] X.env := by rfl) (hs2 : starEach [e2] X.env = (false, eval e2 X.env) :: starEach [] X.env := by rfl) (hpl : (backTo pos (starEach [e2] X.env)).any (·.1) = false := by rfl) :
    PXI X W (.Tuple elts kk tpos) (.Call (.Name "zip" p) [e, e2] [] pos) (wZip wa wb) := by
  obtain ⟨ta, a1, a2⟩ := h1.ex
  obtain ⟨tb, b1, b2⟩ := h2.ex
  refine ⟨⟨_, RZ.pi_zipA hg hm (pa_cons a1 (pa_cons b1 pa_nil hs2) hs) hs hpl, fun F env σ G H P R Rq hx hs hw hq hk => a2 F env σ G H _ R _ hx hs hw (fun d1 e1 v1 G1 H1 p1 s1 x1 r1 => b2 F e1 σ G1 H1 _ R _ hx s1 p1 (fun d2 e2 v2 G2 H2 p2 s2 x2 r2 => ?_) hk) hk⟩⟩
  have r1' := r1.mono x2
  split at p2
  · cases r1' with
    | lst l1 l2 =>
    cases r2 with
    | lst m1 m2 =>
    exact ⟨_, _, _, _, rfl, .inl ⟨SqL.of (s2.exG _ _ l1), SqL.of (s2.exG _ _ m1), hq _ e2 _ G2 H2 p2 s2 (x1.trans x2) (pair_walk l2 m2 (fun G3 H3 y z => ⟨SqL.of (z _ _ (y _ _ l1)), SqL.of (z _ _ (y _ _ m1))⟩) (walk_zip rfl))⟩⟩
  · cases r1' with
    | tup l1 l2 =>
    cases r2 with
    | tup m1 m2 =>
    exact ⟨_, _, _, _, rfl, .inr ⟨s2.exG.tt l1, s2.exG.tt m1, hq _ e2 _ G2 H2 p2 s2 (x1.trans x2) (pair_walk l2 m2 (fun G3 H3 y z => ⟨z.tt (y _ _ l1), z.tt (y _ _ m1)⟩) (walk_zipT rfl))⟩⟩
  · exact p2.elim
def enumD (a : List D) : List D := (List.range a.length).zipWith (fun i x => .tup [.int (i : Nat), x]) a
def wEnum (wa : WE) : WA := fun env P R => wa env (fun d1 e1 => match d1 with
  | .lst a => P (enumD a) e1
  | _ => False) R
theorem pi_enum1 {e : Expr} {wa : WE} {p pos tpos : Pos} {elts : List Expr} {kk : Nat} (hg : Gl X "enumerate") (hm : X.mg "enumerate" = none) (hc : X.calm = true) (h1 : PX X W e wa)
    (hs : starEach [e] X.env = [(false, eval e X.env)] := by rfl) : PXI X W (.Tuple elts kk tpos) (.Call (.Name "enumerate" p) [e] [] pos) (wEnum wa) := by
  obtain ⟨ta, a1, a2⟩ := h1.ex
  refine ⟨⟨_, pi_enum hg hm (pa_cons a1 pa_nil hs) hs, fun F env σ G H P R Rq hx hs hw hq hk => a2 F env σ G H _ R _ hx hs hw (fun d1 e1 v1 G1 H1 p1 s1 x1 r1 => ?_) hk⟩⟩
  split at p1
  · rename_i dl
    cases r1 with
    | @lst a0 vs _ l1 l2 =>
    have hl : (enumD dl).length = vs.length := by
      unfold enumD
      rw [List.length_zipWith, List.length_range, l2.length, Nat.min_self]
    refine ⟨_, _, rfl, SqL.of (s1.exG _ _ l1), hq _ e1 _ G1 H1 p1 s1 x1 ⟨⟨fun H => SqL X.K H a0 vs, fun i H v H' => ∃ T x, v = .ref T ∧ H T = none ∧ H' = upd H T (.tup [.int (i : Nat), x]) ∧ vs[i]? = some x, ?_, fun G3 H3 y z => SqL.of (z _ _ (y _ _ l1)), fun i H2 v H3 G2 y hp x => ?_⟩⟩⟩
    · rw [hl]
      exact walk_enum.mono (fun _ h => h) fun i H v H' _ _ y => by
        obtain ⟨T, x, z, h1, h2, h3, h4, h5⟩ := y
        cases h4
        exact ⟨T, z, h1, h2, h3, h5⟩
    · obtain ⟨T, z, rfl, hn, e, e1⟩ := y
      obtain ⟨d1, q1, q2⟩ := l2.get e1
      obtain ⟨G3, po, r⟩ := pair_wk hp hn e (.int (i := (i : Nat))) (q2.mono x)
      refine ⟨_, G3, ?_, po, r⟩
      unfold enumD
      rw [List.getElem?_zipWith, q1, List.getElem?_range (List.getElem?_eq_some_iff.mp q1).1]
  · exact p1.elim
/-! ### methods of texts -/
abbrev RDM := D → List D → (D → Prop) → Prop
def wM1 (r : RDM) (wo wa : WE) : WE := fun env P R => wo env (fun o e1 => match o with
  | .str s => wa e1 (fun d e2 => r (.str s) [d] fun z => P z e2) R
  | _ => False) R
def strsOf : List D → Option (List Str)
  | [] => some []
  | .str b :: l => (strsOf l).map (b :: ·)
  | _ :: _ => none
theorem strsOf_ok {w : Wd} {G : Hp} : ∀ {vs : List V} {l : List D} {bs : List Str}, Reps w G vs l → strsOf l = some bs → vs = bs.map V.str
  | _, _, bs, .nil, e => by cases e; rfl
  | _, .str b :: l, bs, .cons r t, e => by
    unfold strsOf at e
    cases e2 : strsOf l with
    | none => rw [e2] at e; cases e
    | some cs =>
      rw [e2] at e
      cases e
      cases r
      rw [strsOf_ok t e2]
      rfl
  | _, .non :: l, bs, .cons r t, e => by cases e
  | _, .int _ :: l, bs, .cons r t, e => by cases e
  | _, .bl _ :: l, bs, .cons r t, e => by cases e
  | _, .lst _ :: l, bs, .cons r t, e => by cases e
  | _, .tup _ :: l, bs, .cons r t, e => by cases e
  | _, .bag :: l, bs, .cons r t, e => by cases e
  | _, .ins _ _ :: l, bs, .cons r t, e => by cases e
  | _, .dk _ :: l, bs, .cons r t, e => by cases e
  | _, .dt _ :: l, bs, .cons r t, e => by cases e
def rdJoin : RDM := fun o ds P => match o, ds with
  | .str a, [.lst l] => ∃ ys, strsOf l = some ys ∧ (ys.map (·.length)).sum + ys.length * a.length ≤ 16777216 ∧ P (.str (Txt.join a ys))
  | .str a, [.tup l] => ∃ ys, strsOf l = some ys ∧ (ys.map (·.length)).sum + ys.length * a.length ≤ 16777216 ∧ P (.str (Txt.join a ys))
  | _, _ => False
theorem px_join {o e : Expr} {wo wa : WE} {apos pos : Pos} (ho : PX X W o wo) (he : PX X W e wa) (hs : starEach [e] X.env = [(false, eval e X.env)] := by rfl) (hbase : attributeBase o "join" X.env (eval o X.env) = eval o X.env := by rfl) (hline : (apos.endLine == pos.line) = true := by rfl) :
    PX X W (.Call (.Attribute o "join" apos) [e] [] pos) (wM1 rdJoin wo wa) := by
  obtain ⟨t, a1, a2⟩ := ho.ex
  obtain ⟨u, b1, b2⟩ := he.ex
  refine ⟨⟨_, pe_join a1 b1 hs hbase hline, fun F env σ G H P R Q hx hs hw hq hk => a2 F env σ G H _ R _ hx hs hw (fun d1 e1 v1 G1 H1 p1 s1 x1 r1 => ?_) hk⟩⟩
  cases d1 <;> first | exact p1.elim | skip
  refine ⟨⟨_, r1.asStr⟩, b2 F e1 σ G1 H1 _ R _ hx s1 p1 (fun d2 e2 v2 G2 H2 p2 s2 x2 r2 => ?_) hk⟩
  · cases r1
    cases r2 <;> first | exact p2.elim | skip
    · rename_i l1 l2
      obtain ⟨ys, h1, h2, h3⟩ := p2
      have e := strsOf_ok l2 h1
      subst e
      exact ⟨_, _, ys, rfl, rfl, .inl (SqL.of (s2.exG _ _ l1)), h2, hq _ e2 _ G2 H2 h3 s2 (x1.trans x2) .str⟩
    · rename_i l1 l2
      obtain ⟨ys, h1, h2, h3⟩ := p2
      have e := strsOf_ok l2 h1
      subst e
      exact ⟨_, _, ys, rfl, rfl, .inr (by rw [← hx.k]; exact s2.exG.tt l1), h2, hq _ e2 _ G2 H2 h3 s2 (x1.trans x2) .str⟩
end
end Pu
set_option maxRecDepth 100000
/-! The law's bag and its draws, by hand -/
namespace Pu
open PySem L2 PySem.Spec PyProof.Rows

abbrev oAdd : R2 := rI0 fun i j => .int (i + j)
abbrev oMul : R2 := rI CMul fun i j => .int (i * j)
abbrev oMod : R2 := rI (fun _ j => 0 < j) fun i j => .int (i % j)
abbrev oDiv : R2 := rI CDiv fun i j => .int (i / j)
abbrev oDivW : R2 := rI CDivW fun i j => .int (i / j)
abbrev oPow : R2 := rI CPow fun i j => .int (i ^ j.toNat)
abbrev oLt : R2 := rI0 fun i j => .bl (decide (i < j))
abbrev oGt : R2 := rI0 fun i j => .bl (decide (j < i))
abbrev oGe : R2 := rI0 fun i j => .bl (decide (j ≤ i))
abbrev rInt1 : List V → Hp → VK → Prop := fun xs H Q => (∃ i, xs = [.int i] ∧ Q (.int i) H) ∨ ∃ k, xs = [.bl k] ∧ Q (.int (if k then 1 else 0)) H
abbrev rLenQ (K : PySem.W.Frag) : List V → Hp → VK → Prop := fun xs H Q => ∃ p ys, xs = [.ref p] ∧ (SqL K H p ys ∨ SqT K H p ys) ∧ Q (.int ys.length) H
section
variable (K : PySem.W.Frag)
abbrev tBag (i : Int) : TE := tOp (rIxL K) (tVar 0) (tC (.int i))
abbrev tBagSet (i : Int) (te : TE) : TS := tAsg te (gSub (tVar 0) (tC (.int i)) rSetL)
abbrev tInt (te : TE) : TE := tCB rInt1 (tCons te tNil)
def t_draw1 : TS := tBagSet 4 (tOp oAdd (tBag K 4) (tC (.int 1)))
def t_draw2 : TS := tIfS (tAnd (tTest (tOp rEq (tBag K 2) (tC (.int 0)))) (tTest (tOp oLt (tBag K 1) (tCB (rLenQ K) (tCons (tBag K 0) tNil)))))
  (tSeq (tAsg (tOp (rIxL K) (tBag K 0) (tBag K 1)) (gName 2)) (tSeq (tBagSet 1 (tOp oAdd (tBag K 1) (tC (.int 1))))
    (tIfS (tTest (tOp oGe (tVar 2) (tOp oPow (tC (.int 10)) (tC (.int 18))))) (tBagSet 2 (tVar 2))
      (tBagSet 3 (tOp oMod (tInt (tOp oAdd (tOp oAdd (tOp oMul (tBag K 3) (tC (.int 40013))) (tOp oMul (tOp oMod (tInt (tVar 2)) (tC (.int 2147483563))) (tC (.int 6967)))) (tC (.int 53)))) (tC (.int 2147483587))))))) tNext
def t_draw3 : TS := tIfS (tTest (tOp oGt (tBag K 2) (tC (.int 0)))) (tSeq (tAsg (tOp oMod (tInt (tBag K 2)) (tVar 1)) (gName 3)) (tSeq (tBagSet 2 (tOp oDivW (tBag K 2) (tVar 1))) (tRet (tVar 3)))) tNext
def t_draw4 : TS := tSeq (tAsg (tInt (tBag K 3)) (gName 4)) (tSeq (tBagSet 3 (tOp oMod (tInt (tOp oAdd (tOp oAdd (tOp oAdd (tOp oPow (tVar 4) (tC (.int 3))) (tOp oMul (tVar 4) (tC (.int 30029)))) (tOp oMul (tBag K 4) (tC (.int 1299827)))) (tC (.int 70001)))) (tC (.int 2147483587))))
  (tRet (tOp oMod (tInt (tOp oAdd (tOp oDiv (tBag K 3) (tC (.int 71))) (tOp oMul (tOp oMod (tInt (tBag K 3)) (tC (.int 7907))) (tC (.int 61))))) (tVar 1))))
def t_draw : TS := tSeq (t_draw1 K) (tSeq (t_draw2 K) (tSeq (t_draw3 K) (t_draw4 K)))
end
theorem r_bag {K : PySem.W.Frag} {σ : L2.St} {H : Hp} {Q : VK} {b : Addr} {xs : List V} {i : Int} {v : V} (hb : H b = some (.lst xs)) (h0 : σ[0]? = some (some (.ref b))) (e : atI xs i = some v) (q : Q v H) : tBag K i σ H Q := ⟨_, h0, b, xs, i, v, rfl, rfl, SqL.of hb, e, q⟩
theorem r_set {σ : L2.St} {H : Hp} {D : Ends} {te : TE} {b : Addr} {i : Int} (h : te σ H fun v H1 => σ[0]? = some (some (.ref b)) ∧ ∃ xs j, H1 b = some (.lst xs) ∧ ixN xs.length i = some j ∧ D.nx σ (upd H1 b (.lst (xs.set j v)))) (m : ∀ Q Q' : VK, (∀ v H1, Q v H1 → Q' v H1) → te σ H Q → te σ H Q') : tBagSet i te D σ H := by
  refine m _ _ (fun v H1 q => ?_) h
  obtain ⟨h0, xs, j, h1, h2, h3⟩ := q
  exact ⟨_, h0, b, xs, i, j, rfl, rfl, h1, h2, h3⟩

/-- a draw: any number from 0 below the many -/
def F_draw : FT := fun ds P _ => ∃ m : Int, ds = [.bag, .int m] ∧ 0 < m ∧ m.natAbs.log2 < 9000 ∧ ∀ v, 0 ≤ v → v < m → P (.int v)
theorem Post.bagUpd {w : Wd} {G H H' : Hp} {b : Addr} (p : Pre w G H) (hb : w.b = some b) (h : ∀ a, a ≠ b → H' a = H a) (bg : Bag w.K G H' b) (hn : H' b ≠ none) : Post w G H G H' := by
  have g0 := (p.bag b hb).1
  refine ⟨Ex.refl _, fun a o ha => ?_, fun a o hne ha => ?_, fun a ha => .inl ha, fun β hβ => ?_⟩
  · rw [h a (ne_of_none ha g0)]
    exact p.exG _ _ ha
  · rw [h a (fun z => hne (by rw [hb, z]))]
    exact ha
  · rw [hb] at hβ
    cases hβ
    exact ⟨g0, hn, bg⟩
theorem pure_draw {K : PySem.W.Frag} {mg : Str → Option Value} {vs : List V} {H : Hp} {Q : VK} {E : XK} {N : List Str} (hN : N.length = 5) (h : spP K mg 2 F_draw vs H Q E) : t_draw K { nx := fun _ H' => Q .non H', rt := Q } (L2.start N vs) H := by
  obtain ⟨bo, G, ds, P, R, pre, rs, hl, ⟨m, rfl, hm, hm2, hP⟩, hq, _⟩ := h
  obtain ⟨v1, v2, rfl, r1, r2⟩ := rs.inv2
  cases r2
  cases r1 with
  | @bag b hb =>
  have hb : bo = some b := hb
  subst hb
  obtain ⟨g0, hn0, bg⟩ := pre.bag b rfl
  obtain ⟨c, ns, i, r, mm, n, h1, h2, h3, h4, h5, h6⟩ := bg.ex
  have hσ : L2.start N [.ref b, .int m] = [some (.ref b), some (.int m), none, none, none] := by
    unfold L2.start
    rw [hN]
    rfl
  rw [hσ]
  -- the bag with other numbers in it
  have bagB : ∀ (i' r' m' n' : Int) (Hx : Hp), Hx b = some (.lst [.ref c, .int i', .int r', .int m', .int n']) → 0 ≤ i' → 0 ≤ r' → 0 ≤ m' → m' < 2147483648 → Bag K G Hx b := fun i' r' m' n' Hx e a1 a2 a3 a4 => ⟨c, ns, i', r', m', n', e, h2, a1, a2, a3, a4⟩
  have fin : ∀ (i' r' m' n' : Int) (Hx : Hp) (v : Int), Hx b = some (.lst [.ref c, .int i', .int r', .int m', .int n']) → (∀ a, a ≠ b → Hx a = H a) → 0 ≤ i' → 0 ≤ r' → 0 ≤ m' → m' < 2147483648 → 0 ≤ v → v < m → Q (.int v) Hx := fun i' r' m' n' Hx v e k a1 a2 a3 a4 a5 a6 =>
    hq (.int v) (.int v) G Hx (hP v a5 a6) (Post.bagUpd pre rfl k (bagB i' r' m' n' Hx e a1 a2 a3 a4) (by rw [e]; simp)) .int
  have lst : ∀ (Hx : Hp), (∀ a, a ≠ b → Hx a = H a) → SqL K Hx c (ns.map V.int) := fun Hx k => by
    refine Ex.l (fun a o ha => ?_) h2
    rw [k a (ne_of_none ha g0)]
    exact pre.exG _ _ ha
  have u1 : ∀ {Hx : Hp} {o : HO}, (∀ a, a ≠ b → Hx a = H a) → ∀ a, a ≠ b → (upd Hx b o) a = H a := fun k a ha => by
    rw [upd_ne ha]
    exact k a ha
  -- the last two parts, from any numbers
  have part4 : ∀ (i' r' m' n' : Int) (x2 x3 : Option V) (Hx : Hp), Hx b = some (.lst [.ref c, .int i', .int r', .int m', .int n']) → (∀ a, a ≠ b → Hx a = H a) → 0 ≤ i' → 0 ≤ r' → 0 ≤ m' → m' < 2147483648 →
      t_draw4 K { nx := fun _ H' => Q .non H', rt := Q } [some (.ref b), some (.int m), x2, x3, none] Hx := by
    intro i' r' m' n' x2 x3 Hx e k a1 a2 a3 a4
    refine r_bag e rfl rfl (.inl ⟨_, rfl, ?_⟩)
    refine ⟨_, rfl, _, _, rfl, rfl, ⟨by decide, by decide, by omega⟩, _, rfl, _, _, rfl, rfl, .inr ⟨by decide, by decide⟩, _, _, rfl, rfl, r_bag e rfl rfl ⟨_, _, rfl, rfl, .inr ⟨by decide, by decide⟩, _, _, rfl, rfl, _, _, rfl, rfl, .inl ⟨_, rfl, _, _, rfl, rfl, (by show (0 : Int) < _; decide), ?_⟩⟩⟩
    refine ⟨_, rfl, b, _, 4 - 1, 3, rfl, rfl, e, rfl, ?_⟩
    have q := Int.emod_nonneg (m' ^ (3 : Int).toNat + m' * 30029 + n' * 1299827 + 70001) (show (2147483587 : Int) ≠ 0 by decide)
    have q2 := Int.emod_lt_of_pos (m' ^ (3 : Int).toNat + m' * 30029 + n' * 1299827 + 70001) (show (0 : Int) < 2147483587 by decide)
    refine r_bag (upd_same) rfl rfl ⟨_, _, rfl, rfl, ⟨by decide, by decide⟩, r_bag upd_same rfl rfl (.inl ⟨_, rfl, _, _, rfl, rfl, (by show (0 : Int) < _; decide), _, _, rfl, rfl, .inr ⟨by decide, by decide⟩, _, _, rfl, rfl, .inl ⟨_, rfl, _, rfl, _, _, rfl, rfl, hm, ?_⟩⟩)⟩
    exact fin i' r' _ n' _ _ upd_same (u1 k) a1 a2 q (by omega) (Int.emod_nonneg _ (by omega)) (Int.emod_lt_of_pos _ hm)
  have part3 : ∀ (i' r' m' n' : Int) (x2 : Option V) (Hx : Hp), Hx b = some (.lst [.ref c, .int i', .int r', .int m', .int n']) → (∀ a, a ≠ b → Hx a = H a) → 0 ≤ i' → 0 ≤ r' → 0 ≤ m' → m' < 2147483648 →
      t_draw3 K { nx := t_draw4 K { nx := fun _ H' => Q .non H', rt := Q }, rt := Q } [some (.ref b), some (.int m), x2, none, none] Hx := by
    intro i' r' m' n' x2 Hx e k a1 a2 a3 a4
    refine r_bag e rfl rfl ⟨_, _, rfl, rfl, _, rfl, ?_⟩
    refine ite2 (fun hc => ?_) (fun _ => part4 i' r' m' n' x2 none Hx e k a1 a2 a3 a4)
    refine r_bag e rfl rfl (.inl ⟨_, rfl, _, rfl, _, _, rfl, rfl, hm, ?_⟩)
    refine r_bag e rfl rfl ⟨_, rfl, _, _, rfl, rfl, ⟨hm, hm2⟩, _, rfl, b, _, 2, 2, rfl, rfl, e, rfl, _, rfl, ?_⟩
    exact fin i' _ m' n' _ _ upd_same (u1 k) a1 (Int.ediv_nonneg a2 (by omega)) a3 a4 (Int.emod_nonneg _ (by omega)) (Int.emod_lt_of_pos _ hm)
  -- the first two
  refine r_bag h1 rfl rfl ⟨_, _, rfl, rfl, _, rfl, b, _, 4, 4, rfl, rfl, h1, rfl, ?_⟩
  have k1 : ∀ a, a ≠ b → (upd H b (.lst [.ref c, .int i, .int r, .int mm, .int (n + 1)])) a = H a := u1 fun _ _ => rfl
  refine r_bag upd_same rfl rfl ⟨rfl, _, rfl, ?_⟩
  refine ite2 (fun hc => ?_) (fun _ => ?_)
  · refine r_bag upd_same rfl rfl (r_bag upd_same rfl rfl ⟨_, _, rfl, .inl (lst _ k1), _, _, rfl, rfl, _, rfl, ?_⟩)
    refine ite2 (fun hc2 => ?_) (fun _ => part3 i r mm (n + 1) none _ upd_same k1 h3 h4 h5 h6)
    have hlt : i < ((ns.map V.int).length : Int) := of_decide_eq_true hc2
    rw [List.length_map] at hlt
    obtain ⟨z, hz⟩ : ∃ z, ns[i.toNat]? = some z := ⟨_, List.getElem?_eq_getElem (by omega)⟩
    refine r_bag upd_same rfl rfl (r_bag upd_same rfl rfl ⟨c, _, i, .int z, rfl, rfl, lst _ k1, ?_, ?_⟩)
    · unfold atI ixN
      rw [List.length_map, if_pos h3, if_pos hlt]
      show (ns.map V.int)[i.toNat]? = _
      rw [List.getElem?_map, hz]
      rfl
    refine r_bag upd_same rfl rfl ⟨_, _, rfl, rfl, _, rfl, b, _, 1, 1, rfl, rfl, upd_same, rfl, ?_⟩
    refine ⟨_, rfl, _, _, rfl, rfl, ⟨by decide, by decide, by decide⟩, _, _, rfl, rfl, _, rfl, ?_⟩
    refine ite2 (fun hc3 => ?_) (fun _ => ?_)
    · refine ⟨_, rfl, _, rfl, b, _, 2, 2, rfl, rfl, upd_same, rfl, ?_⟩
      have hz0 : (10 : Int) ^ (18 : Int).toNat ≤ z := of_decide_eq_true hc3
      have hz1 : (0 : Int) ≤ z := Int.le_trans (by decide) hz0
      exact part3 (i + 1) z mm (n + 1) _ _ upd_same (u1 (u1 k1)) (by omega) hz1 h5 h6
    · refine r_bag upd_same rfl rfl ⟨_, _, rfl, rfl, .inr ⟨by decide, by decide⟩, _, rfl, .inl ⟨_, rfl, _, _, rfl, rfl, (by show (0 : Int) < _; decide), _, _, rfl, rfl, .inr ⟨by decide, by decide⟩, _, _, rfl, rfl, _, _, rfl, rfl, .inl ⟨_, rfl, _, _, rfl, rfl, (by show (0 : Int) < _; decide), _, rfl, b, _, 3, 3, rfl, rfl, upd_same, rfl, ?_⟩⟩⟩
      have q := Int.emod_nonneg (mm * 40013 + z % 2147483563 * 6967 + 53) (show (2147483587 : Int) ≠ 0 by decide)
      have q2 := Int.emod_lt_of_pos (mm * 40013 + z % 2147483563 * 6967 + 53) (show (0 : Int) < 2147483587 by decide)
      exact part3 (i + 1) r _ (n + 1) _ _ upd_same (u1 (u1 k1)) (by omega) h4 q (by omega)
  · exact part3 i r mm (n + 1) none _ upd_same k1 h3 h4 h5 h6
end Pu
set_option maxRecDepth 100000
/-! The law's bag is made; the law itself -/
namespace Pu
open PySem L2 PySem.Spec PyProof.Rows
abbrev rListQ (K : PySem.W.Frag) : List V → Hp → VK → Prop := fun xs H Q => ∃ p ys, xs = [.ref p] ∧ (SqL K H p ys ∨ SqT K H p ys) ∧ ∀ l, H l = none → Q (.ref l) (upd H l (.lst ys))
section
variable (K : PySem.W.Frag)
abbrev tCut : TE := tSl (rSlL K) (tVar 0) tNoPart (tPart (tC (.int 63)))
def t_bag : TS := tSeq (tAsg (tC (.int 49360)) (gName 1)) (tSeq (tFor (iList K (tCut K)) (gName 2)
  (tAsg (tOp oMod (tInt (tOp oAdd (tOp oAdd (tOp oMul (tVar 1) (tC (.int 47353))) (tOp oMod (tInt (tVar 2)) (tC (.int 2147483579)))) (tC (.int 29)))) (tC (.int 2147483629))) (gName 1)))
  (tRet (tLst (tCons (tCB (rListQ K) (tCons (tCut K) tNil)) (tCons (tC (.int 0)) (tCons (tC (.int 0)) (tCons (tVar 1) (tCons (tC (.int 0)) tNil))))))))
end
theorem ex_upd {H : Hp} {a : Addr} {o : HO} (hn : H a = none) : Ex H (upd H a o) := fun x u hx => by
  rw [upd_ne (ne_of_none hx hn)]
  exact hx
/-- the script comes in; a bag goes out -/
def spBag (K : PySem.W.Frag) : Sp := fun vs H Q _ => ∃ (a : Addr) (ns : List Int), vs = [.ref a] ∧ SqL K H a (ns.map V.int) ∧
  ∀ (c b : Addr) (ms : List Int) (m : Int) (H' : Hp), Ex H H' → c ≠ b → H' c = some (.lst (ms.map V.int)) → H' b = some (.lst [.ref c, .int 0, .int 0, .int m, .int 0]) → 0 ≤ m → m < 2147483648 → Q (.ref b) H'
theorem cut_ints (ns : List Int) (lo hi : Option Int) : cutV (ns.map V.int) lo hi = (cutD ns lo hi).map V.int := by
  unfold cutV cutD
  rw [List.length_map, List.map_take, List.map_drop]
theorem pure_bag {K : PySem.W.Frag} {vs : List V} {H : Hp} {Q : VK} {E : XK} {N : List Str} (hN : N.length = 3) (h : spBag K vs H Q E) : t_bag K { nx := fun _ H' => Q .non H', rt := Q } (L2.start N vs) H := by
  obtain ⟨a, ns, rfl, hS, k⟩ := h
  have hσ : L2.start N [.ref a] = [some (.ref a), none, none] := by
    unfold L2.start
    rw [hN]
    rfl
  rw [hσ]
  refine ⟨_, rfl, _, rfl, a, _, rfl, hS, fun p hp => ⟨p, rfl, ⟨_, SqL.of upd_same⟩, ?_⟩⟩
  rw [cut_ints]
  have e1 : Ex H (upd H p (.lst ((cutD ns none (some 63)).map V.int))) := fun x u hx => by
    rw [upd_ne (ne_of_none hx hp)]
    exact hx
  refine for_list (K := K) (a := p) (xs := (cutD ns none (some 63)).map V.int) (fun i σ H' => H' = upd H p (.lst ((cutD ns none (some 63)).map V.int)) ∧ ∃ (m : Int) (v : Option V), σ = [some (.ref a), some (.int m), v] ∧ 0 ≤ m ∧ m < 2147483648)
    ⟨rfl, 49360, none, rfl, by decide, by decide⟩ (fun i σ H' _ ⟨e, _⟩ => by rw [e]; exact SqL.of upd_same) ?_ ?_
  · rintro i x σ H' hi ⟨rfl, m, v, rfl, h1, h2⟩
    obtain ⟨z, rfl⟩ : ∃ z, x = V.int z := by
      rw [List.getElem?_map] at hi
      cases e : (cutD ns none (some 63))[i]? with
      | none => rw [e] at hi; cases hi
      | some z => rw [e] at hi; exact ⟨z, (Option.some.inj hi).symm⟩
    have q := Int.emod_nonneg (m * 47353 + z % 2147483579 + 29) (show (2147483629 : Int) ≠ 0 by decide)
    have q2 := Int.emod_lt_of_pos (m * 47353 + z % 2147483579 + 29) (show (0 : Int) < 2147483629 by decide)
    refine ⟨_, rfl, _, _, rfl, rfl, .inr ⟨by decide, by decide⟩, _, rfl, .inl ⟨_, rfl, _, _, rfl, rfl, (by show (0 : Int) < _; decide), _, _, rfl, rfl, _, _, rfl, rfl, .inl ⟨_, rfl, _, _, rfl, rfl, (by show (0 : Int) < _; decide), ?_⟩⟩⟩
    exact ⟨rfl, _, _, rfl, q, by omega⟩
  · rintro σ H' ⟨rfl, m, v, rfl, h1, h2⟩
    refine ⟨_, rfl, _, rfl, a, _, rfl, e1.l hS, fun p2 hp2 => ⟨p2, _, rfl, .inl (SqL.of upd_same), fun c hc => ⟨_, rfl, (by show 5 ≤ sizeLine; decide), fun b hb => ?_⟩⟩⟩
    rw [cut_ints] at hc hb ⊢
    have cb : c ≠ b := fun z => by
      subst z
      rw [upd_same] at hb
      cases hb
    exact k c b (cutD ns none (some 63)) m _ (e1.trans ((ex_upd hp2).trans ((ex_upd hc).trans (ex_upd hb)))) cb (by rw [upd_ne cb, upd_same]) upd_same h1 h2
/-! ### the law's def: the bag first, then all else over data -/
def spLaw (K : PySem.W.Frag) : Sp := fun vs H Q _ => ∃ (a : Addr) (ns : List Int), vs = [.ref a] ∧ SqL K H a (ns.map V.int) ∧ ∀ H', Q (.bl true) H'
def lawE (n : Nat) : En := .no :: .v .bag :: List.replicate (n - 2) .no
section
variable {P : Program} {w : World} {K : PySem.W.Frag} {mg : Str → Option Value} {base : Heap}
theorem law_ok {x qual : Str} {st : Stmt} {f : Addr} {fd : FuncData} {N ps : List Str} {k : Nat} (Fn : Fun K x qual st f fd) (S : FnScope N ps (defScope st)) (hps : ps.length = 1) (hN : 2 ≤ N.length)
    (body : ∀ (cdv : Value) (A : Around) (outer : List Env) (s : Shared) (H : Hp) (E : XK), Room k (A.deeper (envOfC qual (defScope st) s.heap.objs.size f cdv)) →
      ∃ (s0 : Stmt) (rest : List Stmt) (ws : WS), defBody st = s0 :: rest ∧ PS (cxOf (L2.CX P w) P w K mg base N qual (defScope st) f cdv A outer s H E) s0 (tAsg (tCall (spBag K) [] E0 (tCons (tVar 0) tNil)) (gName 1)) ∧
        PXB (cxOf (L2.CX P w) P w K mg base N qual (defScope st) f cdv A outer s H E) (WDef E) rest ws ∧ ws (lawE N.length) { nx := fun _ => False, rt := fun d => d = .bl true, ex := fun _ _ => False }) (hNl : N.contains ("<lambda>" : Str) = false := by decide) :
    FnOk P w K mg base (L2.CX P w) (k + 1) f fd ps (spLaw K) := by
  refine Fn.okX S (fun vs H Q E h => ?_) (fun cdv A outer s H vs Q E hr h => ?_)
  · obtain ⟨a, ns, rfl, _⟩ := h
    rw [hps]
    rfl
  obtain ⟨a, ns, rfl, hS, hQ⟩ := h
  obtain ⟨s0, rest, ws, hb, h0, h1, hw⟩ := body cdv A outer s H E hr
  obtain ⟨t, t1, t2⟩ := h1.ex
  rw [hb]
  refine ⟨_, pss_cons h0 t1, ?_⟩
  have hσ : L2.start N [.ref a] = some (.ref a) :: none :: List.replicate (N.length - 2) none := by
    unfold L2.start
    obtain ⟨n, e⟩ : ∃ n, N.length = n + 2 := ⟨N.length - 2, by omega⟩
    rw [e]
    show [some (V.ref a)] ++ List.replicate (n + 1) none = _
    rw [List.replicate_succ]
    rfl
  rw [hσ]
  refine ⟨_, rfl, a, ns, rfl, hS, fun c b ms m H' hex cb hc hb' m1 m2 => ?_⟩
  have hG : Ex (fun x => if x = c then some (HO.lst (ms.map V.int)) else none) H' := fun x o hx => by
    have hx' : (if x = c then some (HO.lst (ms.map V.int)) else none) = some o := hx
    by_cases z : x = c
    · rw [if_pos z] at hx'
      cases hx'
      rw [z]
      exact hc
    · rw [if_neg z] at hx'
      cases hx'
  have pre : Pre ⟨K, mg, some b⟩ (fun x => if x = c then some (HO.lst (ms.map V.int)) else none) H' := by
    refine ⟨hG, fun β hβ => ?_⟩
    have e : b = β := Option.some.inj hβ
    subst e
    exact ⟨if_neg (fun z => cb z.symm), by rw [hb']; simp, ⟨c, ms, 0, 0, m, 0, hb', SqL.of (if_pos rfl), by decide, by decide, m1, m2⟩⟩
  have si : SI { wd := ⟨K, mg, some b⟩, G0 := (fun x => if x = c then some (HO.lst (ms.map V.int)) else none), H0 := H' } (lawE N.length) (some (.ref a) :: some (.ref b) :: List.replicate (N.length - 2) none) (fun x => if x = c then some (HO.lst (ms.map V.int)) else none) H' := by
    have hno : ∀ (j : Nat) (l : OD), (lawE N.length)[j]? ≠ some (.ol l) := fun j l e => by
      unfold lawE at e
      match j, e with
      | 0, e => cases e
      | 1, e => cases e
      | j + 2, e =>
        simp only [List.getElem?_cons_succ] at e
        rw [List.getElem?_replicate] at e
        split at e <;> cases e
    refine ⟨pre, Post.refl pre, ?_, fun i s e => ?_, fun i j l l' a _ e _ _ => absurd e (hno i l), (fun q hq => by cases hq), tabs_nil, fun q hq => by cases hq⟩
    · unfold lawE
      simp
    · unfold lawE at e
      match i, e with
      | 0, e => cases e; trivial
      | 1, e => cases e; exact ⟨_, rfl, .bag rfl⟩
      | j + 2, e =>
        simp only [List.getElem?_cons_succ] at e
        rw [List.getElem?_replicate] at e
        split at e
        · cases e; trivial
        · cases e
  refine t2 _ (lawE N.length) _ _ H' _ _ (XOk.mk' hNl rfl rfl) si hw ?_
  refine ⟨fun _ _ _ _ z => z.elim, fun d v e1 σ1 G1 H1 p s1 r1 => ?_, fun _ _ _ _ z => z.elim, fun _ _ _ _ z => z.elim, fun _ _ _ _ _ _ _ z => z.elim⟩
  have p' : d = .bl true := p
  subst p'
  cases r1
  exact hQ H1
end
/-! ### a call by keywords -/
section
variable {X : Cx} {W : WX} {k n : Nat} {f : Addr} {fd : FuncData} {ps ks : List Str} {F : FT} {x : Str} {p pos kpos : Pos} {e : Expr} {es : List Expr} {w : WE} {kws : List Keyword} {nm : Option Str} {u : WA}
structure PXK (X : Cx) (W : WX) (kws : List Keyword) (w : WA) : Prop where
  ex : ∃ t, PK X kws t ∧ ∀ (F : Fc) (env : En) (σ : L2.St) (G H : Hp) (P : List D → En → Prop) (R : QX) (Q : List V → Hp → Prop), XOk X F → SI F env σ G H → w env P R →
    (∀ ds env' vs G' H', P ds env' → SI F env' σ G' H' → Ex G G' → Reps F.wd G' vs ds → Q vs H') → XK' F W σ R → t σ H Q
theorem pk_nil' : PXK X W [] wNil := ⟨⟨_, pk_nil, fun F env σ G H P R Q hx hs hw hq hk => hq [] env [] G H hw hs (Ex.refl _) .nil⟩⟩
theorem pk_cons' (h : PX X W e w) (g : PXK X W kws u) : PXK X W (⟨nm, e, kpos⟩ :: kws) (wCons w u) := by
  obtain ⟨t, a1, a2⟩ := h.ex
  obtain ⟨t', b1, b2⟩ := g.ex
  refine ⟨⟨_, pk_cons a1 b1, fun F env σ G H P R Q hx hs hw hq hk => a2 F env σ G H _ R _ hx hs hw (fun d e1 v G1 H1 p s1 x1 r1 => ?_) hk⟩⟩
  exact b2 F e1 σ G1 H1 _ R _ hx s1 p (fun ds e2 vs G2 H2 p2 s2 x2 r2 => hq (d :: ds) e2 (v :: vs) G2 H2 p2 s2 (x1.trans x2) (.cons (r1.mono x2) r2)) hk
theorem pe_callKS0 {g : List Value → List Value → List Value} {gV : List V → List V → List V} {sp : Sp} {CX : CXT} {E : XK} {tk : TA} (Fn : FnOk X.prog X.w X.K X.mg X.base CX k f fd ps sp) (hr : Room k X.A) (hg : Gl X x) (hm : X.mg x = some (.ref f)) (hk : PySem.W.keepIn X.K (.ref f) = true) (hb : KBinds X.K fd ps ks g gV) (hx : Passes CX X E)
    (hkw : PK X kws tk) (hall : (backToKw pos (keywordEach kws X.env)).all (·.1.isSome) = true := by rfl) (hks : (backToKw pos (keywordEach kws X.env)).filterMap (·.1) = ks := by rfl) (hdb : (x == ("__debug__" : Str)) = false := by decide)
    (hpl : ((backTo pos (starEach [] X.env)).any (·.1) || (backToKw pos (keywordEach kws X.env)).any (·.1.isNone)) = false := by rfl) :
    PE X (.Call (.Name x p) [] kws pos) (fun σ H Q => tk σ H fun zs H2 => sp (gV [] zs) H2 Q E) := by
  refine ⟨fun pins s σ H Q I h => ?_⟩
  refine wpAny_Call_Name_kw (ld_glob I hg hm ?_ hdb)
  refine PySem.W.callWith_KW0 (h₀ := X.base) I.ok.mod.kin hk hall ?_ hpl
  refine thn (hkw.run pos pins s σ H _ I h) fun ws s2 ⟨zs, H2, I2, rz, q2⟩ => ⟨I2.kIn, ?_⟩
  rw [hks]
  exact run_fnk (us := []) (vs := []) Fn hr hb hx I2 .nil rz q2
/-- f(k = e, ..) that raises nothing; g puts the keywords' values in the parameters' order -/
def wCallK (F : FT) (n : Nat) (g : List D → List D) (u : WA) : WE := fun env P R => u env (fun ds e => (g ds).length = n ∧ F (g ds) (fun d => P d e) fun _ => False) R
theorem px_callK0 {g : List Value → List Value → List Value} {gV : List V → List V → List V} {gD : List D → List D} (Fn : FnOk X.prog X.w X.K X.mg X.base (L2.CX X.prog X.w) k f fd ps (spP X.K X.mg n F)) (hr : Room k X.A) (hg : Gl X x) (hm : X.mg x = some (.ref f)) (hk : PySem.W.keepIn X.K (.ref f) = true) (hb : KBinds X.K fd ps ks g gV)
    (hgD : ∀ (w : Wd) (G : Hp) vs ds, Reps w G vs ds → Reps w G (gV [] vs) (gD ds)) (hkw : PXK X W kws u) (hall : (backToKw pos (keywordEach kws X.env)).all (·.1.isSome) = true := by rfl) (hks : (backToKw pos (keywordEach kws X.env)).filterMap (·.1) = ks := by rfl) (hdb : (x == ("__debug__" : Str)) = false := by decide)
    (hpl : ((backTo pos (starEach [] X.env)).any (·.1) || (backToKw pos (keywordEach kws X.env)).any (·.1.isNone)) = false := by rfl) :
    PX X W (.Call (.Name x p) [] kws pos) (wCallK F n gD u) := by
  obtain ⟨t, a1, a2⟩ := hkw.ex
  refine ⟨⟨_, pe_callKS0 (E := E0) Fn hr hg hm hk hb passL a1 hall hks hdb hpl, fun Fc' env σ G H P R Q hx hs hw hq hk => a2 Fc' env σ G H _ R _ hx hs hw (fun as e1 vs G1 H1 p1 s1 x1 r1 => ?_) hk⟩⟩
  obtain ⟨⟨K, mg, b⟩, G0, H0, pins, self⟩ := Fc'
  obtain ⟨h1, h2, _⟩ := hx
  cases h1
  cases h2
  exact ⟨b, G1, gD as, _, _, s1.pre, hgD _ _ _ _ r1, p1.1, p1.2, fun d v G' H' p po r => hq d e1 v G' H' p (s1.step po) (x1.trans po.ex) r, fun x cls dct G' H' p po r => p.elim⟩
end
theorem hd_law {P : Program} {w : World} (H : Hp) (s : Shared) (e : Value) (s' : Shared) : L2.CX P w [] H s (fun _ _ _ => False) e s' → False := fun c => by
  obtain ⟨_, _, _, _, _, _, _, _, _, _, _, _, z⟩ := c
  exact z.elim
/-- keywords in the parameters' order, no positional argument -/
theorem kbinds_all {K : PySem.W.Frag} {fd : FuncData} {ps : List Str} (h : ∀ us ws : List Value, (us ++ ws).length = ps.length → bindArgs fd ⟨us, ps.zip ws⟩ = pure (ps.zip (us ++ ws))) : KBinds K fd ps ps (fun us ws => us ++ ws) (fun vs zs => vs ++ zs) :=
  ⟨fun s us ws _ hl => .of_eq (h us ws hl), fun r r2 => r.append r2⟩
end Pu
set_option maxRecDepth 100000
/-! The helpers that every law has, over data -/
namespace Pu
open PySem L2 PySem.Spec PyProof.Rows
abbrev rdSub : RD2 := rdI (fun _ _ => True) fun i j => .int (i - j)
abbrev rdFdiv : RD2 := rdI CDivW fun i j => .int (i / j)
abbrev rdMod : RD2 := rdI (fun _ j => 0 < j) fun i j => .int (i % j)
abbrev rdPow : RD2 := rdI CPow fun i j => .int (i ^ j.toNat)
abbrev rdLt : RD2 := rdI (fun _ _ => True) fun i j => .bl (decide (i < j))
abbrev rdLe : RD2 := rdI (fun _ _ => True) fun i j => .bl (decide (i ≤ j))
abbrev rdGt : RD2 := rdI (fun _ _ => True) fun i j => .bl (decide (j < i))
abbrev rdGe : RD2 := rdI (fun _ _ => True) fun i j => .bl (decide (j ≤ i))
theorem px_globE {X : Cx} {W : WX} {x : Str} {v : V} {d : D} {pos : Pos} (hg : Gl X x) (hm : ∃ u, X.mg x = some u ∧ RelV v u) (hr : ∀ w G, Rep w G v d) (hd : (x == ("__debug__" : Str)) = false := by decide) : PX X W (.Name x pos) (wC d) := by
  obtain ⟨u, h1, h2⟩ := hm
  exact px_glob hg h1 h2 hr hd
/-! ### _law_of: one of some -/
def w_law_of (F_law_draw : FT) : WS :=
    (wsRet (wOp rdIx (wVar 1) (wCall (fun ds P R => ds.length = 2 ∧ F_law_draw ds P R) [] (wCons (wVar 0) (wCons (wCB rdLen (wCons (wVar 1) wNil)) wNil)))))
def F_of : FT := fun ds P _ => ∃ l, (ds = [.bag, .lst l] ∨ ds = [.bag, .tup l]) ∧ l ≠ [] ∧ l.length < 2 ^ 60 ∧ ∀ d ∈ l, P d
theorem log_small {n : Nat} (h : n < 2 ^ 60) : n.log2 < 9000 := by
  by_cases h0 : n = 0
  · rw [h0]
    decide
  · have := (Nat.log2_lt h0).mpr h
    omega
theorem pure_law_of (ds : List D) (P : D → Prop) (R : DX → Prop) (hl : ds.length = 2) (h : F_of ds P R) : w_law_of F_draw (startE 2 ds) { nx := fun _ => P .non, rt := P, ex := fun x _ => R x } := by
  obtain ⟨l, hd, h0, h1, h2⟩ := h
  have pos : 0 < l.length := List.length_pos_iff.mpr h0
  have key : ∀ v : Int, 0 ≤ v → v < (l.length : Int) → ∃ d, atI l v = some d ∧ P d := fun v a b => by
    have hv : v.toNat < l.length := by omega
    refine ⟨l[v.toNat], ?_, h2 _ (List.getElem_mem hv)⟩
    unfold atI ixN
    rw [if_pos a, if_pos b]
    exact List.getElem?_eq_getElem hv
  rcases hd with rfl | rfl
  · exact ⟨rfl, (l.length : Int), rfl, by omega, by simpa using log_small h1, fun v a b => key v a b⟩
  · exact ⟨rfl, (l.length : Int), rfl, by omega, by simpa using log_small h1, fun v a b => key v a b⟩
/-! ### _law_same -/
def w_law_same (F_law_same : FT) : WS :=
    (wsSeq (wsIf (wOr (wTest (wOp rdIs (wVar 1) (wC .non))) (wTest (wOp rdIs (wVar 0) (wC .non)))) (wsRet (wAndV (wOp rdIs (wVar 1) (wC .non)) (wOp rdIs (wVar 0) (wC .non)))) wsNext)
    (wsSeq (wsIf (wTest (wIsi2 .list .tuple (wVar 1))) (wsSeq (wsIf (wOr (wTest (wOp rdNe (wIsi .list (wVar 0)) (wIsi .list (wVar 1)))) (wTest (wOp rdNe (wIsi .tuple (wVar 0)) (wIsi .tuple (wVar 1))))) (wsRet (wC (.bl false))) wsNext)
    (wsRet (wAndV (wOp rdEq (wCB rdLen (wCons (wVar 0) wNil)) (wCB rdLen (wCons (wVar 1) wNil))) (wCB rdAll (wCons (wLc [2, 3] (wZip (wVar 0) (wVar 1)) (wgTup2 (wgName 2) (wgName 3)) wYes (wCall (fun ds P R => ds.length = 2 ∧ F_law_same ds P R) [] (wCons (wVar 2) (wCons (wVar 3) wNil)))) wNil))))) wsNext)
    (wsSeq (wsIf (wOr (wTest (wOp rdNe (wIsi .bool (wVar 0)) (wIsi .bool (wVar 1)))) (wTest (wOp rdNe (wIsi .int (wVar 0)) (wIsi .int (wVar 1))))) (wsRet (wC (.bl false))) wsNext)
    (wsRet (wAndV (wOp rdEq (wIsi .str (wVar 0)) (wIsi .str (wVar 1))) (wOp rdEq (wVar 0) (wVar 1)))))))
/-- plain data of a depth -/
def dep : Nat → D → Bool
  | _, .non => true
  | _, .bl _ => true
  | _, .int _ => true
  | _, .str _ => true
  | n + 1, .lst l => decide (l.length ≤ 100000) && l.all (dep n)
  | n + 1, .tup l => decide (l.length ≤ 100000) && l.all (dep n)
  | _, _ => false
/-- equal data: True (the law asks for no more) -/
def F_same (n : Nat) : FT := fun ds P _ => ∃ d, ds = [d, d] ∧ dep n d = true ∧ P (.bl true)
theorem zip_self (l : List D) : zipD l l = l.map fun d => .tup [d, d] := by
  unfold zipD
  induction l with
  | nil => rfl
  | cons x l ih =>
    rw [List.zipWith_cons_cons, List.map_cons, ih]
/-! ### comprehensions without a test: what each turn may give -/
inductive Rels (R : D → D → Prop) : List D → List D → Prop
  | nil : Rels R [] []
  | cons {x d xs ds} : R x d → Rels R xs ds → Rels R (x :: xs) (d :: ds)
theorem lcL_rel {g : WG} {we : WE} {own : List Nat} {w0 : En} {Rl : D → D → Prop} : ∀ (l acc : List D) (env : En) (P : List D → En → Prop),
    (∀ x ∈ l, ∀ Pk : D → En → Prop, (∀ d e3, Rl x d → wipeE e3 own = w0 → Pk d e3) → g x w0 fun e1 => we e1 Pk fun _ _ => False) → wipeE env own = w0 →
    (∀ out e', Rels Rl l out → wipeE e' own = w0 → P (acc ++ out) e') → wLcL g wYes we own l acc env P
  | [], acc, env, P, _, he, hP => by
    have q := hP [] env .nil he
    rw [List.append_nil] at q
    exact q
  | x :: xs, acc, env, P, h, he, hP => by
    show g x (wipeE env own) fun e1 => we e1 (fun d e3 => wLcL g wYes we own xs (acc ++ [d]) e3 P) fun _ _ => False
    rw [he]
    refine h x List.mem_cons_self _ fun d e3 hd h3 => ?_
    refine lcL_rel xs (acc ++ [d]) e3 P (fun y hy => h y (List.mem_cons_of_mem _ hy)) h3 fun out e' ho h' => ?_
    rw [List.append_assoc]
    exact hP (d :: out) e' (.cons hd ho) h'
theorem lc_in {g : WG} {we : WE} {own : List Nat} {e1 : En} {P : D → En → Prop} (Rl : D → D → Prop) (ds : List D) (hl : ds.length ≤ 100000)
    (h : ∀ x ∈ ds, ∀ Pk : D → En → Prop, (∀ d e3, Rl x d → wipeE e3 own = wipeE e1 own → Pk d e3) → g x (wipeE e1 own) fun e1 => we e1 Pk fun _ _ => False)
    (hP : ∀ out, Rels Rl ds out → P (.lst out) (backE e1 e1 own)) : ds.length ≤ 100000 ∧ wLcL g wYes we own ds [] e1 fun acc e2 => P (.lst acc) (backE e1 e2 own) := by
  refine ⟨hl, lcL_rel ds [] e1 _ h rfl fun out e' ho h' => ?_⟩
  have e : backE e1 e' own = backE e1 e1 own := by rw [← backE_wipe e1 e' own, h', backE_wipe]
  show P (.lst ([] ++ out)) (backE e1 e' own)
  rw [e]
  exact hP out ho
theorem Rels.length {R : D → D → Prop} : ∀ {l o : List D}, Rels R l o → o.length = l.length
  | _, _, .nil => rfl
  | _, _, .cons _ t => congrArg Nat.succ t.length
theorem Rels.eq_map {f : D → D} : ∀ {l o : List D}, Rels (fun x d => d = f x) l o → o = l.map f
  | _, _, .nil => rfl
  | _, _, .cons h t => by rw [List.map_cons, h, t.eq_map]
theorem Rels.mem {R : D → D → Prop} : ∀ {l o : List D} {d : D}, Rels R l o → d ∈ o → ∃ x ∈ l, R x d
  | _, _, _, .nil, h => by cases h
  | _, _, _, .cons r t, h => by
    rcases List.mem_cons.mp h with z | z
    · subst z
      exact ⟨_, List.mem_cons_self, r⟩
    · obtain ⟨x, h1, h2⟩ := t.mem z
      exact ⟨x, List.mem_cons_of_mem _ h1, h2⟩
theorem Rels.mono {R S : D → D → Prop} (h : ∀ x d, R x d → S x d) : ∀ {l o : List D}, Rels R l o → Rels S l o
  | _, _, .nil => .nil
  | _, _, .cons r t => .cons (h _ _ r) (t.mono h)
theorem bools_true : ∀ n : Nat, bools (List.replicate n (.bl true)) = some (List.replicate n true)
  | 0 => rfl
  | n + 1 => by
    show (bools (List.replicate n (.bl true))).map (true :: ·) = _
    rw [bools_true n]
    rfl
theorem all_true : ∀ n : Nat, (List.replicate n true).all id = true
  | 0 => rfl
  | n + 1 => by
    rw [List.replicate_succ, List.all_cons, all_true n]
    rfl
theorem Rels.trues : ∀ {l o : List D}, Rels (fun _ d => d = .bl true) l o → o = List.replicate l.length (.bl true)
  | _, _, .nil => rfl
  | _, _, .cons h t => by rw [List.length_cons, List.replicate_succ, h, t.trues]
theorem rdEq_self_int {i : Int} {P : D → Prop} (h : P (.bl true)) : rdEq (.int i) (.int i) P := by
  show P (.bl (decide (i = i)))
  rw [decide_eq_true rfl]
  exact h
theorem rdEq_self_str {i : Str} {P : D → Prop} (h : P (.bl true)) : rdEq (.str i) (.str i) P := by
  show P (.bl (decide (i = i)))
  rw [decide_eq_true rfl]
  exact h
theorem rdEq_self_bl {i : Bool} {P : D → Prop} (h : P (.bl true)) : rdEq (.bl i) (.bl i) P := by
  show P (.bl (decide (i = i)))
  rw [decide_eq_true rfl]
  exact h
theorem same_seq {F : FT} {l : List D} {d : D} {K : EnD} (hl : l.length ≤ 100000) (hF : ∀ x ∈ l, ∀ P R, P (.bl true) → F [x, x] P R) (hK : K.rt (.bl true)) :
    ∀ env : En, wCB rdAll (wCons (wLc [2, 3] (fun env P R => P (zipD l l) env) (wgTup2 (wgName 2) (wgName 3)) wYes (wCall (fun ds P R => ds.length = 2 ∧ F ds P R) [] (wCons (wVar 2) (wCons (wVar 3) wNil)))) wNil) [.v d, .v d, .no, .no] (fun d _ => K.rt d) K.ex := by
  intro _
  show (zipD l l).length ≤ 100000 ∧ _
  rw [zip_self]
  refine lc_in (P := fun d e => rdAll [d] fun z => K.rt z) (fun _ d => d = .bl true) _ (by rw [List.length_map]; exact hl) (fun x hx Pk hk => ?_) (fun out ho => ?_)
  · obtain ⟨y, hy, rfl⟩ := List.mem_map.mp hx
    exact ⟨rfl, hF y hy _ _ (hk _ _ rfl rfl)⟩
  · rw [ho.trues]
    exact ⟨_, bools_true _, by rw [all_true]; exact hK⟩
theorem wAndV_of {wa u : WE} {env : En} {P : D → En → Prop} {R : QX} (h : ∀ Pk : D → En → Prop, Pk (.bl true) env → wa env Pk R) (hu : u env P R) : wAndV wa u env P R := h _ hu
theorem pure_law_same : ∀ (n : Nat) (F : FT), (∀ m, n = m + 1 → F = F_same m) → ∀ (ds : List D) (P : D → Prop) (R : DX → Prop), ds.length = 2 → F_same n ds P R → w_law_same F (startE 4 ds) { nx := fun _ => P .non, rt := P, ex := fun x _ => R x } := by
  intro n F hF ds P R _ h
  obtain ⟨d, rfl, hd, hP⟩ := h
  cases d with
  | non => exact hP
  | bl b => exact rdEq_self_bl hP
  | int i => exact rdEq_self_int hP
  | str s => exact rdEq_self_str hP
  | bag => cases n <;> cases hd
  | ins c fs => cases n <;> cases hd
  | dk _ => cases n <;> cases hd
  | dt _ => cases n <;> cases hd
  | exc _ _ => cases n <;> cases hd
  | fn _ _ => cases n <;> cases hd
  | typ _ => cases n <;> cases hd
  | lst l =>
    cases n with
    | zero => cases hd
    | succ n =>
      have e := hF n rfl
      subst e
      have hd' : (decide (l.length ≤ 100000) && l.all (dep n)) = true := hd
      rw [Bool.and_eq_true, decide_eq_true_iff] at hd'
      show wAndV (wOp rdEq (wCB rdLen (wCons (wVar 0) wNil)) (wCB rdLen (wCons (wVar 1) wNil))) (wCB rdAll (wCons (wLc [2, 3] (wZip (wVar 0) (wVar 1)) (wgTup2 (wgName 2) (wgName 3)) wYes (wCall (fun ds P R => ds.length = 2 ∧ F_same n ds P R) [] (wCons (wVar 2) (wCons (wVar 3) wNil)))) wNil)) [.v (.lst l), .v (.lst l), .no, .no] (fun d _ => P d) (fun x _ => R x)
      refine wAndV_of (fun Pk hk => rdEq_self_int (i := (l.length : Int)) (P := fun z => Pk z _) hk) ?_
      exact same_seq (F := F_same n) (d := .lst l) (K := { nx := fun _ => P .non, rt := P, ex := fun x _ => R x }) hd'.1 (fun x hx P R hp => ⟨x, rfl, List.all_eq_true.mp hd'.2 x hx, hp⟩) hP []
  | tup l =>
    cases n with
    | zero => cases hd
    | succ n =>
      have e := hF n rfl
      subst e
      have hd' : (decide (l.length ≤ 100000) && l.all (dep n)) = true := hd
      rw [Bool.and_eq_true, decide_eq_true_iff] at hd'
      show wAndV (wOp rdEq (wCB rdLen (wCons (wVar 0) wNil)) (wCB rdLen (wCons (wVar 1) wNil))) (wCB rdAll (wCons (wLc [2, 3] (wZip (wVar 0) (wVar 1)) (wgTup2 (wgName 2) (wgName 3)) wYes (wCall (fun ds P R => ds.length = 2 ∧ F_same n ds P R) [] (wCons (wVar 2) (wCons (wVar 3) wNil)))) wNil)) [.v (.tup l), .v (.tup l), .no, .no] (fun d _ => P d) (fun x _ => R x)
      refine wAndV_of (fun Pk hk => rdEq_self_int (i := (l.length : Int)) (P := fun z => Pk z _) hk) ?_
      exact same_seq (F := F_same n) (d := .tup l) (K := { nx := fun _ => P .non, rt := P, ex := fun x _ => R x }) hd'.1 (fun x hx P R hp => ⟨x, rfl, List.all_eq_true.mp hd'.2 x hx, hp⟩) hP []
end Pu
namespace Pu
open PySem L2 PySem.Spec PyProof.Rows
/-! ### is_name -/
def w_is_name  : WS :=
    (wsSeq (wsIf (wOr (wNot (wTest (wIsi .str (wVar 0)))) (wOr (wNot (wTest (wChain rdLe rdLe (wC (.int 1)) (wCB rdLen (wCons (wVar 0) wNil)) (wC (.int 8))))) (wTest (wOp rdEq (wVar 0) (wC (.str "ground")))))) (wsRet (wC (.bl false))) wsNext)
    (wsRet (wCB rdAll (wCons (wLc [1] (wIt (wVar 0)) (wgName 1) wYes (wOp (rdIn false) (wVar 1) (wC (.str "abcdefghijklmnopqrstuvwxyz")))) wNil))))
/-- a name, over data -/
def smallS : Str := "abcdefghijklmnopqrstuvwxyz"
def groundS : Str := "ground"
def isName (s : Str) : Bool := (decide (1 ≤ s.length) && decide (s.length ≤ 8)) && (!decide (s = groundS)) && s.cps.toList.all fun c => decide (c ∈ smallS.cps.toList)
def isNameD : D → Option Bool
  | .str s => if s.length ≤ sizeLine then some (isName s) else none
  | .non => some false | .bl _ => some false | .int _ => some false | .lst _ => some false | .tup _ => some false
  | _ => none
def F_is_name : FT := fun ds P _ => ∃ d b, ds = [d] ∧ isNameD d = some b ∧ P (.bl b)
theorem signs_len (s : Str) : (signsD s).length = s.length := by
  unfold signsD
  rw [List.length_map, Array.length_toList]
  rfl
theorem bools_map {α : Type} (f : α → Bool) : ∀ l : List α, bools (l.map fun c => .bl (f c)) = some (l.map f)
  | [] => rfl
  | x :: l => by
    show (bools (l.map fun c => .bl (f c))).map (f x :: ·) = _
    rw [bools_map f l]
    rfl
theorem is_name_str (s : Str) (hs : s.length ≤ sizeLine) (P : D → Prop) (R : DX → Prop) (hP : P (D.bl (isName s))) : w_is_name (startE 2 [D.str s]) { nx := fun _ => P .non, rt := P, ex := fun x _ => R x } := by
  have fin : s.length ≤ 8 → (1 : Int) ≤ s.length → ¬ s = groundS → (signsD s).length ≤ 100000 ∧ wLcL (wgName 1) wYes (wOp (rdIn false) (wVar 1) (wC (D.str smallS))) [1] (signsD s) [] [Sl.v (D.str s), .no] fun acc e2 => ∃ bs, bools acc = some bs ∧ P (D.bl (bs.all id)) := by
    intro h8 h1 hg
    refine lc_in (e1 := [Sl.v (D.str s), .no]) (P := fun d e => rdAll [d] fun z => P z) (fun x d => ∃ c : Nat, x = .str ⟨#[c]⟩ ∧ d = .bl (decide (c ∈ smallS.cps.toList))) (signsD s) (by rw [signs_len]; omega) (fun x hx Pk hk => ?_) (fun out ho => ?_)
    · unfold signsD at hx
      obtain ⟨c, hc, rfl⟩ := List.mem_map.mp hx
      exact hk _ _ ⟨c, rfl, rfl⟩ rfl
    · have key : ∀ (l : List Nat) (out : List D), Rels (fun x d => ∃ c : Nat, x = .str ⟨#[c]⟩ ∧ d = .bl (decide (c ∈ smallS.cps.toList))) (l.map fun c => D.str ⟨#[c]⟩) out → out = l.map fun c => D.bl (decide (c ∈ smallS.cps.toList)) := by
        intro l
        induction l with
        | nil => intro out h; cases h; rfl
        | cons c l ih =>
          intro out h
          cases h with
          | cons r t =>
            obtain ⟨c', e1, e2⟩ := r
            have e3 : c' = c := by
              have := D.str.inj e1
              have := congrArg (fun s : Str => s.cps.toList) this
              simpa using this.symm
            rw [List.map_cons, e2, ih _ t, e3]
      rw [key _ _ ho]
      refine ⟨_, bools_map _ _, ?_⟩
      have : isName s = (List.map (fun c => decide (c ∈ smallS.cps.toList)) s.cps.toList).all id := by
        unfold isName
        rw [decide_eq_true h8, decide_eq_true (show 1 ≤ s.length by omega), decide_eq_false hg, List.all_map]
        rfl
      rw [this] at hP
      exact hP
  dsimp only [w_is_name, wsSeq, wsIf, wOr, wNot, wTest, wIsi, wVar, wChain, wC, wCB, wCons, wNil, rdLen, rdLe, rdI, wOp, rdEq, eqS, startE, isTD, List.map, List.append, List.replicate, List.length, wsRet, wsNext, wLc, wIt, rdIt, rdAll, List.getElem?_cons_zero, List.getElem?_cons_succ, List.cons_append, List.nil_append, Bool.not_true, Bool.not_false]
  refine ⟨hs, trivial, ?_⟩
  by_cases h1 : (1 : Int) ≤ s.length
  · rw [decide_eq_true h1]
    refine ⟨trivial, ?_⟩
    by_cases h8 : (s.length : Int) ≤ 8
    · rw [decide_eq_true h8]
      by_cases hg : s = groundS
      · have e : decide (s = Str.ofString "ground") = true := decide_eq_true hg
        show match decide (s = Str.ofString "ground") with | true => P (D.bl false) | false => _
        rw [e]
        have : isName s = false := by unfold isName; rw [decide_eq_true hg]; simp
        rw [this] at hP
        exact hP
      · have e : decide (s = Str.ofString "ground") = false := decide_eq_false hg
        show match decide (s = Str.ofString "ground") with | true => P (D.bl false) | false => _
        rw [e]
        exact fin (by omega) h1 hg
    · rw [decide_eq_false h8]
      have : isName s = false := by unfold isName; rw [decide_eq_false (show ¬ s.length ≤ 8 by omega)]; simp
      rw [this] at hP
      exact hP
  · rw [decide_eq_false h1]
    have : isName s = false := by unfold isName; rw [decide_eq_false (show ¬ 1 ≤ s.length by omega)]; simp
    rw [this] at hP
    exact hP
theorem pure_is_name (ds : List D) (P : D → Prop) (R : DX → Prop) (_ : ds.length = 1) (h : F_is_name ds P R) : w_is_name (startE 2 ds) { nx := fun _ => P .non, rt := P, ex := fun x _ => R x } := by
  obtain ⟨d, b, rfl, hd, hP⟩ := h
  cases d with
  | non => cases hd; exact hP
  | bl _ => cases hd; exact hP
  | int _ => cases hd; exact hP
  | lst _ => cases hd; exact hP
  | tup _ => cases hd; exact hP
  | bag => cases hd
  | ins _ _ => cases hd
  | dk _ => cases hd
  | dt _ => cases hd
  | exc _ _ => cases hd
  | fn _ _ => cases hd
  | typ _ => cases hd
  | str s =>
    have hd' : (if s.length ≤ sizeLine then some (isName s) else none) = some b := hd
    by_cases hs : s.length ≤ sizeLine
    · rw [if_pos hs] at hd'
      cases hd'
      exact is_name_str s hs P R hP
    · rw [if_neg hs] at hd'
      cases hd'
end Pu
namespace Pu
open PySem L2 PySem.Spec PyProof.Rows
/-- a for by what holds between its turns -/
theorem forL_inv {g : WG} {b : WS} {K : EnD} (I : En → Prop) : ∀ (ds : List D) (env : En), (∀ x ∈ ds, ∀ env, I env → ∀ Kn : En → Prop, (∀ e, I e → Kn e) → g x env fun e1 => b e1 { K with nx := Kn, ct := Kn, bk := K.nx }) → I env → (∀ e, I e → K.nx e) → wsForL g b K ds env
  | [], env, _, h, hk => hk env h
  | x :: xs, env, ht, h, hk => ht x List.mem_cons_self env h _ fun e he => forL_inv I xs e (fun y hy => ht y (List.mem_cons_of_mem _ hy)) he hk
end Pu
namespace Pu
open PySem L2 PySem.Spec PyProof.Rows
/-- a comprehension without a test, its source one of those that ok tells, its items by Rl -/
theorem wLc_in {g : WG} {we : WE} {own : List Nat} {env : En} {wi : WA} {P : D → En → Prop} {R : QX} (ok : List D → Prop) (Rl : D → D → Prop)
    (hwi : ∀ Pk : List D → En → Prop, (∀ ds, ok ds → Pk ds env) → wi env Pk R) (hl : ∀ ds, ok ds → ds.length ≤ 100000)
    (h : ∀ ds, ok ds → ∀ x ∈ ds, ∀ Pk : D → En → Prop, (∀ d e3, Rl x d → wipeE e3 own = wipeE env own → Pk d e3) → g x (wipeE env own) fun e1 => we e1 Pk fun _ _ => False)
    (hP : ∀ ds out, ok ds → Rels Rl ds out → P (.lst out) (backE env env own)) : wLc own wi g wYes we env P R :=
  hwi _ fun ds hd => lc_in (P := P) Rl ds (hl ds hd) (h ds hd) fun out ho => hP ds out hd ho
end Pu
namespace Pu
open PySem L2 PySem.Spec PyProof.Rows
/-! ### one statement at a time: what follows stays folded -/
theorem st_set {i : Nat} {w : WE} {b : WS} {env : En} {K : EnD} (A : D → Prop) (hw : ∀ Pk : D → En → Prop, (∀ d, A d → Pk d env) → w env Pk K.ex) (hb : ∀ d, A d → b (env.set i (.v d)) K) : wsSeq (wsSet i w) b env K := hw _ fun d hd => hb d hd
theorem st_set1 {i : Nat} {w : WE} {env : En} {K : EnD} (A : D → Prop) (hw : ∀ Pk : D → En → Prop, (∀ d, A d → Pk d env) → w env Pk K.ex) (hb : ∀ d, A d → K.nx (env.set i (.v d))) : wsSet i w env K := hw _ fun d hd => hb d hd
theorem st_par {i j : Nat} {w : WA} {b : WS} {env : En} {K : EnD} (A : D → D → Prop) (hw : ∀ Pk : List D → En → Prop, (∀ d e, A d e → Pk [d, e] env) → w env Pk K.ex) (hb : ∀ d e, A d e → b ((env.set i (.v d)).set j (.v e)) K) : wsSeq (wsPar i j w) b env K := hw _ fun d e hd => hb d e hd
theorem st_if {c : WT} {t e b : WS} {env : En} {K : EnD} (k : Bool) (hc : ∀ Pk : Bool → En → Prop, Pk k env → c env Pk K.ex) (ht : k = true → t env { K with nx := fun e => b e K }) (he : k = false → e env { K with nx := fun e => b e K }) : wsSeq (wsIf c t e) b env K := hc _ (by
  cases k with
  | true => exact ht rfl
  | false => exact he rfl)
theorem st_if1 {c : WT} {t e : WS} {env : En} {K : EnD} (k : Bool) (hc : ∀ Pk : Bool → En → Prop, Pk k env → c env Pk K.ex) (ht : k = true → t env K) (he : k = false → e env K) : wsIf c t e env K := hc _ (by
  cases k with
  | true => exact ht rfl
  | false => exact he rfl)
theorem st_ret {w : WE} {env : En} {K : EnD} (A : D → Prop) (hw : ∀ Pk : D → En → Prop, (∀ d, A d → Pk d env) → w env Pk K.ex) (hb : ∀ d, A d → K.rt d) : wsRet w env K := by
  have q := hw (fun d e => A d ∧ e = env) (fun d hd => ⟨hd, rfl⟩)
  exact hw (fun d _ => K.rt d) fun d hd => hb d hd
end Pu
namespace Pu
open PySem L2 PySem.Spec PyProof.Rows
/-- a def that is never called -/
theorem fn_false {P : Program} {w : World} {K : PySem.W.Frag} {mg : Str → Option Value} {base : Heap} {f : Addr} {fd : FuncData} {ps : List Str} {k n : Nat} {CX : CXT} : FnOk P w K mg base CX k f fd ps (spP K mg n fun _ _ _ => False) :=
  ⟨fun vs H Q E h => by
    obtain ⟨_, _, _, _, _, _, _, _, z, _⟩ := h
    exact z.elim, fun A outer s H args us vs Q E hr e0 hb r h => by
    obtain ⟨_, _, _, _, _, _, _, _, z, _⟩ := h
    exact z.elim⟩
end Pu
set_option maxRecDepth 100000
/-! Own lists of a frame: made, read, changed in place -/
namespace Pu
open PySem L2 PySem.Spec PyProof.Rows
section
variable {X : Cx} {W : WX} {e : Expr} {es : List Expr} {pos : Pos}
/-- a new list comes, nobody else's -/
structure PXN (X : Cx) (W : WX) (e : Expr) (w : WA) : Prop where
  ex : ∃ t, PE X e t ∧ ∀ (F : Fc) (env : En) (σ : L2.St) (G H : Hp) (P : List D → En → Prop) (R : QX) (Q : VK), XOk X F → SI F env σ G H → w env P R →
    (∀ l env' a vs G' H', P l env' → SI { F with pins := (a, .lst vs) :: F.pins } env' σ G' H' → Ex G G' → Reps F.wd G' vs l → (∀ p ∈ F.pins, p.1 ≠ a) → Q (.ref a) H') → XK' F W σ R → t σ H Q
theorem SI.pinsNe {F : Fc} {env : En} {σ : L2.St} {G H : Hp} {a : Addr} (h : SI F env σ G H) (hn : H a = none) : ∀ p ∈ F.pins, p.1 ≠ a := fun p hp z => by
  obtain ⟨h1, _⟩ := h.pin p hp
  rw [z, hn] at h1
  cases h1
def wnLst (u : WA) : WA := fun env P R => u env (fun ds e => ds.length ≤ sizeLine ∧ P ds e) R
theorem pn_lst {u : WA} (h : PXA X W es u) : PXN X W (.List es pos) (wnLst u) := by
  obtain ⟨t, a1, a2⟩ := h.ex
  refine ⟨⟨_, pe_lst a1, fun F env σ G H P R Q hx hs hw hq hk => a2 F env σ G H _ R _ hx hs hw (fun ds e1 vs G1 H1 p s1 x1 r1 => ⟨by rw [r1.length]; exact p.1, fun l hl => ?_⟩) hk⟩⟩
  exact hq ds e1 l vs G1 _ p.2 (s1.mkPin hl) x1 r1 (s1.pinsNe hl)
/-- list(e) -/
def wnList (w : WE) : WA := fun env P R => w env (fun d e => match d with
  | .lst l => P l e
  | .tup l => P l e
  | .str s => s.cps.size ≤ sizeLine ∧ P (signsD s) e
  | _ => False) R
theorem pn_list {x : Str} {p : Pos} {w : WE} (hc : X.calm = true) (hg : Gl X x) (hm : X.mg x = none) (hv : bootBuiltins x = some (.type "list")) (h : PX X W e w) (hn : x ≠ "__name__" := by decide) (hdb : (x == ("__debug__" : Str)) = false := by decide)
    (he : starEach (e :: []) X.env = (false, eval e X.env) :: starEach [] X.env := by rfl) (hpl : (backTo pos (starEach [] X.env)).any (·.1) = false := by rfl) : PXN X W (.Call (.Name x p) (e :: []) [] pos) (wnList w) := by
  obtain ⟨t, a1, a2⟩ := h.ex
  refine ⟨⟨_, pe_callTy (CallR.or call_list_of (call_list_str' hc)) hg hm hv (pa_cons a1 pa_nil he) hn hdb he hpl, fun F env σ G H P R Q hx hs hw hq hk => a2 F env σ G H _ R _ hx hs hw (fun d e1 v G1 H1 p s1 x1 r1 => ?_) hk⟩⟩
  cases d <;> first | exact p.elim | skip
  · cases r1
    exact .inr ⟨_, rfl, p.1, fun l hl => hq _ e1 l _ G1 _ p.2 (s1.mkPin hl) x1 (signs_rep _) (s1.pinsNe hl)⟩
  · cases r1 with
    | lst h1 r1 => exact .inl ⟨_, _, rfl, .inl (SqL.of (s1.exG _ _ h1)), fun l hl => hq _ e1 l _ G1 _ p (s1.mkPin hl) x1 r1 (s1.pinsNe hl)⟩
  · cases r1 with
    | tup h1 r1 => exact .inl ⟨_, _, rfl, .inr (by rw [← hx.k]; exact s1.exG.tt h1), fun l hl => hq _ e1 l _ G1 _ p (s1.mkPin hl) x1 r1 (s1.pinsNe hl)⟩
/-- the pinned list becomes the slot's own -/
theorem SI.own {F : Fc} {env : En} {σ : L2.St} {G H : Hp} {i : Nat} {a : Addr} {vs : HO} {l : OD} (h : SI { F with pins := (a, vs) :: F.pins } env σ G H) (r : RepO F.wd G vs l) (hi : l.isIns = false) (hd : ∀ p ∈ F.pins, p.1 ≠ a) : SI F (env.set i (.ol l)) (σ.set i (some (.ref a))) G H := by
  obtain ⟨q1, q2, q3, q4⟩ := h.pin (a, vs) List.mem_cons_self
  have other : ∀ (j : Nat) (l' : OD), i ≠ j → (env.set i (.ol l))[j]? = some (.ol l') → env[j]? = some (.ol l') := fun j l' hij e => by
    rw [List.getElem?_set_ne hij] at e
    exact e
  refine ⟨h.pre0, h.post, by rw [List.length_set, List.length_set]; exact h.len, fun j s e => ?_, fun j k l1 l2 b hjk e1 e2 e3 => ?_, fun p hp => ?_, h.tab, fun p hp => h.pt p (List.mem_cons_of_mem _ hp)⟩
  · by_cases hij : i = j
    · subst hij
      rw [List.getElem?_set, if_pos rfl] at e ⊢
      by_cases hl : i < env.length
      · rw [if_pos hl] at e
        cases e
        rw [if_pos (by rw [← h.len]; exact hl)]
        exact ⟨a, vs, rfl, q3, q2, q1, r, fun z => by rw [hi] at z; cases z⟩
      · rw [if_neg hl] at e
        cases e
    · rw [List.getElem?_set_ne hij] at e ⊢
      exact h.sl j s e
  · by_cases hij : i = j
    · subst hij
      by_cases hl : i < σ.length
      · rw [List.getElem?_set, if_pos rfl, if_pos hl] at e3
        cases e3
        rw [List.getElem?_set_ne hjk]
        exact q4 k l2 (other k l2 hjk e2)
      · rw [List.getElem?_set, if_pos rfl, if_neg hl] at e3
        cases e3
    · by_cases hik : i = k
      · subst hik
        rw [List.getElem?_set_ne hij] at e3
        rw [List.getElem?_set, if_pos rfl]
        split
        · intro z
          cases z
          exact q4 j l1 (other j l1 hij e1) e3
        · intro z
          cases z
      · rw [List.getElem?_set_ne hij] at e3
        rw [List.getElem?_set_ne hik]
        exact h.ap j k _ _ b hjk (other j l1 hij e1) (other k l2 hik e2) e3
  · obtain ⟨h1, h2, h3, h4⟩ := h.pin p (List.mem_cons_of_mem _ hp)
    refine ⟨h1, h2, h3, fun j l' e => ?_⟩
    by_cases hij : i = j
    · subst hij
      rw [List.getElem?_set, if_pos rfl]
      split
      · intro z
        cases z
        exact hd p hp rfl
      · intro z
        cases z
    · rw [List.getElem?_set_ne hij]
      exact h4 j l' (other j l' hij e)
/-- the slot's own list becomes another one, in place -/
theorem SI.reown {F : Fc} {env : En} {σ : L2.St} {G H : Hp} {i : Nat} {a : Addr} {us : HO} {l l' : OD} (h : SI F env σ G H) (e : env[i]? = some (.ol l)) (ha : σ[i]? = some (some (.ref a))) (r : RepO F.wd G us l') (hi : l'.isIns = true → l.isIns = true) : SI F (env.set i (.ol l')) σ G (upd H a us) := by
  obtain ⟨a', vs, h1, h2, h3, h4, h5, h6⟩ := h.sl i _ e
  rw [ha] at h1
  cases h1
  have hl : i < env.length := (List.getElem?_eq_some_iff.mp e).1
  have na : ∀ x u, G x = some u → x ≠ a := fun x u hx => ne_of_none hx h3
  have back : ∀ (j : Nat) (l2 : OD), (env.set i (.ol l'))[j]? = some (.ol l2) → ∃ l3, env[j]? = some (.ol l3) := fun j l2 ej => by
    by_cases hij : i = j
    · subst hij
      exact ⟨l, e⟩
    · rw [List.getElem?_set_ne hij] at ej
      exact ⟨l2, ej⟩
  refine ⟨h.pre0, ⟨h.post.ex, fun x u hx => ?_, fun x u nb hx => ?_, fun x hx => h.post.new x hx, fun β hβ => ?_⟩, by rw [List.length_set]; exact h.len, fun j s ej => ?_, fun j k l1 l2 b hjk e1 e2 e3 => ?_, fun p hp => ?_, tabs_upd h.tab h4 (repO_tab h5).1, h.pt⟩
  · rw [upd_ne (na x u hx)]
    exact h.exG _ _ hx
  · rw [upd_ne (ne_of_none hx h2)]
    exact h.post.keep _ _ nb hx
  · obtain ⟨b1, b2, b3⟩ := h.post.bag β hβ
    have ne : β ≠ a := fun z => by
      rw [z] at hβ
      exact (h.pre0.bag a hβ).2.1 h2
    exact ⟨b1, by rw [upd_ne ne]; exact b2, b3.mono (Ex.refl _) (upd_ne ne)⟩
  · by_cases hij : i = j
    · subst hij
      rw [List.getElem?_set, if_pos rfl, if_pos hl] at ej
      cases ej
      exact ⟨a, us, ha, h2, h3, upd_same, r, fun z => h6 (hi z)⟩
    · rw [List.getElem?_set_ne hij] at ej
      have q := h.sl j s ej
      cases s with
      | no => trivial
      | v d => exact q
      | ol l2 =>
        obtain ⟨b, ws, q1, q2, q3, q4, q5⟩ := q
        have ne : b ≠ a := fun z => by
          subst z
          exact h.ap i j _ _ _ hij e ej ha q1
        exact ⟨b, ws, q1, q2, q3, by rw [upd_ne ne]; exact q4, q5⟩
      | fz d => exact q
  · obtain ⟨m1, f1⟩ := back j l1 e1
    obtain ⟨m2, f2⟩ := back k l2 e2
    exact h.ap j k m1 m2 b hjk f1 f2 e3
  · obtain ⟨q1, q2, q3, q4⟩ := h.pin p hp
    have ne : p.1 ≠ a := fun z => by
      have y := q4 i l e
      rw [z] at y
      exact y ha
    refine ⟨by rw [upd_ne ne]; exact q1, q2, q3, fun j l2 ej => ?_⟩
    obtain ⟨m2, f2⟩ := back j l2 ej
    exact q4 j m2 f2
/-- name = a new list -/
def wsOwn (i : Nat) (w : WA) : WS := fun env K => w env (fun l e => K.nx (e.set i (.ol (.lst l)))) K.ex
theorem ps_own {i : Nat} {x : Str} {pos' : Pos} {w : WA} (hN : X.N.Nodup) (hi : X.N[i]? = some x) (hx : Loc X.env.scope x) (he : PXN X W e w) (hs : swapsWith e (some (.Name x pos')) pos.line X.env = pure false := by rfl) (hf : X.fn x = true ∨ X.env.scope.names.lookup x = some .local := by first | exact .inl rfl | exact .inr rfl | assumption) :
    PXS X W (.Assign [.Name x pos'] e pos) (wsOwn i w) := by
  obtain ⟨t, a1, a2⟩ := he.ex
  exact ⟨⟨_, ps_set hN hi hx a1 hs hf, fun F env σ G H P Q hx hs hw hq => a2 F env σ G H _ _ _ hx hs hw (fun l e1 a vs G1 H1 p s1 x1 r1 hd => hq.nx _ _ G1 H1 p (s1.own (.lst r1) rfl hd) x1) (hq.ex σ)⟩⟩
/-- a, b = two new lists -/
def wsOwn2 (i j : Nat) (w u : WA) : WS := fun env K => w env (fun l e => u e (fun m e2 => K.nx ((e2.set i (.ol (.lst l))).set j (.ol (.lst m)))) K.ex) K.ex
theorem SI.swapPin {F : Fc} {env : En} {σ : L2.St} {G H : Hp} {p q : Addr × HO} {ps : List (Addr × HO)} (h : SI { F with pins := p :: q :: ps } env σ G H) : SI { F with pins := q :: p :: ps } env σ G H :=
  ⟨h.pre0, h.post, h.len, h.sl, h.ap, (fun x hx => h.pin x (by
    rcases List.mem_cons.mp hx with z | z
    · rw [z]; exact List.mem_cons_of_mem _ List.mem_cons_self
    · rcases List.mem_cons.mp z with z | z
      · rw [z]; exact List.mem_cons_self
      · exact List.mem_cons_of_mem _ (List.mem_cons_of_mem _ z))), h.tab, (fun x hx => h.pt x (by
    rcases List.mem_cons.mp hx with z | z
    · rw [z]; exact List.mem_cons_of_mem _ List.mem_cons_self
    · rcases List.mem_cons.mp z with z | z
      · rw [z]; exact List.mem_cons_self
      · exact List.mem_cons_of_mem _ (List.mem_cons_of_mem _ z)))⟩
theorem ps_own2 {i j : Nat} {x y : Str} {a b : Expr} {w u : WA} {px py pt : Pos} {kt k2 pt2} (hc : X.calm = true) (hN : X.N.Nodup) (hi : X.N[i]? = some x) (hj : X.N[j]? = some y) (hij : i ≠ j)
    (hx : X.env.scope.names.lookup x = some .local) (hy : X.env.scope.names.lookup y = some .local) (ha : PXN X W a w) (hb : PXN X W b u)
    (hw : swappedStores [.Tuple [.Name x px, .Name y py] kt pt] (.Tuple [a, b] k2 pt2) X.env = pure (some [x, y]))
    (hs : swapsWithSole [.Tuple [.Name x px, .Name y py] kt pt] (.Tuple [a, b] k2 pt2) pos.line X.env = pure false := by rfl)
    (h1 : starEach (a :: [b]) X.env = (false, eval a X.env) :: starEach [b] X.env := by rfl) (h2 : starEach (b :: []) X.env = (false, eval b X.env) :: starEach [] X.env := by rfl) :
    PXS X W (.Assign [.Tuple [.Name x px, .Name y py] kt pt] (.Tuple [a, b] k2 pt2) pos) (wsOwn2 i j w u) := by
  obtain ⟨ta, a1, a2⟩ := ha.ex
  obtain ⟨tb, b1, b2⟩ := hb.ex
  refine ⟨⟨_, ps_par hc hN hi hj hij hx hy (pa_cons a1 (pa_cons b1 pa_nil h2) h1) hw hs, fun F env σ G H P Q hx hs hw hq => a2 F env σ G H _ _ _ hx hs hw (fun l e1 p vs G1 H1 p1 s1 x1 r1 hd1 => ?_) (hq.ex σ)⟩⟩
  refine b2 { F with pins := (p, .lst vs) :: F.pins } e1 σ G1 H1 _ P.ex _ (hx.pin (fun _ z => nomatch z)) s1 p1 (fun m e2 q us G2 H2 p2 s2 x2 r2 hd2 => ?_) ?_
  · have npq : p ≠ q := hd2 (p, .lst vs) List.mem_cons_self
    refine ⟨_, _, rfl, hq.nx _ _ G2 H2 p2 ?_ (x1.trans x2)⟩
    have s3 : SI { F with pins := (q, .lst us) :: F.pins } (e2.set i (.ol (.lst l))) (σ.set i (some (.ref p))) G2 H2 :=
      SI.own (F := { F with pins := (q, .lst us) :: F.pins }) s2.swapPin (.lst (r1.mono x2)) rfl (fun z hz => by
        rcases List.mem_cons.mp hz with y | y
        · rw [y]; exact fun h => npq h.symm
        · exact hd1 z y)
    exact s3.own (.lst r2) rfl (fun z hz => hd2 z (List.mem_cons_of_mem _ hz))
  · intro x env' cls dct G' H' h s r
    refine hq.ex σ x env' cls dct G' H' h ?_ r
    exact ⟨s.pre0, s.post, s.len, s.sl, s.ap, (fun z hz => s.pin z (List.mem_cons_of_mem _ hz)), s.tab, fun z hz => s.pt z (List.mem_cons_of_mem _ hz)⟩
/-! reading an own list -/
def wLenV (i : Nat) : WE := fun env P _ => match env[i]? with
  | some (.ol (.lst l)) => P (.int (l.length : Int)) env
  | some (.v d) => rdLen [d] fun z => P z env
  | _ => False
theorem px_lenV (i : Nat) {x f : Str} {p pos' : Pos} (hg : Gl X f) (hm : X.mg f = none) (hv : bootBuiltins f = some (.builtin "len")) (h : PE X (.Name x pos') (tVar i)) (hn : f ≠ "__name__" := by decide) (hdb : (f == ("__debug__" : Str)) = false := by decide)
    (he : starEach (.Name x pos' :: []) X.env = (false, eval (.Name x pos') X.env) :: starEach [] X.env := by rfl) (hpl : (backTo pos (starEach [] X.env)).any (·.1) = false := by rfl) : PX X W (.Call (.Name f p) (.Name x pos' :: []) [] pos) (wLenV i) := by
  refine ⟨⟨_, pe_callB call_len hg hm hv (pa_cons h pa_nil he) hn hdb he hpl, fun F env σ G H P R Q hx hs hw hq hk => ?_⟩⟩
  unfold wLenV at hw
  cases e : env[i]? with
  | none => rw [e] at hw; exact hw.elim
  | some s =>
    rw [e] at hw
    cases s with
    | no => exact hw.elim
    | fz d => exact hw.elim
    | ol l =>
      cases l <;> first | exact hw.elim | skip
      obtain ⟨a, vs, h1, h2, h3, h4, h5, h6⟩ := hs.sl i _ e
      cases h5 with
      | lst h5 =>
      exact ⟨_, h1, _, _, rfl, .inl ⟨_, SqL.of h4, h5.length.symm⟩, hq _ env _ G H hw hs (Ex.refl _) .int⟩
    | v d =>
      obtain ⟨v, h1, h2⟩ := hs.sl i _ e
      refine ⟨_, h1, ?_⟩
      unfold rdLen at hw
      cases d <;> first | exact hw.elim | skip
      · cases h2
        exact ⟨_, _, rfl, ⟨hw.1, rfl⟩, hq _ env _ G H hw.2 hs (Ex.refl _) .int⟩
      · cases h2 with
        | lst l1 r1 => exact ⟨_, _, rfl, .inl ⟨_, SqL.of (hs.exG _ _ l1), r1.length.symm⟩, hq _ env _ G H hw hs (Ex.refl _) .int⟩
      · cases h2 with
        | tup l1 r1 => exact ⟨_, _, rfl, .inr ⟨_, by rw [← hx.k]; exact hs.exG.tt l1, r1.length.symm⟩, hq _ env _ G H hw hs (Ex.refl _) .int⟩
/-- x[k], x in a slot -/
def wIxV (i : Nat) (wb : WE) : WE := fun env P R => match env[i]? with
  | some (.ol (.lst _)) => wb env (fun k e1 => match k, e1[i]? with
    | .int k, some (.ol (.lst l)) => ∃ d, atI l k = some d ∧ P d e1
    | _, _ => False) R
  | some (.v d) => wb env (fun k e1 => rdIx d k fun z => P z e1) R
  | _ => False
/-- x.append(e), x the frame's own list -/
def wsApp (i : Nat) (w : WE) : WS := fun env K => match env[i]? with
  | some (.ol (.lst _)) => w env (fun d e1 => match e1[i]? with
    | some (.ol (.lst l)) => l.length < 100000 ∧ K.nx (e1.set i (.ol (.lst (l ++ [d]))))
    | _ => False) K.ex
  | _ => False
theorem ps_app {i : Nat} {x : Str} {w : WE} {pos' apos cpos : Pos} (h : PE X (.Name x pos') (tVar i)) (he : PX X W e w) (hs : swapsWith (.Call (.Attribute (.Name x pos') "append" apos) [e] [] cpos) none pos.line X.env = pure false := by rfl)
    (hbase : attributeBase (.Name x pos') "append" X.env (eval (.Name x pos') X.env) = eval (.Name x pos') X.env := by rfl)
    (hfew : ((backTo cpos (starEach (e :: []) X.env)).all (fun x => !x.1) && (backToKw cpos (keywordEach [] X.env)).all (fun x => x.1.isSome)
      && decide ((e :: []).length + ([] : List Keyword).length + (if ([] : List Keyword).isEmpty then 0 else 1) < 30)) = true := by rfl)
    (hline : (apos.endLine == cpos.line) = true := by rfl) (hst : starEach (e :: []) X.env = (false, eval e X.env) :: starEach [] X.env := by rfl) (hplain : (backTo cpos (starEach [] X.env)).any (·.1) = false := by rfl) :
    PXS X W (.Expr (.Call (.Attribute (.Name x pos') "append" apos) [e] [] cpos) pos) (wsApp i w) := by
  obtain ⟨t, a1, a2⟩ := he.ex
  refine ⟨⟨_, ps_expr (pe_bm PySem.F.plainAttrs_list PySem.F.slot_list_append PySem.F.type_list_append mt_append h (pa_cons a1 pa_nil hst) hbase hfew hline hst hplain) hs, fun F env σ G H P Q hx hs hw hq => ?_⟩⟩
  unfold wsApp at hw
  cases e0 : env[i]? with
  | none => rw [e0] at hw; exact hw.elim
  | some s =>
    rw [e0] at hw
    cases s with
    | no => exact hw.elim
    | v d => exact hw.elim
    | fz d => exact hw.elim
    | ol l0 =>
      cases l0 <;> first | exact hw.elim | skip
      obtain ⟨a, vs, h1, h2, h3, h4, h5, h6⟩ := hs.sl i _ e0
      cases h5 with
      | lst h5 =>
      refine ⟨_, h1, .inl ⟨rfl, _, SqL.of h4⟩, a2 F env σ G H _ _ _ hx hs hw (fun d e1 v G1 H1 p s1 x1 r1 => ?_) (hq.ex σ)⟩
      cases e2 : e1[i]? with
      | none => rw [e2] at p; exact p.elim
      | some s =>
        rw [e2] at p
        cases s with
        | no => exact p.elim
        | v d => exact p.elim
        | fz d => exact p.elim
        | ol l =>
          cases l <;> first | exact p.elim | skip
          obtain ⟨a', us, g1, g2, g3, g4, g5, g6⟩ := s1.sl i _ e2
          rw [h1] at g1
          cases g1
          cases g5 with
          | @lst us _ g5 =>
          have hz : (100000 : Nat) ≤ sizeLine := by decide
          have hl := g5.length
          exact ⟨a, us, v, rfl, rfl, g4, by omega, hq.nx _ _ G1 _ p.2 (s1.reown e2 h1 (.lst (g5.append (.cons r1 .nil))) (fun z => nomatch z)) x1⟩
/-- x.pop(k) -/
def wPopV (i : Nat) (w : WE) : WE := fun env P R => match env[i]? with
  | some (.ol (.lst _)) => w env (fun k e1 => match k, e1[i]? with
    | .int k, some (.ol (.lst l)) => 0 ≤ k ∧ l.length ≤ 100000 ∧ ∃ d, l[k.toNat]? = some d ∧ P d (e1.set i (.ol (.lst (l.eraseIdx k.toNat))))
    | _, _ => False) R
  | _ => False
theorem Reps.erase {w : Wd} {G : Hp} : ∀ {vs : List V} {ds : List D} (n : Nat), Reps w G vs ds → Reps w G (vs.eraseIdx n) (ds.eraseIdx n)
  | _, _, _, .nil => .nil
  | _, _, 0, .cons _ t => t
  | _, _, n + 1, .cons r t => .cons r (t.erase n)
theorem px_popV (i : Nat) {x : Str} {w : WE} {pos' apos cpos : Pos} (h : PE X (.Name x pos') (tVar i)) (he : PX X W e w)
    (hbase : attributeBase (.Name x pos') "pop" X.env (eval (.Name x pos') X.env) = eval (.Name x pos') X.env := by rfl)
    (hfew : ((backTo cpos (starEach (e :: []) X.env)).all (fun x => !x.1) && (backToKw cpos (keywordEach [] X.env)).all (fun x => x.1.isSome)
      && decide ((e :: []).length + ([] : List Keyword).length + (if ([] : List Keyword).isEmpty then 0 else 1) < 30)) = true := by rfl)
    (hline : (apos.endLine == cpos.line) = true := by rfl) (hst : starEach (e :: []) X.env = (false, eval e X.env) :: starEach [] X.env := by rfl) (hplain : (backTo cpos (starEach [] X.env)).any (·.1) = false := by rfl) :
    PX X W (.Call (.Attribute (.Name x pos') "pop" apos) [e] [] cpos) (wPopV i w) := by
  obtain ⟨t, a1, a2⟩ := he.ex
  refine ⟨⟨_, pe_bm PySem.F.plainAttrs_list PySem.F.slot_list_pop PySem.F.type_list_pop mt_popAt h (pa_cons a1 pa_nil hst) hbase hfew hline hst hplain, fun F env σ G H P R Q hx hs hw hq hk => ?_⟩⟩
  unfold wPopV at hw
  cases e0 : env[i]? with
  | none => rw [e0] at hw; exact hw.elim
  | some s =>
    rw [e0] at hw
    cases s with
    | no => exact hw.elim
    | v d => exact hw.elim
    | fz d => exact hw.elim
    | ol l0 =>
      cases l0 <;> first | exact hw.elim | skip
      obtain ⟨a, vs, h1, h2, h3, h4, h5, h6⟩ := hs.sl i _ e0
      cases h5 with
      | lst h5 =>
      refine ⟨_, h1, .inl ⟨rfl, _, SqL.of h4⟩, a2 F env σ G H _ _ _ hx hs hw (fun d e1 v G1 H1 p s1 x1 r1 => ?_) hk⟩
      cases e2 : e1[i]? with
      | none => rw [e2] at p; cases d <;> exact p.elim
      | some s =>
        rw [e2] at p
        cases d <;> first | exact p.elim | skip
        cases s with
        | no => exact p.elim
        | v d => exact p.elim
        | fz d => exact p.elim
        | ol l =>
          cases r1
          cases l <;> first | exact p.elim | skip
          obtain ⟨p0, p1, d, p2, p3⟩ := p
          obtain ⟨a', us, g1, g2, g3, g4, g5, g6⟩ := s1.sl i _ e2
          rw [h1] at g1
          cases g1
          rename_i k l1
          cases g5 with
          | @lst us _ g5 =>
          obtain ⟨v, q1, q2⟩ := g5.getD p2
          have hlt := (List.getElem?_eq_some_iff.mp q1).1
          have hl := g5.length
          refine ⟨a, us, k, k.toNat, v, rfl, rfl, g4, by omega, by omega, ?_, q1, hq _ _ _ G1 _ p3 (s1.reown e2 h1 (.lst (g5.erase _)) (fun z => nomatch z)) x1 q2⟩
          unfold seqIndex?
          have e3 : (if k < 0 then k + (us.length : Int) else k) = k := if_neg (by omega)
          show (if (decide (0 ≤ (if k < 0 then k + (us.length : Int) else k)) && decide ((if k < 0 then k + (us.length : Int) else k) < (us.length : Int))) = true then some (if k < 0 then k + (us.length : Int) else k).toNat else none) = _
          rw [e3, decide_eq_true p0, decide_eq_true (show k < (us.length : Int) by omega)]
          rfl
end
end Pu
set_option maxRecDepth 100000
/-! Constants of the module that are tuples or dicts; targets of many names -/
namespace Pu
open PySem L2 PySem.Spec PyProof.Rows
/-- a tuple that the top has written -/
def KTup (K : PySem.W.Frag) (a : Addr) (vs : List V) : Prop := ∃ (o : Obj) (its : Array Value) (n : Nat), K.lookup a = some o ∧ o.cls = .type "tuple" ∧ o.data = .seq its n ∧ its.size ≤ sizeLine ∧ Vals vs its.toList
theorem kd_all {K : PySem.W.Frag} {w : World} {a : Addr} {es : Array DictEntry} {n : Nat} {l : List (Str × Int)} (h : K.lookup a = some ⟨.type "dict", none, .dict es n, #[]⟩) (hk : PySem.W.KeysLit w.params es.toList) (hq : ∀ q ∈ l, ∃ t, PySem.W.nsIn K a q.1 = some (some (.int q.2 t))) :
    ∀ q ∈ l, KDct K w a q.1 (.int q.2) := fun q hm => by
  obtain ⟨t, e⟩ := hq q hm
  exact ⟨es, n, _, h, hk, e, ⟨t, rfl⟩⟩
section
variable {X : Cx} {W : WX}
/-- e in NAME, not in: a tuple of the module -/
theorem px_inK {op : CmpOp} {neg : Bool} {x : Str} {vs : List V} {ds : List D} {a : Expr} {wa : WE} {p pos : Pos} (ho : OpR X (compareOp op) (rIn X.K neg)) (hg : Gl X x) (hm : ∃ a, X.mg x = some (.ref a) ∧ KTup X.K a vs) (hr : ∀ w G, Reps w G vs ds) (ha : PX X W a wa) (hd : (x == ("__debug__" : Str)) = false := by decide)
    (hb : behindInMarks op (.Name x p) = false := by first | exact nobehind _ (by decide) (by decide) | rfl) : PX X W (.Compare a [op] [.Name x p] pos) (wOp (rdIn neg) wa (wC (.tup ds))) := by
  obtain ⟨c, h1, h2⟩ := hm
  obtain ⟨ta, a1, a2⟩ := ha.ex
  refine ⟨⟨_, pe_cmpR ho a1 (pe_glob (v := .ref c) hg h1 rfl hd) hb, fun F env σ G H P R Q hx hs hw hq hk => a2 F env σ G H _ R _ hx hs hw (fun d e1 v G1 H1 p1 s1 x1 r1 => ?_) hk⟩⟩
  obtain ⟨p1, p2, p3⟩ := p1
  exact ⟨c, vs, rfl, .inr (.inr h2), flat_ok r1 p1, flats_ok (hr F.wd G1) p2, by rw [inD_ok r1 p1 (hr F.wd G1) p2]; exact hq _ e1 _ G1 H1 p3 s1 x1 .bl⟩
def wKD (tb : List (Str × Int)) (w : WE) : WE := fun env P R => w env (fun d e => match d with
  | .str s => ∃ v, (s, v) ∈ tb ∧ P (.int v) e
  | _ => False) R
theorem px_kd {x : Str} {tb : List (Str × Int)} {b : Expr} {wb : WE} {p pos : Pos} (hg : Gl X x) (hm : ∃ a, X.mg x = some (.ref a) ∧ ∀ q ∈ tb, KDct X.K X.w a q.1 (.int q.2)) (hb : PX X W b wb) (hs : PlainIx b) (hd : (x == ("__debug__" : Str)) = false := by decide) :
    PX X W (.Subscript (.Name x p) b pos) (wKD tb wb) := by
  obtain ⟨a, h1, h2⟩ := hm
  obtain ⟨t, b1, b2⟩ := hb.ex
  refine ⟨⟨_, pe_ix ix_kdict (pe_glob (v := .ref a) hg h1 rfl hd) b1 hs, fun F env σ G H P R Q hx hs hw hq hk => b2 F env σ G H _ R _ hx hs hw (fun d e1 v G1 H1 p s1 x1 r1 => ?_) hk⟩⟩
  cases d <;> first | exact p.elim | skip
  cases r1
  obtain ⟨v, h3, h4⟩ := p
  exact ⟨a, _, .int v, rfl, rfl, h2 _ h3, hq _ e1 _ G1 H1 h4 s1 x1 .int⟩
/-! ### targets: a tuple of any number of names -/
abbrev WGs := List D → En → (En → Prop) → Prop
structure PXGs (X : Cx) (ts : List Expr) (own : List Nat) (w : WGs) : Prop where
  ex : ∃ g : TGs, PGs X ts g ∧ ∀ (F : Fc) (env : En) (σ : L2.St) (G H : Hp) (vs : List V) (ds : List D) (P : En → Prop) (Q : L2.St → Hp → Prop), XOk X F → SI F env σ G H → Reps F.wd G vs ds → w ds env P →
    (∀ env' σ', P env' → SI F env' σ' G H → (∀ ws : List Nat, (∀ i ∈ own, i ∈ ws) → wipe σ' ws = wipe σ ws) → Q σ' H) → g vs σ H Q
def wgNil : WGs := fun ds env P => match ds with
  | [] => P env
  | _ => False
def wgCons (g : WG) (gs : WGs) : WGs := fun ds env P => match ds with
  | d :: r => g d env fun e => gs r e P
  | [] => False
def wgTup (n : Nat) (gs : WGs) : WG := fun d env P => match d with
  | .tup ds => ds.length = n ∧ gs ds env P
  | _ => False
theorem pgs_nil' : PXGs X [] [] wgNil := by
  refine ⟨⟨_, pgs_nil, fun F env σ G H vs ds P Q hx hs hr hw hq => ?_⟩⟩
  cases hr with
  | nil => exact ⟨rfl, hq env σ hw hs fun _ _ => rfl⟩
  | cons _ _ => exact hw.elim
theorem pgs_cons' {e : Expr} {es : List Expr} {g : WG} {gs : WGs} {o1 o2 : List Nat} (h1 : PXG X e o1 g) (h2 : PXGs X es o2 gs)
    (hs : (assignEach (e :: es) X.env).map (·.2) = assign e X.env :: (assignEach es X.env).map (·.2) := by rfl) : PXGs X (e :: es) (o1 ++ o2) (wgCons g gs) := by
  obtain ⟨t1, a1, a2⟩ := h1.ex
  obtain ⟨t2, b1, b2⟩ := h2.ex
  refine ⟨⟨_, pgs_cons a1 b1 hs, fun F env σ G H vs ds P Q hx hs hr hw hq => ?_⟩⟩
  cases hr with
  | nil => exact hw.elim
  | @cons v d vs ds r rs =>
    refine ⟨v, vs, rfl, a2 F env σ G H v d _ _ hx hs r hw fun e1 σ1 p1 s1 w1 => ?_⟩
    refine b2 F e1 σ1 G H vs ds P Q hx s1 rs p1 fun e2 σ2 p2 s2 w2 => hq e2 σ2 p2 s2 fun ws hws => ?_
    rw [w2 ws fun i hi => hws i (List.mem_append_right _ hi), w1 ws fun i hi => hws i (List.mem_append_left _ hi)]
theorem pg_tupN {es : List Expr} {gs : WGs} {own : List Nat} {kk n pos} (hc : X.calm = true) (h : PXGs X es own gs) (hn : (assignEach es X.env).length = n := by rfl) (hst : (assignEach es X.env).findIdx? (·.1) = none := by rfl) : PXG X (.Tuple es kk pos) own (wgTup n gs) := by
  obtain ⟨t1, a1, a2⟩ := h.ex
  refine ⟨⟨_, pg_tup hc a1 hn hst, fun F env σ G H v d P Q hx hs hr hw hq => ?_⟩⟩
  unfold wgTup at hw
  split at hw
  · cases hr with
    | tup l1 l2 => exact ⟨_, _, rfl, by rw [← hx.k]; exact hs.exG.tt l1, by rw [l2.length]; exact hw.1, a2 F env σ G H _ _ P Q hx hs l2 hw.2 hq⟩
  · exact hw.elim
end
end Pu
set_option maxRecDepth 100000
/-! a op1 b op2 c op3 d -/
namespace Pu
open PySem L2 PySem.Spec PyProof.Rows
def tChain3 (r r' r'' : R2) (ta tb tc td : TE) : TE := fun σ H Q => ta σ H fun x H1 => tb σ H1 fun y H2 => r x y H2 fun z H3 => ∃ k, z = .bl k ∧
  (if k = true then tc σ H3 fun w' H4 => r' y w' H4 fun z' H5 => ∃ k', z' = .bl k' ∧ (if k' = true then td σ H5 fun u' H6 => r'' w' u' H6 Q else Q (.bl false) H5) else Q (.bl false) H3)
section
variable {X : Cx} {W : WX} {a b c d : Expr} {ta tb tc td : TE} {pos : Pos}
theorem pe_chain3 {op op' op'' : CmpOp} {r r' r'' : R2} (ho : OpR X (compareOp op) r) (ho' : OpR X (compareOp op') r') (ho'' : OpR X (compareOp op'') r'') (ha : PE X a ta) (hb : PE X b tb) (hc : PE X c tc) (hd : PE X d td)
    (hm : lastMarks [op, op', op''] [b, c, d] = false := by with_unfolding_all rfl) : PE X (.Compare a [op, op', op''] [b, c, d] pos) (tChain3 r r' r'' ta tb tc td) := by
  refine ⟨fun pins s σ H Q I h => ?_⟩
  refine Compare_chain (thn (ha.run pins s σ H _ I h) fun v s1 ⟨x, H1, I1, r1, q1⟩ => chain_link (thn (hb.run pins s1 σ H1 _ I1 q1) fun u s2 ⟨y, H2, I2, r2, q2⟩ =>
    thn (ho pins s2 σ H2 x y v u _ I2 r1 r2 q2) fun d s3 ⟨z, H3, I3, r3, k, e, q3⟩ => ?_)) hm
  subst e
  cases r3
  refine wpAny_truthy_bool ?_
  cases k with
  | false => exact ite_ff ⟨.bl false, H3, I3, rfl, q3⟩
  | true =>
    refine ite_tt (chain_link (thn (hc.run pins s3 σ H3 _ I3 q3) fun w' s4 ⟨z', H4, I4, r4, q4⟩ => thn (ho' pins s4 σ H4 y z' u w' _ I4 r2 r4 q4) fun d2 s5 ⟨z2, H5, I5, r5, k2, e2, q5⟩ => ?_))
    subst e2
    cases r5
    refine wpAny_truthy_bool ?_
    cases k2 with
    | false => exact ite_ff ⟨.bl false, H5, I5, rfl, q5⟩
    | true => exact ite_tt (chain_last (thn (hd.run pins s5 σ H5 _ I5 q5) fun w2 s6 ⟨z3, H6, I6, r6, q6⟩ => ho'' pins s6 σ H6 z' z3 w' w2 Q I6 r4 r6 q6))
def wChain3 (r r' r'' : RD2) (wa wb wc wd : WE) : WE := fun env P R => wa env (fun x e1 => wb e1 (fun y e2 => r x y fun z => match z with
  | .bl true => wc e2 (fun u e3 => r' y u fun z' => match z' with
    | .bl true => wd e3 (fun u' e4 => r'' u u' fun z'' => P z'' e4) R
    | .bl false => P (.bl false) e3
    | _ => False) R
  | .bl false => P (.bl false) e2
  | _ => False) R) R
theorem px_chain3 {op op' op'' : CmpOp} {r r' r'' : RD2} {wa wb wc wd : WE} (ho : PR2 X (compareOp op) r) (ho' : PR2 X (compareOp op') r') (ho'' : PR2 X (compareOp op'') r'') (ha : PX X W a wa) (hb : PX X W b wb) (hc : PX X W c wc) (hd : PX X W d wd)
    (hm : lastMarks [op, op', op''] [b, c, d] = false := by with_unfolding_all rfl) : PX X W (.Compare a [op, op', op''] [b, c, d] pos) (wChain3 r r' r'' wa wb wc wd) := by
  obtain ⟨r0, h1, hr⟩ := ho
  obtain ⟨r1, h3, hr'⟩ := ho'
  obtain ⟨r2, h5, hr''⟩ := ho''
  obtain ⟨ta, a1, a2⟩ := ha.ex
  obtain ⟨tb, b1, b2⟩ := hb.ex
  obtain ⟨tc, c1, c2⟩ := hc.ex
  obtain ⟨td, d1, d2⟩ := hd.ex
  refine ⟨⟨_, pe_chain3 h1 h3 h5 a1 b1 c1 d1 hm, fun F env σ G H P R Q hx hs hw hq hk => ?_⟩⟩
  refine a2 F env σ G H _ R _ hx hs hw (fun x e1 vx G1 H1 p1 s1 x1 q1 => ?_) hk
  refine b2 F e1 σ G1 H1 _ R _ hx s1 p1 (fun y e2 vy G2 H2 p2 s2 x2 q2 => ?_) hk
  refine hr F.wd G2 H2 x y vx vy _ _ hx.k hx.m s2.pre (q1.mono x2) q2 p2 fun z v G3 H3 p po rz => ?_
  have s3 := s2.step po
  have x3 := (x1.trans x2).trans po.ex
  cases z <;> first | exact p.elim | skip
  rename_i k
  cases rz
  cases k with
  | false => exact ⟨false, rfl, iteF (hq _ e2 _ G3 H3 p s3 x3 .bl)⟩
  | true =>
    refine ⟨true, rfl, iteT ?_⟩
    refine c2 F e2 σ G3 H3 _ R _ hx s3 p (fun u e3 vu G4 H4 p4 s4 x4 q4 => ?_) hk
    refine hr' F.wd G4 H4 y u vy vu _ _ hx.k hx.m s4.pre ((q2.mono po.ex).mono x4) q4 p4 fun z v G5 H5 p po' rz => ?_
    have s5 := s4.step po'
    have x5 := (x3.trans x4).trans po'.ex
    cases z <;> first | exact p.elim | skip
    rename_i k
    cases rz
    cases k with
    | false => exact ⟨false, rfl, iteF (hq _ e3 _ G5 H5 p s5 x5 .bl)⟩
    | true =>
      refine ⟨true, rfl, iteT ?_⟩
      refine d2 F e3 σ G5 H5 _ R _ hx s5 p (fun u' e4 vu' G6 H6 p6 s6 x6 q6 => ?_) hk
      exact hr'' F.wd G6 H6 u u' vu vu' _ Q hx.k hx.m s6.pre ((q4.mono po'.ex).mono x6) q6 p6 fun z v G' H' p po'' rz => hq z e4 v G' H' p (s6.step po'') ((x5.trans x6).trans po''.ex) rz
end
end Pu
set_option maxRecDepth 100000
/-! More of the helpers that every law has, over data -/
namespace Pu
open PySem L2 PySem.Spec PyProof.Rows
/-- a def's promise: what its own body's reading says -/
abbrev FW (n : Nat) (ws : WS) : FT := fun ds P R => ws (startE n ds) { nx := fun _ => P .non, rt := P, ex := fun x _ => R x }
def w_law_mixed (F_law_draw : FT) : WS :=
    (wsSeq (wsOwn2 2 3 (wnList (wVar 1)) (wnLst wNil))
    (wsSeq (wsFor (wRng1 (wCB rdLen (wCons (wVar 1) wNil))) (wgName 4)
    (wsApp 3 (wPopV 2 (wCall (fun ds P R => ds.length = 2 ∧ F_law_draw ds P R) [] (wCons (wVar 0) (wCons (wLenV 2) wNil))))))
    (wsRet (wVar 3))))
/-- an if without else, its way back left out -/
theorem st_ifN {c : WT} {t b : WS} {env : En} {K : EnD} (k : Bool) (hc : ∀ Pk : Bool → En → Prop, Pk k env → c env Pk K.ex) (ht : k = true → t env { K with nx := fun e => b e K }) (he : k = false → b env K) : wsSeq (wsIf c t wsNext) b env K := hc _ (by
  cases k with
  | true => exact ht rfl
  | false => exact he rfl)
/-- any order of a list -/
def F_mixed : FT := fun ds P _ => ∃ l, (ds = [.bag, .lst l] ∨ ds = [.bag, .tup l]) ∧ l.length ≤ 1000 ∧ ∀ l', l'.Perm l → P (.lst l')
theorem erase_perm : ∀ (l : List D) (n : Nat) (d : D), l[n]? = some d → (d :: l.eraseIdx n).Perm l
  | [], n, d, h => by simp at h
  | x :: l, 0, d, h => by
    simp at h
    subst h
    exact .refl _
  | x :: l, n + 1, d, h => by
    simp at h
    exact (List.Perm.swap x d _).trans ((erase_perm l n d h).cons x)
theorem mixed_loop (l : List D) (s : Sl) (hl : l.length ≤ 1000) (K : EnD) (hK : ∀ l' x2 x4, l'.Perm l → K.nx [.v .bag, s, x2, .ol (.lst l'), x4]) : ∀ (ds left found : List D) (x4 : Sl), ds.length = left.length → (found ++ left).Perm l →
    wsForL (wgName 4) (wsApp 3 (wPopV 2 (wCall (fun ds P R => ds.length = 2 ∧ F_draw ds P R) [] (wCons (wVar 0) (wCons (wLenV 2) wNil))))) K ds [.v .bag, s, .ol (.lst left), .ol (.lst found), x4] := by
  intro ds
  induction ds with
  | nil =>
    intro left found x4 h1 h2
    cases left with
    | nil =>
      rw [List.append_nil] at h2
      exact hK found _ _ h2
    | cons _ _ => cases h1
  | cons x ds ih =>
    intro left found x4 h1 h2
    have hlen : found.length + left.length = l.length := by
      have := h2.length_eq
      rw [List.length_append] at this
      exact this
    have h1' : ds.length + 1 = left.length := h1
    refine ⟨rfl, (left.length : Int), rfl, by omega, log_small (by omega), fun v a b => ?_⟩
    have hv : v.toNat < left.length := by omega
    refine ⟨a, by omega, left[v.toNat], List.getElem?_eq_getElem hv, by omega, ?_⟩
    refine ih (left.eraseIdx v.toNat) (found ++ [left[v.toNat]]) _ ?_ ?_
    · rw [List.length_eraseIdx, if_pos hv]
      omega
    · rw [List.append_assoc]
      exact ((erase_perm left v.toNat _ (List.getElem?_eq_getElem hv)).append_left found).trans h2
theorem pure_law_mixed (ds : List D) (P : D → Prop) (R : DX → Prop) (_ : ds.length = 2) (h : F_mixed ds P R) : w_law_mixed F_draw (startE 5 ds) { nx := fun _ => P .non, rt := P, ex := fun x _ => R x } := by
  obtain ⟨l, hd, hl, hP⟩ := h
  have hr : (rangeD 0 (Int.toNat (l.length : Int))).length = l.length := by unfold rangeD; rw [List.length_map, List.length_range]; omega
  have b1 : -(2 ^ 62) ≤ (l.length : Int) := by omega
  have b2 : (l.length : Int) < 2 ^ 62 := by omega
  rcases hd with rfl | rfl
  · refine ⟨Nat.zero_le _, ⟨b1, b2⟩, ?_⟩
    exact mixed_loop l _ hl _ (fun l' _ _ h => hP l' h) _ l [] _ hr (by rw [List.nil_append])
  · refine ⟨Nat.zero_le _, ⟨b1, b2⟩, ?_⟩
    exact mixed_loop l _ hl _ (fun l' _ _ h => hP l' h) _ l [] _ hr (by rw [List.nil_append])
end Pu
set_option maxRecDepth 100000
/-! Parts, over data -/
namespace Pu
open PySem L2 PySem.Spec PyProof.Rows
/-- plain data of a depth, its texts short -/
def pl : Nat → D → Bool
  | _, .non => true
  | _, .bl _ => true
  | _, .int _ => true
  | _, .str s => decide (s.length ≤ 100000)
  | n + 1, .lst l => decide (l.length ≤ 100000) && l.all (pl n)
  | n + 1, .tup l => decide (l.length ≤ 100000) && l.all (pl n)
  | _, _ => false
theorem sz_of {n : Nat} (h : n ≤ 100000) : n ≤ sizeLine := Nat.le_trans h (by decide)
theorem pl_tup {n : Nat} {l : List D} (h : pl n (.tup l) = true) : ∃ m, n = m + 1 ∧ l.length ≤ 100000 ∧ ∀ x ∈ l, pl m x = true := by
  cases n with
  | zero => cases h
  | succ m =>
    have h' : (decide (l.length ≤ 100000) && l.all (pl m)) = true := h
    rw [Bool.and_eq_true, decide_eq_true_iff] at h'
    exact ⟨m, rfl, h'.1, List.all_eq_true.mp h'.2⟩
theorem pl_isT {n : Nat} {d : D} (h : pl n d = true) (T : TyN) : ∃ b, isTD d T = some b := by
  cases d <;> cases T <;> first | exact ⟨_, rfl⟩ | (cases n <;> cases h)
def isNameB : D → Bool
  | .str s => isName s
  | _ => false
theorem nameB_ok {n : Nat} {d : D} (h : pl n d = true) : isNameD d = some (isNameB d) := by
  cases d with
  | str s =>
    have h' : decide (s.length ≤ 100000) = true := by cases n <;> exact h
    exact if_pos (sz_of (of_decide_eq_true h'))
  | bag => cases n <;> cases h
  | ins _ _ => cases n <;> cases h
  | dk _ => cases n <;> cases h
  | dt _ => cases n <;> cases h
  | exc _ _ => cases n <;> cases h
  | fn _ _ => cases n <;> cases h
  | typ _ => cases n <;> cases h
  | _ => rfl
/-! ### is_integer_value -/
def w_is_integer_value  : WS :=
    (wsRet (wAndV (wIsi .int (wVar 0)) (wNotV (wIsi .bool (wVar 0)))))
def isIntB : D → Bool
  | .int _ => true
  | _ => false
def F_iv : FT := fun ds P _ => ∃ d n, ds = [d] ∧ pl n d = true ∧ P (.bl (isIntB d))
theorem pure_iv (ds : List D) (P : D → Prop) (R : DX → Prop) (_ : ds.length = 1) (h : F_iv ds P R) : w_is_integer_value (startE 1 ds) { nx := fun _ => P .non, rt := P, ex := fun x _ => R x } := by
  obtain ⟨d, n, rfl, hd, hP⟩ := h
  cases d <;> first | exact hP | (cases n <;> cases hd)
/-! ### is_end -/
def w_is_end (F_is_name : FT) : WS :=
    (wsRet (wOrV (wCall (fun ds P R => ds.length = 1 ∧ F_is_name ds P R) [] (wCons (wVar 0) wNil)) (wAndV (wIsi .str (wVar 0)) (wOp rdEq (wVar 0) (wC (.str "ground"))))))
def isEndB : D → Bool
  | .str s => isName s || decide (s = groundS)
  | _ => false
def F_is_end : FT := fun ds P _ => ∃ d n, ds = [d] ∧ pl n d = true ∧ P (.bl (isEndB d))
theorem pure_is_end (ds : List D) (P : D → Prop) (R : DX → Prop) (_ : ds.length = 1) (h : F_is_end ds P R) : w_is_end F_is_name (startE 1 ds) { nx := fun _ => P .non, rt := P, ex := fun x _ => R x } := by
  obtain ⟨d, n, rfl, hd, hP⟩ := h
  refine ⟨rfl, d, isNameB d, rfl, nameB_ok hd, ?_⟩
  cases d with
  | str s =>
    show match D.bl (isName s) with | .bl true => _ | .bl false => _ | _ => _
    have hP' : P (.bl (isName s || decide (s = groundS))) := hP
    cases e : isName s with
    | true => rw [e] at hP'; exact hP'
    | false =>
      rw [e] at hP'
      exact hP'
  | bag => cases n <;> cases hd
  | ins _ _ => cases n <;> cases hd
  | dk _ => cases n <;> cases hd
  | dt _ => cases n <;> cases hd
  | exc _ _ => cases n <;> cases hd
  | fn _ _ => cases n <;> cases hd
  | typ _ => cases n <;> cases hd
  | _ => exact hP
/-- all(f(x) for the items), f's answer a bool that f tells -/
theorem lc_all {F : FT} {i : Nat} {f : D → Bool} {env : En} {P : D → En → Prop} {R : QX} {l : List D} {wi : WA} (hl : l.length ≤ 100000) (hi : i < env.length) (hwi : ∀ Pk : List D → En → Prop, Pk l env → wi env Pk R) (hF : ∀ x ∈ l, ∀ Q R, Q (.bl (f x)) → F [x] Q R)
    (hP : P (.bl (l.all f)) (backE env env [i])) : wCB rdAll (wCons (wLc [i] wi (wgName i) wYes (wCall (fun ds P R => ds.length = 1 ∧ F ds P R) [] (wCons (wVar i) wNil))) wNil) env P R := by
  show wLc [i] wi (wgName i) wYes _ env (fun d e => rdAll [d] fun z => P z e) R
  refine wLc_in (fun ds => ds = l) (fun x d => d = .bl (f x)) (fun Pk h => hwi _ (h _ rfl)) (fun ds h => by rw [h]; exact hl) (fun ds h x hx Pk hk => ?_) (fun ds out h ho => ?_)
  · subst h
    have hlen : i < (wipeE env [i]).length := by rw [wipeE_length]; exact hi
    have e : ((wipeE env [i]).set i (.v x))[i]? = some (.v x) := by rw [List.getElem?_set, if_pos rfl, if_pos hlen]
    dsimp only [wgName, wCall, wCons, wVar, wNil]
    rw [e]
    refine ⟨rfl, hF x hx _ _ (hk _ _ rfl ?_)⟩
    show ((((env.set i .no).set i (.v x)).set i .no) : En) = (env.set i .no)
    rw [List.set_set, List.set_set]
  · subst h
    have key : ∀ {l out : List D}, Rels (fun x d => d = .bl (f x)) l out → bools out = some (l.map f) := by
      intro l out h
      rw [h.eq_map]
      exact bools_map f l
    refine ⟨_, key ho, ?_⟩
    rw [List.all_map]
    exact hP
/-! ### are_places -/
def w_are_places (F_is_end : FT) : WS :=
    (wsSeq (wsIf (wOr (wNot (wTest (wIsi .tuple (wVar 1)))) (wTest (wOp rdNe (wCB rdLen (wCons (wVar 1) wNil)) (wKD [("tie", 2), ("oneway", 2), ("gate", 4), ("push", 1), ("keep", 1)] (wVar 0))))) (wsRet (wC (.bl false))) wsNext)
    (wsSeq (wsIf (wNot (wTest (wCB rdAll (wCons (wLc [2] (wIt (wVar 1)) (wgName 2) wYes (wCall (fun ds P R => ds.length = 1 ∧ F_is_end ds P R) [] (wCons (wVar 2) wNil))) wNil)))) (wsRet (wC (.bl false))) wsNext)
    (wsSeq (wsIf (wTest (wOp (rdIn false) (wVar 0) (wLst (wCons (wC (.str "push")) (wCons (wC (.str "keep")) wNil))))) (wsRet (wOp rdNe (wOp rdIx (wVar 1) (wC (.int 0))) (wC (.str "ground")))) wsNext)
    (wsSeq (wsIf (wOr (wTest (wOp rdEq (wOp rdIx (wVar 1) (wC (.int 0))) (wOp rdIx (wVar 1) (wC (.int 1))))) (wAnd (wTest (wOp rdEq (wVar 0) (wC (.str "oneway")))) (wTest (wOp rdEq (wOp rdIx (wVar 1) (wC (.int 0))) (wC (.str "ground")))))) (wsRet (wC (.bl false))) wsNext)
    (wsRet (wOrV (wOp rdNe (wVar 0) (wC (.str "gate"))) (wOp rdNe (wOp rdIx (wVar 1) (wC (.int 2))) (wOp rdIx (wVar 1) (wC (.int 3))))))))))
inductive Kind where
  | tie | oneway | gate | push | keep
def Kind.nm : Kind → Str
  | .tie => "tie" | .oneway => "oneway" | .gate => "gate" | .push => "push" | .keep => "keep"
def Kind.size : Kind → Nat
  | .tie => 2 | .oneway => 2 | .gate => 4 | .push => 1 | .keep => 1
/-- the ends of a part of a kind -/
def endsOk (k : Kind) (l : List D) : Bool := match k, l with
  | .tie, [.str a, .str b] => isEndB (.str a) && isEndB (.str b) && !decide (a = b)
  | .oneway, [.str a, .str b] => isEndB (.str a) && isEndB (.str b) && (!decide (a = b) && !decide (a = groundS))
  | .gate, [.str a, .str b, .str c, .str d] => isEndB (.str a) && isEndB (.str b) && isEndB (.str c) && isEndB (.str d) && (!decide (a = b) && !decide (c = d))
  | .push, [.str a] => isEndB (.str a) && !decide (a = groundS)
  | .keep, [.str a] => isEndB (.str a) && !decide (a = groundS)
  | _, _ => false
def placesB (k : Kind) : D → Bool
  | .tup l => endsOk k l
  | _ => false
def F_are_places : FT := fun ds P _ => ∃ k d n, ds = [.str (Kind.nm k), d] ∧ pl n d = true ∧ P (.bl (placesB k d))
theorem end_str {d : D} (h : isEndB d = true) : ∃ s, d = .str s := by
  cases d <;> first | cases h | exact ⟨_, rfl⟩
theorem kd_size (k : Kind) : (Kind.nm k, (Kind.size k : Int)) ∈ ([("tie", 2), ("oneway", 2), ("gate", 4), ("push", 1), ("keep", 1)] : List (Str × Int)) := by
  cases k <;> simp [Kind.nm, Kind.size]
theorem rdNe_int {i j : Int} {P : D → Prop} (h : P (.bl (!decide (i = j)))) : rdNe (.int i) (.int j) P := h
theorem endsOk_len {k : Kind} {l : List D} (z : ¬ l.length = Kind.size k) : endsOk k l = false := by
  cases h : endsOk k l with
  | false => rfl
  | true =>
    refine absurd ?_ z
    cases k <;> unfold endsOk at h <;> split at h <;> first | rfl | cases h | simp_all
theorem endsOk_end {k : Kind} {l : List D} (z : l.all isEndB = false) : endsOk k l = false := by
  cases h : endsOk k l with
  | false => rfl
  | true =>
    refine absurd z ?_
    cases k <;> unfold endsOk at h <;> split at h <;> first | cases h | skip
    all_goals simp_all
theorem pure_are_places (ds : List D) (P : D → Prop) (R : DX → Prop) (_ : ds.length = 2) (h : F_are_places ds P R) : w_are_places F_is_end (startE 3 ds) { nx := fun _ => P .non, rt := P, ex := fun x _ => R x } := by
  obtain ⟨k, d, n, rfl, hd, hP⟩ := h
  cases d with
  | bag => cases n <;> cases hd
  | ins _ _ => cases n <;> cases hd
  | dk _ => cases n <;> cases hd
  | dt _ => cases n <;> cases hd
  | exc _ _ => cases n <;> cases hd
  | fn _ _ => cases n <;> cases hd
  | typ _ => cases n <;> cases hd
  | tup l =>
    obtain ⟨m, rfl, hl, hx⟩ := pl_tup hd
    have hP' : P (.bl (endsOk k l)) := hP
    -- the number of places
    refine st_ifN (!decide (l.length = Kind.size k)) (fun Pk h => ⟨(Kind.size k : Int), kd_size k, rdNe_int ?_⟩) (fun h => ?_) (fun h => ?_)
    · have e : decide ((l.length : Int) = (Kind.size k : Int)) = decide (l.length = Kind.size k) := by
        by_cases z : l.length = Kind.size k
        · rw [decide_eq_true z, decide_eq_true (by omega)]
        · rw [decide_eq_false z, decide_eq_false (by omega)]
      rw [e]
      exact h
    · have z : ¬ l.length = Kind.size k := by
        intro z
        rw [decide_eq_true z] at h
        cases h
      have e : endsOk k l = false := endsOk_len z
      rw [e] at hP'
      exact hP'
    have z : l.length = Kind.size k := by
      cases e : decide (l.length = Kind.size k) with
      | true => exact of_decide_eq_true e
      | false => rw [e] at h; cases h
    -- all of them ends
    refine st_ifN (!l.all isEndB) (fun Pk h => ?_) (fun h => ?_) (fun h => ?_)
    · refine lc_all (f := isEndB) (i := 2) (l := l) hl (by show 2 < 3; decide) (fun Pk h => h) (fun x hx' Q R q => ⟨x, m, rfl, hx x hx', q⟩) ?_
      exact h
    · have h' : l.all isEndB = false := by
        cases e : l.all isEndB with
        | true => rw [e] at h; cases h
        | false => rfl
      have e : endsOk k l = false := endsOk_end h'
      rw [e] at hP'
      exact hP'
    have h' : l.all isEndB = true := by
      cases e : l.all isEndB with
      | true => rfl
      | false => rw [e] at h; cases h
    cases k with
    | tie =>
      match l, z, h', hP' with
      | [x, y], _, h', hP' =>
        simp only [List.all_cons, List.all_nil, Bool.and_true, Bool.and_eq_true] at h'
        obtain ⟨a, rfl⟩ := end_str h'.1
        obtain ⟨b, rfl⟩ := end_str h'.2
        have hP2 : P (.bl (isEndB (.str a) && isEndB (.str b) && !decide (a = b))) := hP'
        rw [h'.1, h'.2] at hP2
        refine st_ifN false (fun Pk h => ⟨(by show (2 : Nat) ≤ sizeLine; decide), rfl, rfl, h⟩) (fun h => nomatch h) (fun _ => ?_)
        refine st_ifN (decide (a = b)) (fun Pk h => ⟨_, rfl, _, rfl, ?_⟩) (fun h => ?_) (fun h => ?_)
        · show match decide (a = b) with | true => Pk true _ | false => _
          cases e : decide (a = b) with
          | true => rw [e] at h; exact h
          | false => rw [e] at h; exact h
        · rw [h] at hP2
          exact hP2
        · rw [h] at hP2
          exact hP2
    | oneway =>
      match l, z, h', hP' with
      | [x, y], _, h', hP' =>
        simp only [List.all_cons, List.all_nil, Bool.and_true, Bool.and_eq_true] at h'
        obtain ⟨a, rfl⟩ := end_str h'.1
        obtain ⟨b, rfl⟩ := end_str h'.2
        have hP2 : P (.bl (isEndB (.str a) && isEndB (.str b) && (!decide (a = b) && !decide (a = groundS)))) := hP'
        rw [h'.1, h'.2] at hP2
        refine st_ifN false (fun Pk h => ⟨(by show (2 : Nat) ≤ sizeLine; decide), rfl, rfl, h⟩) (fun h => nomatch h) (fun _ => ?_)
        refine st_ifN (decide (a = b) || decide (a = groundS)) (fun Pk h => ⟨_, rfl, _, rfl, ?_⟩) (fun h => ?_) (fun h => ?_)
        · show match decide (a = b) with | true => Pk true _ | false => _
          cases e : decide (a = b) with
          | true => rw [e] at h; exact h
          | false =>
            rw [e] at h
            exact ⟨_, rfl, h⟩
        · have e : (!decide (a = b) && !decide (a = groundS)) = false := by rw [← Bool.not_or, h]; rfl
          rw [e] at hP2
          exact hP2
        · have e : (!decide (a = b) && !decide (a = groundS)) = true := by rw [← Bool.not_or, h]; rfl
          rw [e] at hP2
          exact hP2
    | gate =>
      match l, z, h', hP' with
      | [x, y, u, v], _, h', hP' =>
        simp only [List.all_cons, List.all_nil, Bool.and_true, Bool.and_eq_true] at h'
        obtain ⟨a, rfl⟩ := end_str h'.1
        obtain ⟨b, rfl⟩ := end_str h'.2.1
        obtain ⟨c, rfl⟩ := end_str h'.2.2.1
        obtain ⟨d, rfl⟩ := end_str h'.2.2.2
        have hP2 : P (.bl (isEndB (.str a) && isEndB (.str b) && isEndB (.str c) && isEndB (.str d) && (!decide (a = b) && !decide (c = d)))) := hP'
        rw [h'.1, h'.2.1, h'.2.2.1, h'.2.2.2] at hP2
        refine st_ifN false (fun Pk h => ⟨(by show (2 : Nat) ≤ sizeLine; decide), rfl, rfl, h⟩) (fun h => nomatch h) (fun _ => ?_)
        refine st_ifN (decide (a = b)) (fun Pk h => ⟨_, rfl, _, rfl, ?_⟩) (fun h => ?_) (fun h => ?_)
        · show match decide (a = b) with | true => Pk true _ | false => _
          cases e : decide (a = b) with
          | true => rw [e] at h; exact h
          | false => rw [e] at h; exact h
        · rw [h] at hP2
          exact hP2
        · rw [h] at hP2
          exact ⟨_, rfl, _, rfl, hP2⟩
    | push =>
      match l, z, h', hP' with
      | [x], _, h', hP' =>
        simp only [List.all_cons, List.all_nil, Bool.and_true] at h'
        obtain ⟨a, rfl⟩ := end_str h'
        have hP2 : P (.bl (isEndB (.str a) && !decide (a = groundS))) := hP'
        rw [h'] at hP2
        refine st_ifN true (fun Pk h => ⟨(by show (2 : Nat) ≤ sizeLine; decide), rfl, rfl, h⟩) (fun _ => ?_) (fun h => nomatch h)
        exact ⟨_, rfl, hP2⟩
    | keep =>
      match l, z, h', hP' with
      | [x], _, h', hP' =>
        simp only [List.all_cons, List.all_nil, Bool.and_true] at h'
        obtain ⟨a, rfl⟩ := end_str h'
        have hP2 : P (.bl (isEndB (.str a) && !decide (a = groundS))) := hP'
        rw [h'] at hP2
        refine st_ifN true (fun Pk h => ⟨(by show (2 : Nat) ≤ sizeLine; decide), rfl, rfl, h⟩) (fun _ => ?_) (fun h => nomatch h)
        exact ⟨_, rfl, hP2⟩
  | _ => exact hP
/-! ### is_pair, allows -/
def w_is_pair (F_is_integer_value : FT) : WS :=
    (wsSeq (wsIf (wOr (wNot (wTest (wIsi .tuple (wVar 0)))) (wTest (wOp rdNe (wCB rdLen (wCons (wVar 0) wNil)) (wC (.int 2))))) (wsRet (wC (.bl false))) wsNext)
    (wsSeq (wsIf (wNot (wTest (wCB rdAll (wCons (wLc [1] (wIt (wVar 0)) (wgName 1) wYes (wCall (fun ds P R => ds.length = 1 ∧ F_is_integer_value ds P R) [] (wCons (wVar 1) wNil))) wNil)))) (wsRet (wC (.bl false))) wsNext)
    (wsRet (wChain3 rdLe rdLt rdLe (wC (.int 1)) (wOp rdIx (wVar 0) (wC (.int 0))) (wOp rdIx (wVar 0) (wC (.int 1))) (wC (.int 1000))))))
def isPairB : D → Bool
  | .tup [.int a, .int b] => decide (1 ≤ a) && (decide (a < b) && decide (b ≤ 1000))
  | _ => false
def F_is_pair : FT := fun ds P _ => ∃ d n, ds = [d] ∧ pl n d = true ∧ P (.bl (isPairB d))
theorem int_of {d : D} (h : isIntB d = true) : ∃ s, d = .int s := by
  cases d <;> first | exact ⟨_, rfl⟩ | cases h
theorem isPairB_len {l : List D} (z : ¬ l.length = 2) : isPairB (.tup l) = false := by
  cases h : isPairB (.tup l) with
  | false => rfl
  | true =>
    refine absurd ?_ z
    unfold isPairB at h
    split at h <;> first | cases h | simp_all
theorem isPairB_int {l : List D} (z : l.all isIntB = false) : isPairB (.tup l) = false := by
  cases h : isPairB (.tup l) with
  | false => rfl
  | true =>
    refine absurd z ?_
    unfold isPairB at h
    split at h <;> first | cases h | skip
    all_goals simp_all [isIntB]
theorem pure_is_pair (ds : List D) (P : D → Prop) (R : DX → Prop) (_ : ds.length = 1) (h : F_is_pair ds P R) : w_is_pair F_iv (startE 2 ds) { nx := fun _ => P .non, rt := P, ex := fun x _ => R x } := by
  obtain ⟨d, n, rfl, hd, hP⟩ := h
  cases d with
  | bag => cases n <;> cases hd
  | ins _ _ => cases n <;> cases hd
  | dk _ => cases n <;> cases hd
  | dt _ => cases n <;> cases hd
  | exc _ _ => cases n <;> cases hd
  | fn _ _ => cases n <;> cases hd
  | typ _ => cases n <;> cases hd
  | tup l =>
    obtain ⟨m, rfl, hl, hx⟩ := pl_tup hd
    refine st_ifN (!decide (l.length = 2)) (fun Pk h => ?_) (fun h => ?_) (fun h => ?_)
    · show Pk (!decide ((l.length : Int) = 2)) _
      have e : decide ((l.length : Int) = 2) = decide (l.length = 2) := by
        by_cases z : l.length = 2
        · rw [decide_eq_true z, decide_eq_true (by omega)]
        · rw [decide_eq_false z, decide_eq_false (by omega)]
      rw [e]
      exact h
    · have z : ¬ l.length = 2 := by
        intro z
        rw [decide_eq_true z] at h
        cases h
      rw [isPairB_len z] at hP
      exact hP
    have z : l.length = 2 := by
      cases e : decide (l.length = 2) with
      | true => exact of_decide_eq_true e
      | false => rw [e] at h; cases h
    refine st_ifN (!l.all isIntB) (fun Pk h => ?_) (fun h => ?_) (fun h => ?_)
    · refine lc_all (f := isIntB) (i := 1) (l := l) hl (by show 1 < 2; decide) (fun Pk h => h) (fun x hx' Q R q => ⟨x, m, rfl, hx x hx', q⟩) ?_
      exact h
    · have h' : l.all isIntB = false := by
        cases e : l.all isIntB with
        | true => rw [e] at h; cases h
        | false => rfl
      rw [isPairB_int h'] at hP
      exact hP
    have h' : l.all isIntB = true := by
      cases e : l.all isIntB with
      | true => rfl
      | false => rw [e] at h; cases h
    match l, z, h', hP with
    | [x, y], _, h', hP =>
      simp only [List.all_cons, List.all_nil, Bool.and_true, Bool.and_eq_true] at h'
      obtain ⟨a, rfl⟩ := int_of h'.1
      obtain ⟨b, rfl⟩ := int_of h'.2
      have hP2 : P (.bl (decide (1 ≤ a) && (decide (a < b) && decide (b ≤ 1000)))) := hP
      refine ⟨_, rfl, trivial, ?_⟩
      show match D.bl (decide (1 ≤ a)) with | .bl true => _ | .bl false => P (.bl false) | _ => False
      cases e1 : decide (1 ≤ a) with
      | false => rw [e1] at hP2; exact hP2
      | true =>
        rw [e1] at hP2
        refine ⟨_, rfl, trivial, ?_⟩
        show match D.bl (decide (a < b)) with | .bl true => _ | .bl false => P (.bl false) | _ => False
        cases e2 : decide (a < b) with
        | false => rw [e2] at hP2; exact hP2
        | true =>
          rw [e2] at hP2
          exact ⟨trivial, hP2⟩
  | _ => exact hP
def w_allows (F_is_integer_value : FT) : WS :=
    (wsSeq (wsSet 2 (wIf (wTest (wOp (rdIn false) (wVar 0) (wLst (wCons (wC (.str "push")) (wCons (wC (.str "keep")) wNil))))) (wNeg (wC (.int 1000))) (wC (.int 0))))
    (wsRet (wAndV (wCall (fun ds P R => ds.length = 1 ∧ F_is_integer_value ds P R) [] (wCons (wVar 1) wNil)) (wChain rdLe rdLe (wVar 2) (wVar 1) (wC (.int 1000))))))
def Kind.least : Kind → Int
  | .push => -1000
  | .keep => -1000
  | _ => 0
def allowsB (k : Kind) : D → Bool
  | .int i => decide (k.least ≤ i) && decide (i ≤ 1000)
  | _ => false
def F_allows : FT := fun ds P _ => ∃ k d n, ds = [.str (Kind.nm k), d] ∧ pl n d = true ∧ P (.bl (allowsB k d))
theorem pure_allows (ds : List D) (P : D → Prop) (R : DX → Prop) (_ : ds.length = 2) (h : F_allows ds P R) : w_allows F_iv (startE 3 ds) { nx := fun _ => P .non, rt := P, ex := fun x _ => R x } := by
  obtain ⟨k, d, n, rfl, hd, hP⟩ := h
  refine st_set (fun x => x = .int k.least) (fun Pk h => ?_) (fun x hx => ?_)
  · have q := h _ rfl
    cases k <;> exact ⟨(by show (2 : Nat) ≤ sizeLine; decide), rfl, rfl, q⟩
  subst hx
  refine ⟨rfl, d, n, rfl, hd, ?_⟩
  cases d with
  | int i =>
    have hP2 : P (.bl (decide (k.least ≤ i) && decide (i ≤ 1000))) := hP
    refine ⟨trivial, ?_⟩
    show match D.bl (decide (k.least ≤ i)) with | .bl true => _ | .bl false => P (.bl false) | _ => False
    cases e1 : decide (k.least ≤ i) with
    | false => rw [e1] at hP2; exact hP2
    | true => rw [e1] at hP2; exact ⟨trivial, hP2⟩
  | _ => exact hP
/-! ### is_part -/
def w_is_part (F_allows : FT) (F_are_places : FT) (F_is_name : FT) (F_is_pair : FT) : WS :=
    (wsSeq (wsIf (wOr (wNot (wTest (wIsi .tuple (wVar 0)))) (wTest (wOp rdNe (wCB rdLen (wCons (wVar 0) wNil)) (wC (.int 4))))) (wsRet (wC (.bl false))) wsNext)
    (wsSeq (wsAsg (wVar 0) (wgTup 4 (wgCons (wgName 1) (wgCons (wgName 2) (wgCons (wgName 3) (wgCons (wgName 4) wgNil))))))
    (wsSeq (wsIf (wOr (wNot (wTest (wCall (fun ds P R => ds.length = 1 ∧ F_is_name ds P R) [] (wCons (wVar 1) wNil)))) (wOr (wNot (wTest (wIsi .str (wVar 2)))) (wTest (wOp (rdIn true) (wVar 2) (wC (.tup [.str "tie", .str "oneway", .str "gate", .str "push", .str "keep"])))))) (wsRet (wC (.bl false))) wsNext)
    (wsSeq (wsIf (wNot (wTest (wCall (fun ds P R => ds.length = 2 ∧ F_are_places ds P R) [] (wCons (wVar 2) (wCons (wVar 3) wNil))))) (wsRet (wC (.bl false))) wsNext)
    (wsSeq (wsIf (wAnd (wTest (wOp rdNe (wVar 2) (wC (.str "keep")))) (wOr (wTest (wOp rdIs (wVar 4) (wC .non))) (wTest (wCall (fun ds P R => ds.length = 1 ∧ F_is_pair ds P R) [] (wCons (wVar 4) wNil))))) (wsRet (wC (.bl true))) wsNext)
    (wsRet (wCall (fun ds P R => ds.length = 2 ∧ F_allows ds P R) [] (wCons (wVar 2) (wCons (wVar 4) wNil)))))))))
def kindOf (s : Str) : Option Kind := if s = Kind.nm .tie then some .tie else if s = Kind.nm .oneway then some .oneway else if s = Kind.nm .gate then some .gate else if s = Kind.nm .push then some .push else if s = Kind.nm .keep then some .keep else none
def kindOpen (k : Kind) (strength : D) : Bool := match k with
  | .keep => false
  | _ => isNon strength || isPairB strength
def strengthB (k : Kind) (d : D) : Bool := kindOpen k d || allowsB k d
def restB (k : Option Kind) (places strength : D) : Bool := match k with
  | some k => placesB k places && strengthB k strength
  | none => false
def isPartB : D → Bool
  | .tup [name, .str kind, places, strength] => isNameB name && restB (kindOf kind) places strength
  | _ => false
theorem isPartB_str {name places strength : D} {s : Str} : isPartB (.tup [name, .str s, places, strength]) = (isNameB name && restB (kindOf s) places strength) := rfl
def kindBad : D → Bool
  | .str s => (kindOf s).isNone
  | _ => true
theorem st_tup4 {i j k n : Nat} {w : WE} {b : WS} {env : En} {K : EnD} {x y u v : D} (hw : ∀ Pk : D → En → Prop, Pk (.tup [x, y, u, v]) env → w env Pk K.ex) (hb : b ((((env.set i (.v x)).set j (.v y)).set k (.v u)).set n (.v v)) K) : wsSeq (wsAsg w (wgTup 4 (wgCons (wgName i) (wgCons (wgName j) (wgCons (wgName k) (wgCons (wgName n) wgNil)))))) b env K := hw _ ⟨rfl, hb⟩
def F_is_part : FT := fun ds P _ => ∃ d n, ds = [d] ∧ pl n d = true ∧ P (.bl (isPartB d))
theorem kindOf_some {s : Str} {k : Kind} (h : kindOf s = some k) : s = Kind.nm k := by
  unfold kindOf at h
  repeat (split at h; (cases h; assumption))
  cases h
theorem kindOf_none {s : Str} (h : kindOf s = none) : inD (.str s) [.str "tie", .str "oneway", .str "gate", .str "push", .str "keep"] = false := by
  unfold kindOf at h
  split at h
  · cases h
  split at h
  · cases h
  split at h
  · cases h
  split at h
  · cases h
  split at h
  · cases h
  rename_i h1 h2 h3 h4 h5
  have ne : ∀ t : Str, ¬ s = t → eqF (.str t) (.str s) = false := fun t h => by
    show (t == s) = false
    simpa using fun z => h z.symm
  show (eqF (.str (Kind.nm .tie)) (.str s) || (eqF (.str (Kind.nm .oneway)) (.str s) || (eqF (.str (Kind.nm .gate)) (.str s) || (eqF (.str (Kind.nm .push)) (.str s) || (eqF (.str (Kind.nm .keep)) (.str s) || false))))) = false
  rw [ne _ h1, ne _ h2, ne _ h3, ne _ h4, ne _ h5]
  rfl
theorem kind_in (k : Kind) : inD (.str (Kind.nm k)) [.str "tie", .str "oneway", .str "gate", .str "push", .str "keep"] = true := by
  cases k <;> rfl
theorem pure_is_part (ds : List D) (P : D → Prop) (R : DX → Prop) (_ : ds.length = 1) (h : F_is_part ds P R) : w_is_part F_allows F_are_places F_is_name F_is_pair (startE 5 ds) { nx := fun _ => P .non, rt := P, ex := fun x _ => R x } := by
  obtain ⟨d, n, rfl, hd, hP⟩ := h
  cases d with
  | bag => cases n <;> cases hd
  | ins _ _ => cases n <;> cases hd
  | dk _ => cases n <;> cases hd
  | dt _ => cases n <;> cases hd
  | exc _ _ => cases n <;> cases hd
  | fn _ _ => cases n <;> cases hd
  | typ _ => cases n <;> cases hd
  | tup l =>
    obtain ⟨m, rfl, hl, hx⟩ := pl_tup hd
    refine st_ifN (!decide (l.length = 4)) (fun Pk h => ?_) (fun h => ?_) (fun h => ?_)
    · show Pk (!decide ((l.length : Int) = 4)) _
      have e : decide ((l.length : Int) = 4) = decide (l.length = 4) := by
        by_cases z : l.length = 4
        · rw [decide_eq_true z, decide_eq_true (by omega)]
        · rw [decide_eq_false z, decide_eq_false (by omega)]
      rw [e]
      exact h
    · have z : ¬ l.length = 4 := by
        intro z
        rw [decide_eq_true z] at h
        cases h
      have e : isPartB (.tup l) = false := by
        cases h : isPartB (.tup l) with
        | false => rfl
        | true =>
          refine absurd ?_ z
          unfold isPartB at h
          split at h <;> first | cases h | simp_all
      rw [e] at hP
      exact hP
    have z : l.length = 4 := by
      cases e : decide (l.length = 4) with
      | true => exact of_decide_eq_true e
      | false => rw [e] at h; cases h
    match l, z, hx, hP with
    | [name, kind, places, strength], _, hx, hP =>
      have x1 := hx name (by simp)
      have x2 := hx kind (by simp)
      have x3 := hx places (by simp)
      have x4 := hx strength (by simp)
      refine st_tup4 (fun Pk h => h) ?_
      refine st_ifN (!(isNameB name) || kindBad kind) (env := [.v (.tup [name, kind, places, strength]), .v name, .v kind, .v places, .v strength]) (fun Pk h => ?_) (fun h => ?_) (fun h => ?_)
      · refine ⟨rfl, name, isNameB name, rfl, nameB_ok x1, ?_⟩
        show match !isNameB name with | true => Pk true _ | false => _
        cases e : isNameB name with
        | false => rw [e] at h; exact h
        | true =>
          rw [e] at h
          cases kind with
          | bag => cases m <;> cases x2
          | ins _ _ => cases m <;> cases x2
          | dk _ => cases m <;> cases x2
          | dt _ => cases m <;> cases x2
          | exc _ _ => cases m <;> cases x2
          | fn _ _ => cases m <;> cases x2
          | typ _ => cases m <;> cases x2
          | str s =>
            refine ⟨rfl, rfl, ?_⟩
            have h' : Pk (kindOf s).isNone _ := h
            show Pk (!inD (.str s) [.str "tie", .str "oneway", .str "gate", .str "push", .str "keep"]) _
            cases e2 : kindOf s with
            | none => rw [kindOf_none e2]; rw [e2] at h'; exact h'
            | some k => rw [kindOf_some e2, kind_in]; rw [e2] at h'; rw [← kindOf_some e2]; exact h'
          | _ => exact h
      · have e : isPartB (.tup [name, kind, places, strength]) = false := by
          cases e1 : isNameB name with
          | false => cases kind <;> first | rfl | (rw [isPartB_str, e1, Bool.false_and])
          | true =>
            rw [e1] at h
            cases kind with
            | str s =>
              have h' : (kindOf s).isNone = true := h
              rw [isPartB_str]
              cases e2 : kindOf s with
              | none => exact Bool.and_false _
              | some k => rw [e2] at h'; cases h'
            | _ => rfl
        rw [e] at hP
        exact hP
      cases e1 : isNameB name with
      | false => rw [e1] at h; cases h
      | true =>
      cases kind with
      | str s =>
        cases e2 : kindOf s with
        | none =>
          rw [e1] at h
          have h' : (kindOf s).isNone = false := h
          rw [e2] at h'
          cases h'
        | some k =>
          have es := kindOf_some e2
          subst es
          have hP2 : P (.bl (placesB k places && strengthB k strength)) := by
            have hP3 : P (.bl (isNameB name && restB (kindOf (Kind.nm k)) places strength)) := hP
            rw [e1, e2] at hP3
            exact hP3
          refine st_ifN (!placesB k places) (fun Pk h => ⟨rfl, k, places, m, rfl, x3, h⟩) (fun h => ?_) (fun h => ?_)
          · cases e3 : placesB k places with
            | true => rw [e3] at h; cases h
            | false => rw [e3] at hP2; exact hP2
          cases e3 : placesB k places with
          | false => rw [e3] at h; cases h
          | true =>
          rw [e3] at hP2
          have hP4 : P (.bl (strengthB k strength)) := hP2
          refine st_ifN (kindOpen k strength) (fun Pk h => ?_) (fun h => ?_) (fun h => ?_)
          · have go : ∀ e0 : En, Pk (isNon strength || isPairB strength) e0 → (match isNon strength with | true => Pk true e0 | false => (([strength] : List D).length = 1 ∧ F_is_pair [strength] (fun d => match d with | .bl k => Pk k e0 | _ => False) fun x => R x)) := by
              intro e0 h
              cases e4 : isNon strength with
              | true => rw [e4] at h; exact h
              | false => rw [e4] at h; exact ⟨rfl, strength, m, rfl, x4, h⟩
            cases k with
            | keep => exact h
            | tie => exact go _ h
            | oneway => exact go _ h
            | gate => exact go _ h
            | push => exact go _ h
          · have e5 : strengthB k strength = true := by
              unfold strengthB; rw [h, Bool.true_or]
            rw [e5] at hP4
            exact hP4
          · refine ⟨rfl, k, strength, m, rfl, x4, ?_⟩
            have e5 : strengthB k strength = allowsB k strength := by
              unfold strengthB; rw [h, Bool.false_or]
            rw [e5] at hP4
            exact hP4
      | _ => rw [e1] at h; cases h
  | _ => exact hP
end Pu
set_option maxRecDepth 100000
/-! Drawn parts, over data -/
namespace Pu
open PySem L2 PySem.Spec PyProof.Rows
/-- a comprehension of the items themselves, with a test -/
theorem lcL_filter {i : Nat} {f : D → Bool} {wt : WT} {w0 : En} (hi : i < w0.length) (h0 : w0.set i .no = w0) : ∀ (l acc : List D) (env : En) (P : List D → En → Prop), wipeE env [i] = w0 →
    (∀ x ∈ l, ∀ Pk : Bool → En → Prop, Pk (f x) (w0.set i (.v x)) → wt (w0.set i (.v x)) Pk fun _ _ => False) →
    (∀ e', wipeE e' [i] = w0 → P (acc ++ l.filter f) e') → wLcL (wgName i) wt (wVar i) [i] l acc env P
  | [], acc, env, P, he, _, hP => by
    have q := hP env he
    rw [List.filter_nil, List.append_nil] at q
    exact q
  | x :: xs, acc, env, P, he, ht, hP => by
    show wt ((wipeE env [i]).set i (.v x)) _ _
    rw [he]
    have back : wipeE (w0.set i (.v x)) [i] = w0 := by
      show (w0.set i (.v x)).set i .no = w0
      rw [List.set_set, h0]
    refine ht x List.mem_cons_self _ ?_
    have ht' := fun y hy => ht y (List.mem_cons_of_mem x hy)
    cases e : f x with
    | true =>
      have e1 : (w0.set i (.v x))[i]? = some (.v x) := by rw [List.getElem?_set, if_pos rfl, if_pos hi]
      show wVar i (w0.set i (.v x)) _ _
      dsimp only [wVar]
      rw [e1]
      refine lcL_filter hi h0 xs (acc ++ [x]) _ P back ht' fun e' h' => ?_
      have q := hP e' h'
      rw [List.filter_cons_of_pos (by exact e)] at q
      rw [List.append_assoc]
      exact q
    | false =>
      refine lcL_filter hi h0 xs acc _ P back ht' fun e' h' => ?_
      have q := hP e' h'
      rw [List.filter_cons_of_neg (by rw [e]; exact Bool.false_ne_true)] at q
      exact q
/-- its reading -/
theorem wLc_filter {i : Nat} {f : D → Bool} {wt : WT} {env : En} {wi : WA} {P : D → En → Prop} {R : QX} {l : List D} (hi : i < env.length) (hwi : ∀ Pk : List D → En → Prop, Pk l env → wi env Pk R) (hl : l.length ≤ 100000)
    (ht : ∀ x ∈ l, ∀ Pk : Bool → En → Prop, Pk (f x) ((env.set i .no).set i (.v x)) → wt ((env.set i .no).set i (.v x)) Pk fun _ _ => False)
    (hP : P (.lst (l.filter f)) (backE env env [i])) : wLc [i] wi (wgName i) wt (wVar i) env P R := by
  refine hwi _ ⟨hl, ?_⟩
  refine lcL_filter (f := f) (w0 := env.set i .no) (by rw [List.length_set]; exact hi) (by rw [List.set_set]) l [] env _ rfl ht fun e' h' => ?_
  have e : backE env e' [i] = backE env env [i] := by
    rw [← backE_wipe env e' [i], h']
    exact backE_wipe env env [i]
  show P (.lst ([] ++ l.filter f)) (backE env e' [i])
  rw [e]
  exact hP
/-! ### the kinds of parts in words of data -/
def Kind.isKeep : Kind → Bool
  | .keep => true
  | _ => false
theorem ne_keep (k : Kind) {P : D → Prop} (h : P (.bl (!k.isKeep))) : rdNe (.str (Kind.nm k)) (.str "keep") P := by
  cases k <;> exact h
theorem t_ne_keep (k : Kind) {i : Nat} {env : En} {P : Bool → En → Prop} {R : QX} (he : env[i]? = some (.v (.str (Kind.nm k)))) (h : P (!k.isKeep) env) : wTest (wOp rdNe (wVar i) (wC (.str "keep"))) env P R := by
  unfold wTest wOp wVar
  rw [he]
  cases k <;> exact h
theorem eqS_str (a b : Str) {P : D → Prop} (h : P (.bl (decide (a = b)))) : rdEq (.str a) (.str b) P := h
theorem neS_str (a b : Str) {P : D → Prop} (h : P (.bl (!decide (a = b)))) : rdNe (.str a) (.str b) P := h
theorem eqS_int (a b : Int) {P : D → Prop} (h : P (.bl (decide (a = b)))) : rdEq (.int a) (.int b) P := h
theorem allows_ok {k : Kind} {n : Int} (h0 : k.least ≤ n) (h1 : n ≤ 1000) : strengthB k (.int n) = true := by
  unfold strengthB
  have : allowsB k (.int n) = true := by
    show (decide (k.least ≤ n) && decide (n ≤ 1000)) = true
    rw [decide_eq_true h0, decide_eq_true h1]
    rfl
  rw [this, Bool.or_true]
theorem least_le (k : Kind) : k.least ≤ 0 := by cases k <;> decide
theorem open_non {k : Kind} (h : k.isKeep = false) : strengthB k .non = true := by cases k <;> first | rfl | cases h
theorem open_pair {k : Kind} (h : k.isKeep = false) {a b : Int} (h0 : 1 ≤ a) (h1 : a < b) (h2 : b ≤ 1000) : strengthB k (.tup [.int a, .int b]) = true := by
  have e : isPairB (.tup [.int a, .int b]) = true := by
    show (decide (1 ≤ a) && (decide (a < b) && decide (b ≤ 1000))) = true
    rw [decide_eq_true h0, decide_eq_true h1, decide_eq_true h2]
    rfl
  have e2 : kindOpen k (.tup [.int a, .int b]) = true := by
    cases k <;> first | exact e | cases h
  unfold strengthB
  rw [e2]
  rfl
/-! ### is_unknown -/
def w_is_unknown  : WS :=
    (wsRet (wOrV (wOp rdIs (wOp rdIx (wVar 0) (wC (.int 3))) (wC .non)) (wIsi .tuple (wOp rdIx (wVar 0) (wC (.int 3))))))
def unkB : D → Bool
  | .non => true
  | .tup _ => true
  | _ => false
def F_is_unknown : FT := fun ds P _ => ∃ a b c s n, ds = [.tup [a, b, c, s]] ∧ pl n s = true ∧ P (.bl (unkB s))
theorem pure_is_unknown (ds : List D) (P : D → Prop) (R : DX → Prop) (_ : ds.length = 1) (h : F_is_unknown ds P R) : w_is_unknown (startE 1 ds) { nx := fun _ => P .non, rt := P, ex := fun x _ => R x } := by
  obtain ⟨a, b, c, s, n, rfl, hd, hP⟩ := h
  refine ⟨s, rfl, ?_⟩
  cases s with
  | bag => cases n <;> cases hd
  | ins _ _ => cases n <;> cases hd
  | dk _ => cases n <;> cases hd
  | dt _ => cases n <;> cases hd
  | exc _ _ => cases n <;> cases hd
  | fn _ _ => cases n <;> cases hd
  | typ _ => cases n <;> cases hd
  | non => exact hP
  | _ => exact ⟨_, rfl, hP⟩
/-! ### a drawn strength -/
def w_law_any_strength (F_law_draw : FT) (F_law_of : FT) : WS :=
    (wsSeq (wsPar 2 3 (wCons (wCall (fun ds P R => ds.length = 2 ∧ F_law_draw ds P R) [] (wCons (wVar 0) (wCons (wC (.int 4)) wNil))) (wCons (wOp rdAdd (wC (.int 1)) (wCall (fun ds P R => ds.length = 2 ∧ F_law_draw ds P R) [] (wCons (wVar 0) (wCons (wCall (fun ds P R => ds.length = 2 ∧ F_law_of ds P R) [] (wCons (wVar 0) (wCons (wLst (wCons (wC (.int 3)) (wCons (wC (.int 999)) wNil))) wNil))) wNil)))) wNil)))
    (wsSeq (wsIf (wAnd (wTest (wOp rdNe (wVar 1) (wC (.str "keep")))) (wTest (wOp rdEq (wVar 2) (wC (.int 0))))) (wsRet (wC .non)) wsNext)
    (wsSeq (wsIf (wAnd (wTest (wOp rdNe (wVar 1) (wC (.str "keep")))) (wTest (wOp rdEq (wVar 2) (wC (.int 1))))) (wsRet (wTup (wCons (wVar 3) (wCons (wOp rdAdd (wOp rdAdd (wVar 3) (wC (.int 1))) (wCall (fun ds P R => ds.length = 2 ∧ F_law_draw ds P R) [] (wCons (wVar 0) (wCons (wOp rdSub (wC (.int 1000)) (wVar 3)) wNil)))) wNil)))) wsNext)
    (wsSeq (wsSet 4 (wCall (fun ds P R => ds.length = 2 ∧ F_law_of ds P R) [] (wCons (wVar 0) (wCons (wLst (wCons (wC (.int 0)) (wCons (wC (.int 1)) (wCons (wC (.int 1000)) (wCons (wCall (fun ds P R => ds.length = 2 ∧ F_law_draw ds P R) [] (wCons (wVar 0) (wCons (wC (.int 1001)) wNil))) wNil))))) wNil))))
    (wsRet (wIf (wAnd (wTest (wOp (rdIn false) (wVar 1) (wLst (wCons (wC (.str "push")) (wCons (wC (.str "keep")) wNil))))) (wTest (wOp rdEq (wCall (fun ds P R => ds.length = 2 ∧ F_law_draw ds P R) [] (wCons (wVar 0) (wCons (wC (.int 2)) wNil))) (wC (.int 0))))) (wNeg (wVar 4)) (wVar 4)))))))
def F_any_strength : FT := fun ds P _ => ∃ k, ds = [.bag, .str (Kind.nm k)] ∧ ∀ s, strengthB k s = true → pl 1 s = true → P s
theorem pure_any_strength (ds : List D) (P : D → Prop) (R : DX → Prop) (_ : ds.length = 2) (h : F_any_strength ds P R) : w_law_any_strength F_draw F_of (startE 5 ds) { nx := fun _ => P .non, rt := P, ex := fun x _ => R x } := by
  obtain ⟨k, rfl, hP⟩ := h
  refine st_par (fun d e => ∃ a b : Int, d = .int a ∧ e = .int b ∧ 0 ≤ a ∧ 1 ≤ b ∧ b ≤ 999) (fun Pk hPk => ?_) (fun d e hd => ?_)
  · refine ⟨rfl, 4, rfl, by decide, by decide, fun a h0 h1 => ⟨(by show (2 : Nat) ≤ sizeLine; decide), rfl, _, .inl rfl, by simp, (by show (2 : Nat) < 2 ^ 60; decide), fun d hd => ?_⟩⟩
    simp only [List.mem_cons, List.not_mem_nil, or_false] at hd
    rcases hd with rfl | rfl
    · exact ⟨rfl, 3, rfl, by decide, by decide, fun v v0 v1 => hPk _ _ ⟨a, _, rfl, rfl, h0, by omega, by omega⟩⟩
    · exact ⟨rfl, 999, rfl, by decide, by decide, fun v v0 v1 => hPk _ _ ⟨a, _, rfl, rfl, h0, by omega, by omega⟩⟩
  obtain ⟨a, b, rfl, rfl, h0, h1, h2⟩ := hd
  refine st_ifN (!k.isKeep && decide (a = 0)) (fun Pk h => ?_) (fun h => ?_) (fun _ => ?_)
  · refine t_ne_keep k rfl ?_
    show match !k.isKeep with | true => Pk (decide (a = 0)) _ | false => Pk false _
    cases e : k.isKeep with
    | true => rw [e] at h; exact h
    | false => rw [e] at h; exact h
  · rw [Bool.and_eq_true] at h
    exact hP _ (open_non (by simpa using h.1)) rfl
  refine st_ifN (!k.isKeep && decide (a = 1)) (fun Pk h => ?_) (fun h => ?_) (fun _ => ?_)
  · refine t_ne_keep k rfl ?_
    show match !k.isKeep with | true => Pk (decide (a = 1)) _ | false => Pk false _
    cases e : k.isKeep with
    | true => rw [e] at h; exact h
    | false => rw [e] at h; exact h
  · rw [Bool.and_eq_true] at h
    refine ⟨trivial, rfl, 1000 - b, rfl, by omega, ?_, fun v v0 v1 => ⟨(by show (2 : Nat) ≤ sizeLine; decide), ?_⟩⟩
    · exact log_small (by omega)
    exact hP _ (open_pair (by simpa using h.1) h1 (by omega) (by omega)) rfl
  refine st_set (fun d => ∃ n : Int, d = .int n ∧ 0 ≤ n ∧ n ≤ 1000) (fun Pk hPk => ?_) (fun d hd => ?_)
  · refine ⟨rfl, 1001, rfl, by decide, by decide, fun v v0 v1 => ⟨(by show (4 : Nat) ≤ sizeLine; decide), rfl, _, .inl rfl, by simp, (by show (4 : Nat) < 2 ^ 60; decide), fun d hd => ?_⟩⟩
    simp only [List.mem_cons, List.not_mem_nil, or_false] at hd
    rcases hd with rfl | rfl | rfl | rfl
    · exact hPk _ ⟨0, rfl, by decide, by decide⟩
    · exact hPk _ ⟨1, rfl, by decide, by decide⟩
    · exact hPk _ ⟨1000, rfl, by decide, by decide⟩
    · exact hPk _ ⟨v, rfl, v0, by omega⟩
  obtain ⟨n, rfl, n0, n1⟩ := hd
  have pos := hP (.int n) (allows_ok (Int.le_trans (least_le k) n0) n1) rfl
  have two : (2 : Nat) ≤ sizeLine := by decide
  have neg : k.least = -1000 → P (.int (-n)) := fun h => hP _ (allows_ok (by rw [h]; omega) (by omega)) rfl
  have both : k.least = -1000 → ∀ v : Int, match decide (v = 0) with | true => P (.int (-n)) | false => P (.int n) := fun h v => by
    cases decide (v = 0) with
    | true => exact neg h
    | false => exact pos
  cases k with
  | push => exact ⟨two, rfl, rfl, rfl, 2, rfl, by decide, by decide, fun v v0 v1 => both rfl v⟩
  | keep => exact ⟨two, rfl, rfl, rfl, 2, rfl, by decide, by decide, fun v v0 v1 => both rfl v⟩
  | tie => exact ⟨two, rfl, rfl, pos⟩
  | oneway => exact ⟨two, rfl, rfl, pos⟩
  | gate => exact ⟨two, rfl, rfl, pos⟩
end Pu
set_option maxRecDepth 100000
/-! Drawn parts and names, over data -/
namespace Pu
open PySem L2 PySem.Spec PyProof.Rows
def strGet : D → Option Str
  | .str s => some s
  | _ => none
theorem strs_get (ss : List Str) : (ss.map D.str).filterMap strGet = ss := by
  induction ss with
  | nil => rfl
  | cons s ss ih =>
    show s :: (ss.map D.str).filterMap strGet = _
    rw [ih]
theorem strs_perm {l : List D} {ss : List Str} (h : l.Perm (ss.map D.str)) : ∃ xs : List Str, l = xs.map D.str ∧ xs.Perm ss := by
  refine ⟨l.filterMap strGet, ?_, ?_⟩
  · have key : ∀ m : List D, (∀ x ∈ m, ∃ s, x = .str s) → m = (m.filterMap strGet).map D.str := by
      intro m
      induction m with
      | nil => intro _; rfl
      | cons x m ih =>
        intro hm
        obtain ⟨s, rfl⟩ := hm x List.mem_cons_self
        show _ = D.str s :: (m.filterMap strGet).map D.str
        rw [← ih fun y hy => hm y (List.mem_cons_of_mem _ hy)]
    refine key l fun x hx => ?_
    obtain ⟨s, _, e⟩ := List.mem_map.mp (h.subset hx)
    exact ⟨s, e.symm⟩
  · have q := h.filterMap strGet
    rw [strs_get] at q
    exact q
def partNames : List Str := ["a", "b", "c", "p", "q", "r", "s", "t", "u", "v", "w", "tie", "in", "by", "gate", "level", "stream", "zzzzzzzz", "zz", "push", "keep", "work", "wish", "oneway", "ab", "ba"]
def placeNames : List Str := ["a", "b", "c", "x", "in", "zzzzzzzz"]
theorem partNames_ok : ∀ s ∈ partNames, isName s = true := by decide +kernel
theorem placeNames_ok : ∀ s ∈ placeNames, isName s = true := by decide +kernel
theorem partNames_nd : partNames.Nodup := by decide +kernel
theorem placeNames_nd : placeNames.Nodup := by decide +kernel
def w_law_part_names (F_law_mixed : FT) : WS :=
    (wsRet (wCall (fun ds P R => ds.length = 2 ∧ F_law_mixed ds P R) [] (wCons (wVar 0) (wCons (wLst (wCons (wC (.str "a")) (wCons (wC (.str "b")) (wCons (wC (.str "c")) (wCons (wC (.str "p")) (wCons (wC (.str "q")) (wCons (wC (.str "r")) (wCons (wC (.str "s")) (wCons (wC (.str "t")) (wCons (wC (.str "u")) (wCons (wC (.str "v")) (wCons (wC (.str "w")) (wCons (wC (.str "tie")) (wCons (wC (.str "in")) (wCons (wC (.str "by")) (wCons (wC (.str "gate")) (wCons (wC (.str "level")) (wCons (wC (.str "stream")) (wCons (wC (.str "zzzzzzzz")) (wCons (wC (.str "zz")) (wCons (wC (.str "push")) (wCons (wC (.str "keep")) (wCons (wC (.str "work")) (wCons (wC (.str "wish")) (wCons (wC (.str "oneway")) (wCons (wC (.str "ab")) (wCons (wC (.str "ba")) wNil))))))))))))))))))))))))))) wNil))))
def F_part_names : FT := fun ds P _ => ds = [.bag] ∧ ∀ xs : List Str, xs.length = 26 → xs.Nodup → (∀ s ∈ xs, isName s = true) → P (.lst (xs.map D.str))
theorem pure_part_names (ds : List D) (P : D → Prop) (R : DX → Prop) (_ : ds.length = 1) (h : F_part_names ds P R) : w_law_part_names F_mixed (startE 1 ds) { nx := fun _ => P .non, rt := P, ex := fun x _ => R x } := by
  obtain ⟨rfl, hP⟩ := h
  refine ⟨(by show (26 : Nat) ≤ sizeLine; decide), rfl, partNames.map D.str, .inl rfl, (by show (26 : Nat) ≤ 1000; decide), fun l' hl => ?_⟩
  obtain ⟨xs, rfl, hx⟩ := strs_perm hl
  exact hP xs hx.length_eq (hx.nodup_iff.mpr partNames_nd) fun s hs => partNames_ok s (hx.subset hs)
def w_law_place_names (F_law_mixed : FT) : WS :=
    (wsRet (wCall (fun ds P R => ds.length = 2 ∧ F_law_mixed ds P R) [] (wCons (wVar 0) (wCons (wLst (wCons (wC (.str "a")) (wCons (wC (.str "b")) (wCons (wC (.str "c")) (wCons (wC (.str "x")) (wCons (wC (.str "in")) (wCons (wC (.str "zzzzzzzz")) wNil))))))) wNil))))
def F_place_names : FT := fun ds P _ => ds = [.bag] ∧ ∀ xs : List Str, xs.length = 6 → xs.Nodup → (∀ s ∈ xs, isName s = true) → P (.lst (xs.map D.str))
theorem pure_place_names (ds : List D) (P : D → Prop) (R : DX → Prop) (_ : ds.length = 1) (h : F_place_names ds P R) : w_law_place_names F_mixed (startE 1 ds) { nx := fun _ => P .non, rt := P, ex := fun x _ => R x } := by
  obtain ⟨rfl, hP⟩ := h
  refine ⟨(by show (6 : Nat) ≤ sizeLine; decide), rfl, placeNames.map D.str, .inl rfl, (by show (6 : Nat) ≤ 1000; decide), fun l' hl => ?_⟩
  obtain ⟨xs, rfl, hx⟩ := strs_perm hl
  exact hP xs hx.length_eq (hx.nodup_iff.mpr placeNames_nd) fun s hs => placeNames_ok s (hx.subset hs)
theorem at_0 {a : D} {r : List D} : atI (a :: r) 0 = some a := by
  unfold atI ixN
  rw [if_pos (by decide), if_pos (by rw [List.length_cons]; omega)]
  rfl
theorem at_1 {a b : D} {r : List D} : atI (a :: b :: r) 1 = some b := by
  unfold atI ixN
  rw [if_pos (by decide), if_pos (by rw [List.length_cons, List.length_cons]; omega)]
  rfl
/-! ### a drawn part -/
/-- a part that is one -/
def GoodPart (name : Str) (p : D) : Prop := ∃ k l s, p = .tup [.str name, .str (Kind.nm k), .tup l, s] ∧ endsOk k l = true ∧ strengthB k s = true ∧ pl 1 s = true
def w_law_some_part (F_law_any_strength : FT) (F_law_mixed : FT) (F_law_of : FT) : WS :=
    (wsSeq (wsSet 3 (wCall (fun ds P R => ds.length = 2 ∧ F_law_of ds P R) [] (wCons (wVar 0) (wCons (wLst (wCons (wC (.str "tie")) (wCons (wC (.str "oneway")) (wCons (wC (.str "gate")) (wCons (wC (.str "push")) (wCons (wC (.str "keep")) wNil)))))) wNil))))
    (wsSeq (wsPar 4 5 (wCons (wCall (fun ds P R => ds.length = 2 ∧ F_law_mixed ds P R) [] (wCons (wVar 0) (wCons (wOp rdAdd (wVar 2) (wLst (wCons (wC (.str "ground")) wNil))) wNil))) (wCons (wCall (fun ds P R => ds.length = 2 ∧ F_law_mixed ds P R) [] (wCons (wVar 0) (wCons (wOp rdAdd (wVar 2) (wLst (wCons (wC (.str "ground")) wNil))) wNil))) wNil)))
    (wsSeq (wsSet 6 (wCall (fun ds P R => ds.length = 2 ∧ F_law_of ds P R) [] (wCons (wVar 0) (wCons (wVar 2) wNil))))
    (wsSeq (wsSet 7 (wTup (wCons (wVar 6) wNil)))
    (wsSeq (wsIf (wTest (wOp rdEq (wVar 3) (wC (.str "oneway")))) (wsSet 7 (wTup (wCons (wVar 6) (wCons (wOp rdIx (wLc [8] (wIt (wVar 4)) (wgName 8) (wTest (wOp rdNe (wVar 8) (wVar 6))) (wVar 8)) (wC (.int 0))) wNil)))) (wsIf (wTest (wOp rdEq (wVar 3) (wC (.str "tie")))) (wsSet 7 (wTup (wCons (wOp rdIx (wVar 4) (wC (.int 0))) (wCons (wOp rdIx (wVar 4) (wC (.int 1))) wNil)))) (wsIf (wTest (wOp rdEq (wVar 3) (wC (.str "gate")))) (wsSet 7 (wTup (wCons (wOp rdIx (wVar 4) (wC (.int 0))) (wCons (wOp rdIx (wVar 4) (wC (.int 1))) (wCons (wOp rdIx (wVar 5) (wC (.int 0))) (wCons (wOp rdIx (wVar 5) (wC (.int 1))) wNil)))))) wsNext)))
    (wsRet (wTup (wCons (wVar 1) (wCons (wVar 3) (wCons (wVar 7) (wCons (wCall (fun ds P R => ds.length = 2 ∧ F_law_any_strength ds P R) [] (wCons (wVar 0) (wCons (wVar 3) wNil))) wNil)))))))))))
def F_some_part : FT := fun ds P _ => ∃ (name : Str) (ss : List Str), ds = [.bag, .str name, .lst (ss.map D.str)] ∧ ss ≠ [] ∧ ss.length ≤ 6 ∧ ss.Nodup ∧ (∀ s ∈ ss, isName s = true) ∧ ∀ p, GoodPart name p → P p
theorem isName_ground : isName groundS = false := by decide +kernel
theorem end_of_name {s : Str} (h : isName s = true) : isEndB (.str s) = true := by
  show (isName s || decide (s = groundS)) = true
  rw [h]
  rfl
theorem end_ground : isEndB (.str groundS) = true := by
  show (isName groundS || decide (groundS = groundS)) = true
  rw [isName_ground, decide_eq_true rfl]
  rfl
theorem two_of {α : Type} {xs : List α} (h : 2 ≤ xs.length) (hn : xs.Nodup) : ∃ a b r, xs = a :: b :: r ∧ a ≠ b := by
  match xs, h, hn with
  | a :: b :: r, _, hn =>
    refine ⟨a, b, r, rfl, fun e => ?_⟩
    subst e
    simp at hn
set_option maxHeartbeats 1000000 in
theorem pure_some_part (ds : List D) (P : D → Prop) (R : DX → Prop) (_ : ds.length = 3) (h : F_some_part ds P R) : w_law_some_part F_any_strength F_mixed F_of (startE 9 ds) { nx := fun _ => P .non, rt := P, ex := fun x _ => R x } := by
  obtain ⟨name, ss, rfl, h0, hl, hn, hs, hP⟩ := h
  have hln : (ss.map D.str).length = ss.length := List.length_map _
  have szs : (100 : Nat) ≤ sizeLine := by decide
  -- the kind
  refine st_set (fun d => ∃ k, d = .str (Kind.nm k)) (fun Pk hPk => ?_) (fun d hd => ?_)
  · refine ⟨(by show (5 : Nat) ≤ sizeLine; decide), rfl, _, .inl rfl, by simp, (by show (5 : Nat) < 2 ^ 60; decide), fun d hd => hPk _ ?_⟩
    simp only [List.mem_cons, List.not_mem_nil, or_false] at hd
    rcases hd with rfl | rfl | rfl | rfl | rfl
    · exact ⟨.tie, rfl⟩
    · exact ⟨.oneway, rfl⟩
    · exact ⟨.gate, rfl⟩
    · exact ⟨.push, rfl⟩
    · exact ⟨.keep, rfl⟩
  obtain ⟨k, rfl⟩ := hd
  -- the ends
  have hadd : ss.map D.str ++ [D.str "ground"] = (ss ++ [groundS]).map D.str := by rw [List.map_append]; rfl
  refine st_par (fun d e => ∃ xs ys : List Str, d = .lst (xs.map D.str) ∧ e = .lst (ys.map D.str) ∧ xs.Perm (ss ++ [groundS]) ∧ ys.Perm (ss ++ [groundS])) (fun Pk hPk => ?_) (fun d e hd => ?_)
  · refine ⟨(by show (1 : Nat) ≤ sizeLine; decide), by rw [hln]; show ss.length + 1 ≤ sizeLine; omega, rfl, _, .inl rfl, by rw [List.length_append, hln]; show ss.length + 1 ≤ 1000; omega, fun l1 p1 => ?_⟩
    refine ⟨(by show (1 : Nat) ≤ sizeLine; decide), by rw [hln]; show ss.length + 1 ≤ sizeLine; omega, rfl, _, .inl rfl, by rw [List.length_append, hln]; show ss.length + 1 ≤ 1000; omega, fun l2 p2 => ?_⟩
    have p1' : l1.Perm ((ss ++ [groundS]).map D.str) := hadd ▸ p1
    have p2' : l2.Perm ((ss ++ [groundS]).map D.str) := hadd ▸ p2
    obtain ⟨xs, rfl, hx⟩ := strs_perm p1'
    obtain ⟨ys, rfl, hy⟩ := strs_perm p2'
    exact hPk _ _ ⟨xs, ys, rfl, rfl, hx, hy⟩
  obtain ⟨xs, ys, rfl, rfl, hx, hy⟩ := hd
  have nd : (ss ++ [groundS]).Nodup := by
    rw [List.nodup_append]
    refine ⟨hn, by simp, fun a ha b hb => ?_⟩
    rw [List.mem_singleton] at hb
    intro e
    rw [e, hb] at ha
    have := hs _ ha
    rw [isName_ground] at this
    cases this
  have allE : ∀ s ∈ ss ++ [groundS], isEndB (.str s) = true := fun s h => by
    rcases List.mem_append.mp h with z | z
    · exact end_of_name (hs s z)
    · rw [List.mem_singleton] at z
      rw [z]
      exact end_ground
  have len2 : 2 ≤ (ss ++ [groundS]).length := by
    rw [List.length_append]
    have := List.length_pos_iff.mpr h0
    show 2 ≤ ss.length + 1
    omega
  -- the one
  refine st_set (fun d => ∃ o ∈ ss, d = .str o) (fun Pk hPk => ?_) (fun d hd => ?_)
  · refine ⟨rfl, _, .inl rfl, fun z => h0 (List.map_eq_nil_iff.mp z), by rw [hln]; omega, fun d hd => ?_⟩
    obtain ⟨o, ho, rfl⟩ := List.mem_map.mp hd
    exact hPk _ ⟨o, ho, rfl⟩
  obtain ⟨o, ho, rfl⟩ := hd
  refine st_set (fun d => d = .tup [.str o]) (fun Pk hPk => ⟨(by show (1 : Nat) ≤ sizeLine; decide), hPk _ rfl⟩) (fun d hd => ?_)
  subst hd
  have fin : ∀ l, endsOk k l = true → wsRet (wTup (wCons (wVar 1) (wCons (wVar 3) (wCons (wVar 7) (wCons (wCall (fun ds P R => ds.length = 2 ∧ F_any_strength ds P R) [] (wCons (wVar 0) (wCons (wVar 3) wNil))) wNil))))) [.v .bag, .v (.str name), .v (.lst (ss.map D.str)), .v (.str (Kind.nm k)), .v (.lst (xs.map D.str)), .v (.lst (ys.map D.str)), .v (.str o), .v (.tup l), .no] { nx := fun _ => P .non, rt := P, ex := fun x _ => R x } := fun l h => by
    refine ⟨rfl, k, rfl, fun s s1 s2 => ⟨(by show (4 : Nat) ≤ sizeLine; decide), hP _ ⟨k, l, s, rfl, h, s1, s2⟩⟩⟩
  have nameO : isEndB (.str o) = true := end_of_name (hs o ho)
  have oG : ¬ o = groundS := fun e => by
    have := hs o ho
    rw [e, isName_ground] at this
    cases this
  have single : (isEndB (.str o) && !decide (o = groundS)) = true := by rw [nameO, decide_eq_false oG]; rfl
  obtain ⟨a, b, r, ex, ab⟩ := two_of (by rw [hx.length_eq]; exact len2) (hx.nodup_iff.mpr nd)
  obtain ⟨c, d, r2, ey, cd⟩ := two_of (by rw [hy.length_eq]; exact len2) (hy.nodup_iff.mpr nd)
  have ea : isEndB (.str a) = true := allE a (hx.subset (by rw [ex]; simp))
  have eb : isEndB (.str b) = true := allE b (hx.subset (by rw [ex]; simp))
  have ec : isEndB (.str c) = true := allE c (hy.subset (by rw [ey]; simp))
  have ed : isEndB (.str d) = true := allE d (hy.subset (by rw [ey]; simp))
  cases k with
  | push =>
    refine st_if false (fun Pk h => h) (fun h => nomatch h) (fun _ => ?_)
    refine st_if1 false (fun Pk h => h) (fun h => nomatch h) (fun _ => ?_)
    refine st_if1 false (fun Pk h => h) (fun h => nomatch h) (fun _ => ?_)
    exact fin [.str o] single
  | keep =>
    refine st_if false (fun Pk h => h) (fun h => nomatch h) (fun _ => ?_)
    refine st_if1 false (fun Pk h => h) (fun h => nomatch h) (fun _ => ?_)
    refine st_if1 false (fun Pk h => h) (fun h => nomatch h) (fun _ => ?_)
    exact fin [.str o] single
  | tie =>
    refine st_if false (fun Pk h => h) (fun h => nomatch h) (fun _ => ?_)
    refine st_if1 true (fun Pk h => h) (fun _ => ?_) (fun h => nomatch h)
    subst ex
    refine ⟨.str a, at_0, .str b, at_1, (by show (2 : Nat) ≤ sizeLine; decide), fin [.str a, .str b] ?_⟩
    show (isEndB (.str a) && isEndB (.str b) && !decide (a = b)) = true
    rw [ea, eb, decide_eq_false ab]
    rfl
  | gate =>
    refine st_if false (fun Pk h => h) (fun h => nomatch h) (fun _ => ?_)
    refine st_if1 false (fun Pk h => h) (fun h => nomatch h) (fun _ => ?_)
    refine st_if1 true (fun Pk h => h) (fun _ => ?_) (fun h => nomatch h)
    subst ex ey
    refine ⟨.str a, at_0, .str b, at_1, .str c, at_0, .str d, at_1, (by show (4 : Nat) ≤ sizeLine; decide), fin [.str a, .str b, .str c, .str d] ?_⟩
    show (isEndB (.str a) && isEndB (.str b) && isEndB (.str c) && isEndB (.str d) && (!decide (a = b) && !decide (c = d))) = true
    rw [ea, eb, ec, ed, decide_eq_false ab, decide_eq_false cd]
    rfl
  | oneway =>
    refine st_if true (fun Pk h => h) (fun _ => ?_) (fun h => nomatch h)
    have gin : groundS ∈ xs := hx.symm.subset (by simp)
    -- the ends that are not the one
    have hf : ∃ e r3, (xs.map D.str).filter (fun d => match d with | .str s => !decide (s = o) | _ => false) = D.str e :: r3 ∧ e ∈ xs ∧ e ≠ o := by
      have mem : D.str groundS ∈ (xs.map D.str).filter (fun d => match d with | .str s => !decide (s = o) | _ => false) := by
        rw [List.mem_filter]
        refine ⟨List.mem_map.mpr ⟨_, gin, rfl⟩, ?_⟩
        show (!decide (groundS = o)) = true
        rw [decide_eq_false fun e => oG e.symm]
        rfl
      match e : (xs.map D.str).filter (fun d => match d with | .str s => !decide (s = o) | _ => false) with
      | [] => rw [e] at mem; cases mem
      | y :: r3 =>
        have hy : y ∈ (xs.map D.str).filter (fun d => match d with | .str s => !decide (s = o) | _ => false) := by rw [e]; exact List.mem_cons_self
        rw [List.mem_filter] at hy
        obtain ⟨s, hs1, rfl⟩ := List.mem_map.mp hy.1
        refine ⟨s, r3, e, hs1, fun z => ?_⟩
        have q : (!decide (s = o)) = true := hy.2
        rw [decide_eq_true z] at q
        cases q
    obtain ⟨e, r3, f1, f2, f3⟩ := hf
    refine st_set1 (fun z => z = .tup [.str o, .str e]) (fun Pk hPk => ?_) (fun z hz => ?_)
    rotate_left
    · subst hz
      refine fin [.str o, .str e] ?_
      show (isEndB (.str o) && isEndB (.str e) && (!decide (o = e) && !decide (o = groundS))) = true
      rw [nameO, allE e (hx.subset f2), decide_eq_false (fun z => f3 z.symm), decide_eq_false oG]
      rfl
    refine wLc_filter (R := fun x _ => R x) (P := fun d e => rdIx d (.int 0) fun z => ([.str o, z].length ≤ sizeLine ∧ Pk (.tup [.str o, z]) e)) (wi := wIt (wVar 4)) (wt := wTest (wOp rdNe (wVar 8) (wVar 6))) (env := [.v .bag, .v (.str name), .v (.lst (ss.map D.str)), .v (.str (Kind.nm .oneway)), .v (.lst (xs.map D.str)), .v (.lst (ys.map D.str)), .v (.str o), .v (.tup [.str o]), .no]) (f := fun d => match d with | .str s => !decide (s = o) | _ => false) (l := xs.map D.str) (i := 8) (by show 8 < 9; decide) (fun Pk h => h) (by rw [List.length_map, hx.length_eq, List.length_append]; show ss.length + 1 ≤ 100000; omega) (fun x hx' Pk h => ?_) ?_
    · obtain ⟨s, _, rfl⟩ := List.mem_map.mp hx'
      exact h
    · rw [f1]
      exact ⟨.str e, at_0, (by show (2 : Nat) ≤ sizeLine; decide), hPk _ rfl⟩
end Pu
set_option maxRecDepth 100000
/-! split, startswith, over data -/
namespace Pu
open PySem L2 PySem.Spec PyProof.Rows
theorem strs_rep {w : Wd} {G : Hp} : ∀ l : List Str, Reps w G (l.map V.str) (l.map D.str)
  | [] => .nil
  | _ :: l => .cons .str (strs_rep l)
def rdSplit : RDM := fun o ds P => match o, ds with
  | .str a, [.str b] => (b.length == 0) = false ∧ a.length + 2 ≤ sizeLine ∧ P (.lst ((Txt.split a b).map D.str))
  | _, _ => False
def rdStarts : RDM := fun o ds P => match o, ds with
  | .str a, [.str b] => P (.bl (Txt.startswith a b))
  | _, _ => False
section
variable {X : Cx} {W : WX}
theorem px_split {o e : Expr} {wo wa : WE} {apos pos : Pos} (ho : PX X W o wo) (he : PX X W e wa) (hs : starEach [e] X.env = [(false, eval e X.env)] := by rfl) (hbase : attributeBase o "split" X.env (eval o X.env) = eval o X.env := by rfl) (hline : (apos.endLine == pos.line) = true := by rfl) :
    PX X W (.Call (.Attribute o "split" apos) [e] [] pos) (wM1 rdSplit wo wa) := by
  obtain ⟨t, a1, a2⟩ := ho.ex
  obtain ⟨u, b1, b2⟩ := he.ex
  refine ⟨⟨_, pe_split a1 b1 hs hbase hline, fun F env σ G H P R Q hx hs hw hq hk => a2 F env σ G H _ R _ hx hs hw (fun d1 e1 v1 G1 H1 p1 s1 x1 r1 => ?_) hk⟩⟩
  cases d1 <;> first | exact p1.elim | skip
  refine ⟨⟨_, r1.asStr⟩, b2 F e1 σ G1 H1 _ R _ hx s1 p1 (fun d2 e2 v2 G2 H2 p2 s2 x2 r2 => ?_) hk⟩
  cases d2 <;> first | exact p2.elim | skip
  cases r1
  cases r2
  rename_i x y
  obtain ⟨h1, h2, h3⟩ := p2
  refine ⟨_, _, rfl, rfl, h1, h2, fun p hp => ?_⟩
  have po := Post.new1 (o := .lst ((Txt.split x y).map V.str)) s2.pre hp
  exact hq _ e2 _ _ _ h3 (s2.step po) (x1.trans (x2.trans po.ex)) (.lst upd_same (strs_rep _))
theorem px_starts {o e : Expr} {wo wa : WE} {apos pos : Pos} (ho : PX X W o wo) (he : PX X W e wa) (hs : starEach [e] X.env = [(false, eval e X.env)] := by rfl) (hbase : attributeBase o "startswith" X.env (eval o X.env) = eval o X.env := by rfl) (hline : (apos.endLine == pos.line) = true := by rfl) :
    PX X W (.Call (.Attribute o "startswith" apos) [e] [] pos) (wM1 rdStarts wo wa) := by
  obtain ⟨t, a1, a2⟩ := ho.ex
  obtain ⟨u, b1, b2⟩ := he.ex
  refine ⟨⟨_, pe_m1 F.slot_str_startswith F.type_str_startswith mt_startswith a1 b1 hs hbase hline, fun F env σ G H P R Q hx hs hw hq hk => a2 F env σ G H _ R _ hx hs hw (fun d1 e1 v1 G1 H1 p1 s1 x1 r1 => ?_) hk⟩⟩
  cases d1 <;> first | exact p1.elim | skip
  refine ⟨⟨_, r1.asStr⟩, b2 F e1 σ G1 H1 _ R _ hx s1 p1 (fun d2 e2 v2 G2 H2 p2 s2 x2 r2 => ?_) hk⟩
  cases d2 <;> first | exact p2.elim | skip
  cases r1
  cases r2
  exact ⟨_, _, rfl, rfl, hq _ e2 _ G2 H2 p2 s2 (x1.trans x2) .bl⟩
end
end Pu
set_option maxRecDepth 100000
/-! Number texts; is_plain, over data -/
namespace Pu
open PySem L2 PySem.Spec PyProof.Rows
open TL
abbrev numS (i : Int) : Str := Str.ofString (toString i)
theorem tl_numS (i : Int) : tl (numS i) = if i < 0 then 45 :: numL i.natAbs else numL i.natAbs := by
  cases i with
  | ofNat n =>
    rw [if_neg (by show ¬ ((n : Int) < 0); omega)]
    exact tl_num n
  | negSucc n =>
    rw [if_pos (Int.negSucc_lt_zero n)]
    have e : numS (Int.negSucc n) = Str.ofString ("-" ++ toString ((n + 1 : Nat) : Int)) := rfl
    have e2 := tl_num (n + 1)
    rw [e]
    rw [Str.ofString_eq_toList] at e2 ⊢
    show (("-" ++ toString ((n + 1 : Nat) : Int)).toList.map Char.toNat).toArray.toList = _
    have e3 : ((toString ((n + 1 : Nat) : Int)).toList.map Char.toNat).toArray.toList = numL (n + 1) := e2
    rw [List.toList_toArray] at e3 ⊢
    rw [String.toList_append, List.map_append, e3]
    rfl
theorem numS_len_le {i : Int} {k : Nat} (hk : 0 < k) (h : i.natAbs < 10 ^ k) : (numS i).length ≤ k + 1 := by
  rw [len_tl, tl_numS]
  have := numL_len hk h
  split
  · rw [List.length_cons]; omega
  · omega
theorem intText_num (i : Int) (h : (numL i.natAbs).length ≤ 4000) : intText? (numS i) = some i := by
  have e := tl_numS i
  have hl : (numS i).length ≤ 4300 := by
    rw [len_tl, e]
    split
    · rw [List.length_cons]; omega
    · omega
  by_cases hi : i < 0
  · rw [if_pos hi] at e
    rw [intText_neg e (numL_digits _) (numL_ne _) hl, numL_val]
    congr 1
    omega
  · rw [if_neg hi] at e
    have e2 := intText_digits (x := numS i) (by rw [show (numS i).cps.toList = _ from e]; exact numL_digits _) (by rw [show (numS i).cps.toList = _ from e]; exact numL_ne _) hl
    rw [e2, show (numS i).cps.toList = _ from e, numL_val]
    congr 1
    omega
theorem starts_one (s : Str) (c : Nat) : Txt.startswith s ⟨#[c]⟩ = decide ((tl s).head? = some c) := by
  unfold Txt.startswith
  rw [PySem.StrLaws.subAt_eq]
  have e1 : (⟨#[c]⟩ : Str).length = 1 := rfl
  rw [e1, len_tl]
  show (decide (0 + 1 ≤ (tl s).length) && List.take 1 (List.drop 0 (tl s)) == [c]) = _
  cases h : tl s with
  | nil => rfl
  | cons x l =>
    rw [decide_eq_true (by rw [List.length_cons]; omega), Bool.true_and]
    by_cases z : x = c
    · subst z
      simp
    · simp [z]
def digB (c : Nat) : Bool := decide (c ∈ ("0123456789" : Str).cps.toList)
def signOff (l : List Nat) : List Nat := if l.head? = some 45 then l.drop 1 else l
def plainL (l : List Nat) : Bool := (decide (1 ≤ (signOff l).length) && decide ((signOff l).length ≤ 30) && (signOff l).all digB) && (decide (l = [48]) || !decide ((signOff l).head? = some 48))
def w_is_plain  : WS :=
    (wsSeq (wsSet 1 (wIf (wTest (wM1 rdStarts (wVar 0) (wC (.str "-")))) (wSl (wVar 0) (wPart (wC (.int 1))) wNoPart) (wVar 0)))
    (wsSeq (wsIf (wOr (wNot (wTest (wChain rdLe rdLe (wC (.int 1)) (wCB rdLen (wCons (wVar 1) wNil)) (wC (.int 30))))) (wNot (wTest (wCB rdAll (wCons (wLc [2] (wIt (wVar 1)) (wgName 2) wYes (wOp (rdIn false) (wVar 2) (wC (.str "0123456789")))) wNil))))) (wsRet (wC (.bl false))) wsNext)
    (wsRet (wOrV (wOp rdEq (wVar 0) (wC (.str "0"))) (wNotV (wM1 rdStarts (wVar 1) (wC (.str "0"))))))))
def F_is_plain : FT := fun ds P _ => ∃ s, ds = [.str s] ∧ s.length ≤ sizeLine ∧ P (.bl (plainL (tl s)))
/-- all([sign in Z for sign in text]) -/
theorem lc_signs {i j : Nat} {Z : Str} {env : En} {P : D → En → Prop} {R : QX} {s : Str} (hl : s.length ≤ 100000) (hi : i < env.length) (hj : env[j]? = some (.v (.str s)))
    (hP : P (.bl ((tl s).all fun c => decide (c ∈ Z.cps.toList))) (backE env env [i])) : wCB rdAll (wCons (wLc [i] (wIt (wVar j)) (wgName i) wYes (wOp (rdIn false) (wVar i) (wC (.str Z)))) wNil) env P R := by
  show wLc [i] (wIt (wVar j)) (wgName i) wYes _ env (fun d e => rdAll [d] fun z => P z e) R
  refine wLc_in (fun ds => ds = signsD s) (fun x d => ∃ c : Nat, x = .str ⟨#[c]⟩ ∧ d = .bl (decide (c ∈ Z.cps.toList))) (fun Pk h => ?_) (fun ds h => by rw [h, signs_len]; exact hl) (fun ds h x hx Pk hk => ?_) (fun ds out h ho => ?_)
  · unfold wIt wVar
    rw [hj]
    exact h _ rfl
  · subst h
    unfold signsD at hx
    obtain ⟨c, hc, rfl⟩ := List.mem_map.mp hx
    have hlen : i < (wipeE env [i]).length := by rw [wipeE_length]; exact hi
    have e : ((wipeE env [i]).set i (.v (.str ⟨#[c]⟩)))[i]? = some (.v (.str ⟨#[c]⟩)) := by rw [List.getElem?_set, if_pos rfl, if_pos hlen]
    dsimp only [wgName, wOp, wC, wVar]
    rw [e]
    refine hk _ _ ⟨c, rfl, rfl⟩ ?_
    show ((((env.set i .no).set i (.v (.str ⟨#[c]⟩))).set i .no) : En) = (env.set i .no)
    rw [List.set_set, List.set_set]
  · subst h
    have key : ∀ (l : List Nat) (out : List D), Rels (fun x d => ∃ c : Nat, x = .str ⟨#[c]⟩ ∧ d = .bl (decide (c ∈ Z.cps.toList))) (l.map fun c => D.str ⟨#[c]⟩) out → out = l.map fun c => D.bl (decide (c ∈ Z.cps.toList)) := by
      intro l
      induction l with
      | nil => intro out h; cases h; rfl
      | cons c l ih =>
        intro out h
        cases h with
        | cons r t =>
          obtain ⟨c', e1, e2⟩ := r
          have e3 : c' = c := by
            have := D.str.inj e1
            have := congrArg (fun s : Str => s.cps.toList) this
            simpa using this.symm
          rw [List.map_cons, e2, ih _ t, e3]
    rw [key _ _ ho]
    refine ⟨_, bools_map _ _, ?_⟩
    rw [List.all_map]
    exact hP
theorem cut_1 (s : Str) : tl (cutS s (some 1) none) = (tl s).drop 1 := by
  unfold cutS
  show (((s.cps.toList.drop (HT.sIx s.length 0 (some 1))).take (HT.sIx s.length s.length none - HT.sIx s.length 0 (some 1))).toArray).toList = _
  rw [List.toList_toArray]
  have e1 : HT.sIx s.length 0 (some 1) = min 1 s.length := by
    show (if (1 : Int) < 0 then (1 + (s.length : Int)).toNat else min (1 : Int).toNat s.length) = _
    rw [if_neg (by decide)]
    rfl
  have e2 : HT.sIx s.length s.length none = s.length := rfl
  rw [e1, e2]
  show (s.cps.toList.drop (min 1 s.length)).take (s.length - min 1 s.length) = s.cps.toList.drop 1
  have hl : s.cps.toList.length = s.length := by rw [Array.length_toList]; rfl
  by_cases h : s.length = 0
  · have : s.cps.toList = [] := List.length_eq_zero_iff.mp (by omega)
    rw [this]; simp
  · rw [show min 1 s.length = 1 by omega]
    rw [List.take_of_length_le (by rw [List.length_drop]; omega)]
theorem mk_eq_iff (s t : Str) : s = t ↔ tl s = tl t := by
  constructor
  · intro h; rw [h]
  · intro h
    obtain ⟨a⟩ := s
    obtain ⟨b⟩ := t
    congr 1
    exact Array.toList_inj.mp h
set_option maxHeartbeats 1000000 in
theorem pure_is_plain (ds : List D) (P : D → Prop) (R : DX → Prop) (_ : ds.length = 1) (h : F_is_plain ds P R) : w_is_plain (startE 3 ds) { nx := fun _ => P .non, rt := P, ex := fun x _ => R x } := by
  obtain ⟨s, rfl, hs, hP⟩ := h
  refine st_set (fun d => ∃ t, d = .str t ∧ tl t = signOff (tl s) ∧ t.length ≤ sizeLine) (fun Pk hPk => ?_) (fun d hd => ?_)
  · show match Txt.startswith s "-" with | true => _ | false => _
    have e : Txt.startswith s "-" = decide ((tl s).head? = some 45) := starts_one s 45
    rw [e]
    by_cases h : (tl s).head? = some 45
    · rw [decide_eq_true h]
      refine ⟨hs, hPk _ ⟨_, rfl, ?_, Nat.le_trans (cutS_length _ _ _) hs⟩⟩
      rw [cut_1]
      unfold signOff
      rw [if_pos h]
    · rw [decide_eq_false h]
      refine hPk _ ⟨_, rfl, ?_, hs⟩
      unfold signOff
      rw [if_neg h]
  obtain ⟨t, rfl, ht, htl⟩ := hd
  have hlen : t.length = (signOff (tl s)).length := by rw [len_tl, ht]
  refine st_ifN (!((decide (1 ≤ (signOff (tl s)).length) && decide ((signOff (tl s)).length ≤ 30)) && (signOff (tl s)).all digB)) (fun Pk h => ?_) (fun h => ?_) (fun h => ?_)
  · show t.length ≤ sizeLine ∧ _
    refine ⟨htl, ?_⟩
    show True ∧ match D.bl (decide ((1 : Int) ≤ (t.length : Int))) with | .bl true => _ | .bl false => _ | _ => False
    refine ⟨trivial, ?_⟩
    by_cases h1 : 1 ≤ (signOff (tl s)).length
    · rw [decide_eq_true (show (1 : Int) ≤ (t.length : Int) by omega)]
      rw [decide_eq_true h1] at h
      show True ∧ _
      refine ⟨trivial, ?_⟩
      by_cases h2 : (signOff (tl s)).length ≤ 30
      · rw [decide_eq_true h2] at h
        show match !decide ((t.length : Int) ≤ 30) with | true => _ | false => _
        rw [decide_eq_true (show (t.length : Int) ≤ 30 by omega)]
        refine lc_signs (s := t) (j := 1) (i := 2) (Z := "0123456789") (env := [.v (.str s), .v (.str t), .no]) (by omega) (by show 2 < 3; decide) rfl ?_
        rw [ht]
        exact h
      · rw [decide_eq_false h2] at h
        show match !decide ((t.length : Int) ≤ 30) with | true => _ | false => _
        rw [decide_eq_false (show ¬ (t.length : Int) ≤ 30 by omega)]
        exact h
    · rw [decide_eq_false (show ¬ (1 : Int) ≤ (t.length : Int) by omega)]
      rw [decide_eq_false h1] at h
      exact h
  · have e : plainL (tl s) = false := by
      unfold plainL
      rw [Bool.not_eq_true'] at h
      rw [h, Bool.false_and]
    rw [e] at hP
    exact hP
  · rw [Bool.not_eq_false'] at h
    have e : plainL (tl s) = (decide (tl s = [48]) || !decide ((signOff (tl s)).head? = some 48)) := by
      unfold plainL
      rw [h, Bool.true_and]
    rw [e] at hP
    have e0 : decide (s = ("0" : Str)) = decide (tl s = [48]) := by
      rw [decide_eq_decide]
      exact mk_eq_iff s "0"
    show match D.bl (decide (s = ("0" : Str))) with | .bl true => _ | .bl false => _ | _ => _
    rw [e0]
    by_cases z : tl s = [48]
    · rw [decide_eq_true z] at hP ⊢
      exact hP
    · rw [decide_eq_false z] at hP ⊢
      show P (.bl (!Txt.startswith t "0"))
      have e1 : Txt.startswith t "0" = decide ((tl t).head? = some 48) := starts_one t 48
      rw [e1, ht]
      exact hP
/-! what a number's text is -/
theorem numL_head {n : Nat} (h : 0 < n) : (numL n).head? ≠ some 48 := by
  induction n using Nat.strongRecOn with
  | _ n ih =>
    by_cases h1 : n < 10
    · rw [numL_lt h1]
      intro z
      have := Option.some.inj z
      omega
    · rw [numL_step (by omega)]
      have q := ih (n / 10) (by omega) (by omega)
      intro z
      refine q ?_
      cases e : numL (n / 10) with
      | nil => exact absurd e (numL_ne _)
      | cons x l => rw [e] at z; exact z
theorem digB_of {c : Nat} (h : 48 ≤ c ∧ c ≤ 57) : digB c = true := by
  have : c = 48 ∨ c = 49 ∨ c = 50 ∨ c = 51 ∨ c = 52 ∨ c = 53 ∨ c = 54 ∨ c = 55 ∨ c = 56 ∨ c = 57 := by omega
  rcases this with rfl | rfl | rfl | rfl | rfl | rfl | rfl | rfl | rfl | rfl <;> decide +kernel
theorem num_pos_len (n : Nat) : 1 ≤ (numL n).length := List.length_pos_iff.mpr (numL_ne n)
theorem signOff_num (i : Int) : signOff (tl (numS i)) = numL i.natAbs := by
  unfold signOff
  rw [tl_numS]
  by_cases h : i < 0
  · rw [if_pos h]
    rfl
  · rw [if_neg h]
    rw [if_neg]
    intro z
    cases e : numL i.natAbs with
    | nil => exact absurd e (numL_ne _)
    | cons x l =>
      rw [e] at z
      have hx := numL_digits i.natAbs x (by rw [e]; exact List.mem_cons_self)
      have : x = 45 := Option.some.inj z
      omega
theorem plain_num {i : Int} (h : i.natAbs < 10 ^ 30) : plainL (tl (numS i)) = true := by
  unfold plainL
  rw [signOff_num]
  have h1 := num_pos_len i.natAbs
  have h2 := numL_len (k := 30) (by decide) h
  have h3 : (numL i.natAbs).all digB = true := List.all_eq_true.mpr fun c hc => digB_of (numL_digits _ c hc)
  rw [decide_eq_true h1, decide_eq_true h2, h3]
  by_cases z : i = 0
  · subst z
    rfl
  · rw [decide_eq_false (numL_head (by omega))]
    simp
theorem num_free32 (i : Int) : 32 ∉ tl (numS i) := by
  rw [tl_numS]
  have h := numL_free (n := i.natAbs) (s := 32) (.inl (by decide))
  split
  · intro z
    rcases List.mem_cons.mp z with z | z
    · cases z
    · exact h z
  · exact h
end Pu
set_option maxRecDepth 100000
/-! Texts of parts, over data -/
namespace Pu
open PySem L2 PySem.Spec PyProof.Rows
open TL
theorem cut_to {α : Type} (l : List α) (n : Nat) : cutD l none (some (n : Int)) = l.take n := by
  unfold cutD
  have e1 : HT.sIx l.length 0 none = 0 := rfl
  have e2 : HT.sIx l.length l.length (some (n : Int)) = min n l.length := by
    show (if (n : Int) < 0 then ((n : Int) + (l.length : Int)).toNat else min (n : Int).toNat l.length) = _
    rw [if_neg (by omega)]
    rfl
  rw [e1, e2, List.drop_zero, Nat.sub_zero]
  by_cases h : n ≤ l.length
  · rw [Nat.min_eq_left h]
  · rw [Nat.min_eq_right (by omega), List.take_length, List.take_of_length_le (by omega)]
theorem cut_mid {α : Type} (l : List α) (m n : Nat) : cutD l (some (m : Int)) (some (n : Int)) = (l.drop m).take (n - m) := by
  unfold cutD
  have e1 : ∀ d (n : Nat), HT.sIx l.length d (some (n : Int)) = min n l.length := fun d n => by
    show (if (n : Int) < 0 then ((n : Int) + (l.length : Int)).toNat else min (n : Int).toNat l.length) = _
    rw [if_neg (by omega)]
    rfl
  rw [e1, e1]
  by_cases h : m ≤ l.length
  · rw [Nat.min_eq_left h]
    by_cases h2 : n ≤ l.length
    · rw [Nat.min_eq_left h2]
    · rw [Nat.min_eq_right (by omega), List.take_of_length_le (by rw [List.length_drop]; omega), List.take_of_length_le (by rw [List.length_drop]; omega)]
  · rw [Nat.min_eq_right (show l.length ≤ m by omega), List.drop_of_length_le (Nat.le_refl _), List.drop_of_length_le (by omega)]
    simp
theorem cut_from {α : Type} (l : List α) (m : Nat) : cutD l (some (m : Int)) none = l.drop m := by
  unfold cutD
  have e1 : HT.sIx l.length 0 (some (m : Int)) = min m l.length := by
    show (if (m : Int) < 0 then ((m : Int) + (l.length : Int)).toNat else min (m : Int).toNat l.length) = _
    rw [if_neg (by omega)]
    rfl
  have e2 : HT.sIx l.length l.length none = l.length := rfl
  rw [e1, e2]
  by_cases h : m ≤ l.length
  · rw [Nat.min_eq_left h, List.take_of_length_le (by rw [List.length_drop]; omega)]
  · rw [Nat.min_eq_right (show l.length ≤ m by omega), List.drop_of_length_le (Nat.le_refl _), List.drop_of_length_le (by omega)]
    simp
theorem strsOf_map (ss : List Str) : strsOf (ss.map D.str) = some ss := by
  induction ss with
  | nil => rfl
  | cons s ss ih =>
    show (strsOf (ss.map D.str)).map (s :: ·) = _
    rw [ih]
    rfl
/-! ### forms -/
theorem ends_form {k : Kind} {l : List D} (h : endsOk k l = true) : ∃ ss : List Str, l = ss.map D.str ∧ ss.length = Kind.size k ∧ ∀ s ∈ ss, isEndB (.str s) = true := by
  unfold endsOk at h
  split at h
  all_goals first | cases h; done | simp only [Bool.and_eq_true] at h
  · rename_i a b
    refine ⟨[a, b], rfl, rfl, fun s hs => ?_⟩
    simp only [List.mem_cons, List.not_mem_nil, or_false] at hs
    rcases hs with rfl | rfl
    · exact h.1.1
    · exact h.1.2
  · rename_i a b
    refine ⟨[a, b], rfl, rfl, fun s hs => ?_⟩
    simp only [List.mem_cons, List.not_mem_nil, or_false] at hs
    rcases hs with rfl | rfl
    · exact h.1.1
    · exact h.1.2
  · rename_i a b c d
    refine ⟨[a, b, c, d], rfl, rfl, fun s hs => ?_⟩
    simp only [List.mem_cons, List.not_mem_nil, or_false] at hs
    rcases hs with rfl | rfl | rfl | rfl
    · exact h.1.1.1.1
    · exact h.1.1.1.2
    · exact h.1.1.2
    · exact h.1.2
  · rename_i a
    refine ⟨[a], rfl, rfl, fun s hs => ?_⟩
    rw [List.mem_singleton] at hs
    rw [hs]
    exact h.1
  · rename_i a
    refine ⟨[a], rfl, rfl, fun s hs => ?_⟩
    rw [List.mem_singleton] at hs
    rw [hs]
    exact h.1
inductive SForm : D → Prop
  | non : SForm .non
  | pair {a b : Int} : 1 ≤ a → a < b → b ≤ 1000 → SForm (.tup [.int a, .int b])
  | one {i : Int} : -1000 ≤ i → i ≤ 1000 → SForm (.int i)
theorem pair_form {d : D} (h : isPairB d = true) : SForm d := by
  unfold isPairB at h
  split at h
  · simp only [Bool.and_eq_true, decide_eq_true_iff] at h
    exact .pair h.1 h.2.1 h.2.2
  · cases h
theorem strength_form {k : Kind} {d : D} (h : strengthB k d = true) : SForm d := by
  unfold strengthB at h
  rw [Bool.or_eq_true] at h
  rcases h with h | h
  · have h' : (isNon d || isPairB d) = true := by cases k <;> first | exact h | cases h
    rw [Bool.or_eq_true] at h'
    rcases h' with z | z
    · cases d <;> first | exact .non | cases z
    · exact pair_form z
  · unfold allowsB at h
    split at h
    · rw [Bool.and_eq_true, decide_eq_true_iff, decide_eq_true_iff] at h
      have q : -1000 ≤ k.least := by cases k <;> decide
      exact .one (Int.le_trans q h.1) h.2
    · cases h
/-! ### the words of a part -/
def endW : Kind → List Str → List Str
  | .gate, [a, b, c, d] => [a, b, "by", c, d]
  | _, l => l
def sW : D → List Str
  | .tup [.int a, .int b] => ["in", numS a, numS b]
  | .int i => ["=", numS i]
  | _ => []
def partW (name : Str) (k : Kind) (ss : List Str) (s : D) : List Str := name :: Kind.nm k :: (endW k ss ++ sW s)
def textOf (name : Str) (k : Kind) (ss : List Str) (s : D) : Str := Txt.join " " (partW name k ss s)
/-- a short word without blanks -/
def WordOk (w : Str) : Prop := w.length ≤ 8 ∧ 32 ∉ tl w ∧ PyData.strOk w = true
theorem strOk_iff {s : Str} : PyData.strOk s = true ↔ ∀ c ∈ tl s, c < 0x110000 := by
  unfold PyData.strOk
  rw [Array.all_eq_true']
  constructor
  · intro h c hc
    exact of_decide_eq_true (h c (Array.mem_toList_iff.mp hc))
  · intro h c hc
    exact decide_eq_true (h c (Array.mem_toList_iff.mpr hc))
theorem small_ok {s : Str} (h : ∀ c ∈ tl s, c ∈ smallS.cps.toList) : PyData.strOk s = true := strOk_iff.mpr fun c hc => by
  have q : ∀ c ∈ smallS.cps.toList, c < 0x110000 := by decide +kernel
  exact q c (h c hc)
theorem num_okS (i : Int) : PyData.strOk (numS i) = true := strOk_iff.mpr fun c hc => by
  rw [tl_numS] at hc
  have q : ∀ c ∈ numL i.natAbs, c < 0x110000 := fun c hc => by
    have := numL_digits _ c hc
    omega
  split at hc
  · rcases List.mem_cons.mp hc with z | z
    · omega
    · exact q c z
  · exact q c hc
theorem small_free {s : Str} (h : ∀ c ∈ tl s, c ∈ smallS.cps.toList) : 32 ∉ tl s := fun z => by
  have := h 32 z
  revert this
  decide +kernel
theorem word_name {s : Str} (h : isName s = true) : WordOk s := by
  unfold isName at h
  simp only [Bool.and_eq_true, decide_eq_true_iff, List.all_eq_true] at h
  exact ⟨h.1.1.2, small_free fun c hc => h.2 c hc, small_ok fun c hc => h.2 c hc⟩
theorem word_of {s : Str} (h : (decide (s.length ≤ 8) && decide (32 ∉ tl s) && PyData.strOk s) = true) : WordOk s := by
  rw [Bool.and_eq_true, Bool.and_eq_true, decide_eq_true_iff, decide_eq_true_iff] at h
  exact ⟨h.1.1, h.1.2, h.2⟩
theorem word_end {s : Str} (h : isEndB (.str s) = true) : WordOk s := by
  have h' : (isName s || decide (s = groundS)) = true := h
  rw [Bool.or_eq_true] at h'
  rcases h' with z | z
  · exact word_name z
  · rw [of_decide_eq_true z]
    exact word_of (by decide +kernel)
theorem word_num {i : Int} (h1 : -1000 ≤ i) (h2 : i ≤ 1000) : WordOk (numS i) := ⟨Nat.le_trans (numS_len_le (k := 4) (by decide) (by show i.natAbs < 10000; omega)) (by decide), num_free32 i, num_okS i⟩
theorem words_ok {name : Str} {k : Kind} {ss : List Str} {s : D} (hn : isName name = true) (hs : ∀ x ∈ ss, isEndB (.str x) = true) (f : SForm s) : ∀ w ∈ partW name k ss s, WordOk w := by
  intro w hw
  unfold partW at hw
  rcases List.mem_cons.mp hw with rfl | hw
  · exact word_name hn
  rcases List.mem_cons.mp hw with rfl | hw
  · cases k <;> exact word_of (by decide +kernel)
  rcases List.mem_append.mp hw with hw | hw
  · have key : w ∈ ss ∨ w = "by" := by
      unfold endW at hw
      split at hw
      · simp only [List.mem_cons, List.not_mem_nil, or_false] at hw ⊢
        rcases hw with z | z | z | z | z
        · exact .inl (.inl z)
        · exact .inl (.inr (.inl z))
        · exact .inr z
        · exact .inl (.inr (.inr (.inl z)))
        · exact .inl (.inr (.inr (.inr z)))
      · exact .inl hw
    rcases key with z | rfl
    · exact word_end (hs w z)
    · exact word_of (by decide +kernel)
  · cases f with
    | non => cases hw
    | pair h1 h2 h3 =>
      have hw' : w ∈ (["in", numS _, numS _] : List Str) := hw
      simp only [List.mem_cons, List.not_mem_nil, or_false] at hw'
      rcases hw' with rfl | rfl | rfl
      · exact word_of (by decide +kernel)
      · exact word_num (by omega) (by omega)
      · exact word_num (by omega) (by omega)
    | one h1 h2 =>
      have hw' : w ∈ (["=", numS _] : List Str) := hw
      simp only [List.mem_cons, List.not_mem_nil, or_false] at hw'
      rcases hw' with rfl | rfl
      · exact word_of (by decide +kernel)
      · exact word_num (by omega) (by omega)
theorem sum_le : ∀ {ws : List Str}, (∀ w ∈ ws, WordOk w) → (ws.map (·.length)).sum ≤ ws.length * 8
  | [], _ => Nat.le_refl _
  | w :: ws, h => by
    have := sum_le fun x hx => h x (List.mem_cons_of_mem w hx)
    have q := (h w List.mem_cons_self).1
    rw [List.map_cons, List.sum_cons, List.length_cons]
    omega
theorem joinL_len (S : List Nat) : ∀ l : List (List Nat), (joinL S l).length ≤ (l.map (·.length)).sum + l.length * S.length
  | [] => by simp [joinL]
  | [p] => by simp [joinL]
  | p :: q :: r => by
    have := joinL_len S (q :: r)
    show (p ++ (S ++ joinL S (q :: r))).length ≤ _
    rw [List.length_append, List.length_append, List.map_cons, List.sum_cons, List.length_cons, Nat.add_mul]
    omega
theorem join_len (y : Str) (ws : List Str) : (Txt.join y ws).length ≤ (ws.map (·.length)).sum + ws.length * y.length := by
  rw [join_eq, len_tl, tl_join, len_tl]
  have := joinL_len (tl y) (ws.map tl)
  rw [List.map_map, List.length_map] at this
  have e : ws.map ((fun x => x.length) ∘ tl) = ws.map (·.length) := List.map_congr_left fun x _ => (len_tl x).symm
  rw [e] at this
  exact this
theorem partW_len {name : Str} {k : Kind} {ss : List Str} {s : D} (hl : ss.length = Kind.size k) (f : SForm s) : 3 ≤ (partW name k ss s).length ∧ (partW name k ss s).length ≤ 10 := by
  unfold partW
  rw [List.length_cons, List.length_cons, List.length_append]
  have h1 : ss.length ≤ (endW k ss).length ∧ (endW k ss).length ≤ 5 := by
    unfold endW
    split
    · exact ⟨by show 4 ≤ 5; decide, Nat.le_refl _⟩
    · rw [hl]
      cases k <;> decide
  have h2 : (sW s).length ≤ 3 := by
    cases f with
    | non => decide
    | pair => exact Nat.le_refl 3
    | one => show 2 ≤ 3; decide
  have h3 : 1 ≤ Kind.size k := by cases k <;> decide
  omega
theorem join_bound {ws : List Str} (h : ∀ w ∈ ws, WordOk w) (hl : ws.length ≤ 20) : (ws.map (·.length)).sum + ws.length * (" " : Str).length ≤ 16777216 := by
  have := sum_le h
  show _ + ws.length * 1 ≤ _
  omega
theorem split_words {ws : List Str} (h0 : ws ≠ []) (h : ∀ w ∈ ws, WordOk w) : Txt.split (Txt.join " " ws) " " = ws :=
  split_join (s := 32) (S := []) (by decide +kernel) (by decide +kernel) h0 fun p hp => (h p hp).2.1
theorem text_len {ws : List Str} (h : ∀ w ∈ ws, WordOk w) (hl : ws.length ≤ 20) : (Txt.join " " ws).length ≤ 1000 := by
  have h1 := join_len " " ws
  have h2 := sum_le h
  have e : (" " : Str).length = 1 := by decide +kernel
  rw [e] at h1
  omega
structure PartIs (name : Str) (k : Kind) (ss : List Str) (s : D) : Prop where
  nm : isName name = true
  ok : endsOk k (ss.map D.str) = true
  len : ss.length = Kind.size k
  ends : ∀ x ∈ ss, isEndB (.str x) = true
  str : strengthB k s = true
  form : SForm s
def partD (name : Str) (k : Kind) (ss : List Str) (s : D) : D := .tup [.str name, .str (Kind.nm k), .tup (ss.map D.str), s]
theorem good_is {name : Str} {p : D} (hn : isName name = true) (h : GoodPart name p) : ∃ k ss s, p = partD name k ss s ∧ PartIs name k ss s := by
  obtain ⟨k, l, s, rfl, he, hs, hps⟩ := h
  obtain ⟨ss, rfl, h1, h2⟩ := ends_form he
  exact ⟨k, ss, s, rfl, hn, he, h1, h2, hs, strength_form hs⟩
theorem PartIs.words {name : Str} {k : Kind} {ss : List Str} {s : D} (h : PartIs name k ss s) : ∀ w ∈ partW name k ss s, WordOk w := words_ok h.nm h.ends h.form
theorem PartIs.wlen {name : Str} {k : Kind} {ss : List Str} {s : D} (h : PartIs name k ss s) : 3 ≤ (partW name k ss s).length ∧ (partW name k ss s).length ≤ 10 := partW_len h.len h.form
theorem log_1920 {n : Nat} (h : n < 2 ^ 60) : n.log2 < 1920 := by
  by_cases h0 : n = 0
  · rw [h0]
    decide
  · have := (Nat.log2_lt h0).mpr h
    omega
/-! ### part_text -/
def w_law_part_text  : WS :=
    (wsSeq (wsSet 1 (wOp rdAdd (wLst (wCons (wOp rdIx (wVar 0) (wC (.int 0))) (wCons (wOp rdIx (wVar 0) (wC (.int 1))) (wCons (wOp rdIx (wOp rdIx (wVar 0) (wC (.int 2))) (wC (.int 0))) wNil)))) (wCB rdList (wCons (wSl (wOp rdIx (wVar 0) (wC (.int 2))) (wPart (wC (.int 1))) (wPart (wC (.int 2)))) wNil))))
    (wsSeq (wsIf (wTest (wOp rdEq (wOp rdIx (wVar 0) (wC (.int 1))) (wC (.str "gate")))) (wsSet 1 (wOp rdAdd (wVar 1) (wLst (wCons (wC (.str "by")) (wCons (wOp rdIx (wOp rdIx (wVar 0) (wC (.int 2))) (wC (.int 2))) (wCons (wOp rdIx (wOp rdIx (wVar 0) (wC (.int 2))) (wC (.int 3))) wNil)))))) wsNext)
    (wsSeq (wsIf (wTest (wOp rdIs (wOp rdIx (wVar 0) (wC (.int 3))) (wC .non))) (wsRet (wM1 rdJoin (wC (.str " ")) (wVar 1))) wsNext)
    (wsSeq (wsIf (wTest (wIsi .tuple (wOp rdIx (wVar 0) (wC (.int 3))))) (wsRet (wM1 rdJoin (wC (.str " ")) (wOp rdAdd (wVar 1) (wLst (wCons (wC (.str "in")) (wCons (wCB rdStr (wCons (wOp rdIx (wOp rdIx (wVar 0) (wC (.int 3))) (wC (.int 0))) wNil)) (wCons (wCB rdStr (wCons (wOp rdIx (wOp rdIx (wVar 0) (wC (.int 3))) (wC (.int 1))) wNil)) wNil))))))) wsNext)
    (wsRet (wM1 rdJoin (wC (.str " ")) (wOp rdAdd (wVar 1) (wLst (wCons (wC (.str "=")) (wCons (wCB rdStr (wCons (wOp rdIx (wVar 0) (wC (.int 3))) wNil)) wNil))))))))))
def w_part_text  : WS :=
    (wsSeq (wsAsg (wVar 0) (wgTup 4 (wgCons (wgName 1) (wgCons (wgName 2) (wgCons (wgName 3) (wgCons (wgName 4) wgNil))))))
    (wsSeq (wsSet 5 (wIf (wTest (wOp rdNe (wVar 2) (wC (.str "gate")))) (wCB rdList (wCons (wVar 3) wNil)) (wOp rdAdd (wOp rdAdd (wCB rdList (wCons (wSl (wVar 3) wNoPart (wPart (wC (.int 2)))) wNil)) (wLst (wCons (wC (.str "by")) wNil))) (wCB rdList (wCons (wSl (wVar 3) (wPart (wC (.int 2))) wNoPart) wNil)))))
    (wsSeq (wsSet 6 (wOp rdAdd (wLst (wCons (wVar 1) (wCons (wVar 2) wNil))) (wVar 5)))
    (wsSeq (wsIf (wTest (wOp rdIs (wVar 4) (wC .non))) (wsRet (wM1 rdJoin (wC (.str " ")) (wVar 6))) wsNext)
    (wsSeq (wsIf (wTest (wIsi .tuple (wVar 4))) (wsRet (wM1 rdJoin (wC (.str " ")) (wOp rdAdd (wVar 6) (wLst (wCons (wC (.str "in")) (wCons (wCB rdStr (wCons (wOp rdIx (wVar 4) (wC (.int 0))) wNil)) (wCons (wCB rdStr (wCons (wOp rdIx (wVar 4) (wC (.int 1))) wNil)) wNil))))))) wsNext)
    (wsRet (wM1 rdJoin (wC (.str " ")) (wOp rdAdd (wVar 6) (wLst (wCons (wC (.str "=")) (wCons (wCB rdStr (wCons (wVar 4) wNil)) wNil)))))))))))
def F_part_text : FT := fun ds P _ => ∃ name k ss s, ds = [partD name k ss s] ∧ PartIs name k ss s ∧ P (.str (textOf name k ss s))
theorem st_join {w : WE} {env : En} {K : EnD} {ws : List Str} (hw : ∀ Pk : D → En → Prop, Pk (.lst (ws.map D.str)) env → w env Pk K.ex) (h1 : ∀ x ∈ ws, WordOk x) (h2 : ws.length ≤ 20) (hK : K.rt (.str (Txt.join " " ws))) : wsRet (wM1 rdJoin (wC (.str " ")) w) env K :=
  hw _ ⟨ws, strsOf_map ws, join_bound h1 h2, hK⟩
set_option maxHeartbeats 4000000 in
theorem pure_part_text (ds : List D) (P : D → Prop) (R : DX → Prop) (_ : ds.length = 1) (h : F_part_text ds P R) : w_part_text (startE 7 ds) { nx := fun _ => P .non, rt := P, ex := fun x _ => R x } := by
  obtain ⟨name, k, ss, s, rfl, hp, hP⟩ := h
  have hw := hp.words
  have hl := hp.wlen
  have szs : (100 : Nat) ≤ sizeLine := by decide
  refine st_tup4 (fun Pk h => h) ?_
  refine st_set (fun d => d = .lst ((endW k ss).map D.str)) (fun Pk hPk => ?_) (fun d hd => ?_)
  · have q := hPk _ rfl
    have hs := hp.len
    cases k with
    | tie => match ss, hs with | [a, b], _ => exact q
    | oneway => match ss, hs with | [a, b], _ => exact q
    | gate => match ss, hs with | [a, b, c, d], _ => exact ⟨(by show (1 : Nat) ≤ sizeLine; omega), (by show (3 : Nat) ≤ sizeLine; omega), (by show (5 : Nat) ≤ sizeLine; omega), q⟩
    | push => match ss, hs with | [a], _ => exact q
    | keep => match ss, hs with | [a], _ => exact q
  subst hd
  refine st_set (fun d => d = .lst ((name :: Kind.nm k :: endW k ss).map D.str)) (fun Pk hPk => ?_) (fun d hd => ?_)
  · refine ⟨(by show (2 : Nat) ≤ sizeLine; omega), ?_, hPk _ rfl⟩
    have e : (partW name k ss s).length = 2 + (endW k ss).length + (sW s).length := by
      unfold partW
      rw [List.length_cons, List.length_cons, List.length_append]
      omega
    show 2 + ((endW k ss).map D.str).length ≤ sizeLine
    rw [List.length_map]
    omega
  subst hd
  have hk : ∀ (tail : List Str), sW s = tail → ((name :: Kind.nm k :: endW k ss).map D.str) ++ tail.map D.str = (partW name k ss s).map D.str := fun tail e => by
    rw [← List.map_append, ← e]
    rfl
  have hle : ((name :: Kind.nm k :: endW k ss).map D.str).length + 3 ≤ sizeLine := by
    rw [List.length_map]
    have e : (partW name k ss s).length = (name :: Kind.nm k :: endW k ss).length + (sW s).length := by
      unfold partW
      simp only [List.length_cons, List.length_append]
      omega
    omega
  have hP' : P (.str (Txt.join " " (partW name k ss s))) := hP
  cases hp.form with
  | non =>
    refine st_ifN true (fun Pk h => h) (fun _ => ?_) (fun h => nomatch h)
    refine st_join (ws := partW name k ss .non) (fun Pk h => ?_) hw (by omega) hP'
    rw [← hk [] rfl, List.map_nil, List.append_nil] at h
    exact h
  | @pair a b h1 h2 h3 =>
    refine st_ifN false (fun Pk h => h) (fun h => nomatch h) (fun _ => ?_)
    refine st_ifN true (fun Pk h => h) (fun _ => ?_) (fun h => nomatch h)
    refine st_join (ws := partW name k ss (.tup [.int a, .int b])) (fun Pk h => ?_) hw (by omega) hP'
    rw [← hk ["in", numS a, numS b] rfl] at h
    refine ⟨_, at_0, log_1920 (by omega), _, at_1, log_1920 (by omega), (by show (3 : Nat) ≤ sizeLine; omega), hle, h⟩
  | @one i h1 h2 =>
    refine st_ifN false (fun Pk h => h) (fun h => nomatch h) (fun _ => ?_)
    refine st_ifN false (fun Pk h => h) (fun h => nomatch h) (fun _ => ?_)
    refine st_join (ws := partW name k ss (.int i)) (fun Pk h => ?_) hw (by omega) hP'
    rw [← hk ["=", numS i] rfl] at h
    exact ⟨log_1920 (by omega), (by show (2 : Nat) ≤ sizeLine; omega), (by show _ + 2 ≤ sizeLine; omega), h⟩
set_option maxHeartbeats 4000000 in
theorem pure_law_part_text (ds : List D) (P : D → Prop) (R : DX → Prop) (_ : ds.length = 1) (h : F_part_text ds P R) : w_law_part_text (startE 2 ds) { nx := fun _ => P .non, rt := P, ex := fun x _ => R x } := by
  obtain ⟨name, k, ss, s, rfl, hp, hP⟩ := h
  have hw := hp.words
  have hl := hp.wlen
  have szs : (100 : Nat) ≤ sizeLine := by decide
  have hs := hp.len
  have hle : ((name :: Kind.nm k :: endW k ss).map D.str).length + 3 ≤ sizeLine := by
    rw [List.length_map]
    have e : (partW name k ss s).length = (name :: Kind.nm k :: endW k ss).length + (sW s).length := by
      unfold partW
      simp only [List.length_cons, List.length_append]
      omega
    omega
  have at2 : ∀ {a b c d : D}, atI [a, b, c, d] 2 = some c := fun {a b c d} => rfl
  have at3 : ∀ {a b c d : D}, atI [a, b, c, d] 3 = some d := fun {a b c d} => rfl
  have z1 : (1 : Nat) ≤ sizeLine := by omega
  have z2 : (2 : Nat) ≤ sizeLine := by omega
  have z3 : (3 : Nat) ≤ sizeLine := by omega
  have z4 : (4 : Nat) ≤ sizeLine := by omega
  have z8 : (8 : Nat) ≤ sizeLine := by omega
  have rest : wsSeq (wsIf (wTest (wOp rdIs (wOp rdIx (wVar 0) (wC (.int 3))) (wC .non))) (wsRet (wM1 rdJoin (wC (.str " ")) (wVar 1))) wsNext)
    (wsSeq (wsIf (wTest (wIsi .tuple (wOp rdIx (wVar 0) (wC (.int 3))))) (wsRet (wM1 rdJoin (wC (.str " ")) (wOp rdAdd (wVar 1) (wLst (wCons (wC (.str "in")) (wCons (wCB rdStr (wCons (wOp rdIx (wOp rdIx (wVar 0) (wC (.int 3))) (wC (.int 0))) wNil)) (wCons (wCB rdStr (wCons (wOp rdIx (wOp rdIx (wVar 0) (wC (.int 3))) (wC (.int 1))) wNil)) wNil))))))) wsNext)
    (wsRet (wM1 rdJoin (wC (.str " ")) (wOp rdAdd (wVar 1) (wLst (wCons (wC (.str "=")) (wCons (wCB rdStr (wCons (wOp rdIx (wVar 0) (wC (.int 3))) wNil)) wNil)))))))
    [.v (partD name k ss s), .v (.lst ((name :: Kind.nm k :: endW k ss).map D.str))] { nx := fun _ => P .non, rt := P, ex := fun x _ => R x } := by
    have hk : ∀ (tail : List Str), sW s = tail → ((name :: Kind.nm k :: endW k ss).map D.str) ++ tail.map D.str = (partW name k ss s).map D.str := fun tail e => by
      rw [← List.map_append, ← e]
      rfl
    have hP' : P (.str (Txt.join " " (partW name k ss s))) := hP
    cases hp.form with
    | non =>
      refine st_ifN true (fun Pk h => ⟨_, at3, h⟩) (fun _ => ?_) (fun h => nomatch h)
      refine st_join (ws := partW name k ss .non) (fun Pk h => ?_) hw (by omega) hP'
      rw [← hk [] rfl, List.map_nil, List.append_nil] at h
      exact h
    | @pair a b h1 h2 h3 =>
      refine st_ifN false (fun Pk h => ⟨_, at3, h⟩) (fun h => nomatch h) (fun _ => ?_)
      refine st_ifN true (fun Pk h => ⟨_, at3, h⟩) (fun _ => ?_) (fun h => nomatch h)
      refine st_join (ws := partW name k ss (.tup [.int a, .int b])) (fun Pk h => ?_) hw (by omega) hP'
      rw [← hk ["in", numS a, numS b] rfl] at h
      refine ⟨_, at3, _, at_0, log_1920 (by omega), _, at3, _, at_1, log_1920 (by omega), z3, hle, h⟩
    | @one i h1 h2 =>
      refine st_ifN false (fun Pk h => ⟨_, at3, h⟩) (fun h => nomatch h) (fun _ => ?_)
      refine st_ifN false (fun Pk h => ⟨_, at3, h⟩) (fun h => nomatch h) (fun _ => ?_)
      refine st_join (ws := partW name k ss (.int i)) (fun Pk h => ?_) hw (by omega) hP'
      rw [← hk ["=", numS i] rfl] at h
      exact ⟨_, at3, log_1920 (by omega), z2, (by show _ + 2 ≤ sizeLine; omega), h⟩
  cases k with
  | tie =>
    match ss, hs, rest with
    | [a, b], _, rest =>
      refine st_set (fun d => d = .lst (([name, "tie", a, b] : List Str).map D.str)) (fun Pk hPk => ⟨_, at_0, _, at_1, _, at2, _, at_0, z3, _, at2, z4, hPk _ rfl⟩) (fun d hd => ?_)
      subst hd
      exact st_ifN false (fun Pk h => ⟨_, at_1, h⟩) (fun h => nomatch h) (fun _ => rest)
  | oneway =>
    match ss, hs, rest with
    | [a, b], _, rest =>
      refine st_set (fun d => d = .lst (([name, "oneway", a, b] : List Str).map D.str)) (fun Pk hPk => ⟨_, at_0, _, at_1, _, at2, _, at_0, z3, _, at2, z4, hPk _ rfl⟩) (fun d hd => ?_)
      subst hd
      exact st_ifN false (fun Pk h => ⟨_, at_1, h⟩) (fun h => nomatch h) (fun _ => rest)
  | push =>
    match ss, hs, rest with
    | [a], _, rest =>
      refine st_set (fun d => d = .lst (([name, "push", a] : List Str).map D.str)) (fun Pk hPk => ⟨_, at_0, _, at_1, _, at2, _, at_0, z3, _, at2, z3, hPk _ rfl⟩) (fun d hd => ?_)
      subst hd
      exact st_ifN false (fun Pk h => ⟨_, at_1, h⟩) (fun h => nomatch h) (fun _ => rest)
  | keep =>
    match ss, hs, rest with
    | [a], _, rest =>
      refine st_set (fun d => d = .lst (([name, "keep", a] : List Str).map D.str)) (fun Pk hPk => ⟨_, at_0, _, at_1, _, at2, _, at_0, z3, _, at2, z3, hPk _ rfl⟩) (fun d hd => ?_)
      subst hd
      exact st_ifN false (fun Pk h => ⟨_, at_1, h⟩) (fun h => nomatch h) (fun _ => rest)
  | gate =>
    match ss, hs, rest with
    | [a, b, c, e], _, rest =>
      refine st_set (fun d => d = .lst (([name, "gate", a, b] : List Str).map D.str)) (fun Pk hPk => ⟨_, at_0, _, at_1, _, at2, _, at_0, z3, _, at2, z4, hPk _ rfl⟩) (fun d hd => ?_)
      subst hd
      refine st_if true (fun Pk h => ⟨_, at_1, h⟩) (fun _ => ?_) (fun h => nomatch h)
      exact ⟨_, at2, _, at2, _, at2, _, at3, z3, (by show (7 : Nat) ≤ sizeLine; omega), rest⟩
/-! ### == of lists of texts -/
theorem toPs_strs (l : List Str) : toPs (l.map D.str) = some (l.map PyData.str) := by
  induction l with
  | nil => rfl
  | cons s l ih =>
    show (match toP (.str s), toPs (l.map D.str) with | some p, some ps => some (p :: ps) | _, _ => none) = _
    rw [ih]
    rfl
theorem shaped_strs {l : List Str} (h : ∀ s ∈ l, PyData.strOk s = true) : SeqAt.shaped (.list (l.map PyData.str)) = true := by
  have h1 : ∀ {l : List Str}, (∀ s ∈ l, PyData.strOk s = true) → PyData.canLayAll0 (l.map PyData.str) = true ∧ PyData.depthAll (l.map PyData.str) = 0 := by
    intro l
    induction l with
    | nil => intro _; exact ⟨rfl, rfl⟩
    | cons s l ih =>
      intro h
      obtain ⟨i1, i2⟩ := ih fun x hx => h x (List.mem_cons_of_mem _ hx)
      refine ⟨?_, ?_⟩
      · show (PyData.strOk s && PyData.canLayAll0 (l.map PyData.str)) = true
        rw [i1, h s List.mem_cons_self]
        rfl
      · show max 0 (PyData.depthAll (l.map PyData.str)) = 0
        rw [i2]
        rfl
  obtain ⟨q1, q2⟩ := h1 h
  show (PyData.canLayAll0 (l.map PyData.str) && decide (PyData.depthAll (l.map PyData.str) + 1 ≤ 64)) = true
  rw [q1, q2]
  rfl
theorem eqv_strs : ∀ a b : List Str, PyData.eqvAll (a.map PyData.str) (b.map PyData.str) = decide (a = b)
  | [], [] => rfl
  | [], _ :: _ => rfl
  | _ :: _, [] => rfl
  | x :: a, y :: b => by
    show ((x == y) && PyData.eqvAll (a.map PyData.str) (b.map PyData.str)) = _
    rw [eqv_strs a b]
    by_cases h : x = y
    · subst h
      simp
    · simp [h]
theorem rdEq_strs {a b : List Str} {P : D → Prop} (ha : ∀ s ∈ a, PyData.strOk s = true) (hb : ∀ s ∈ b, PyData.strOk s = true) (h : P (.bl (decide (a = b)))) : rdEq (.lst (a.map D.str)) (.lst (b.map D.str)) P := by
  refine ⟨.list (a.map PyData.str), .list (b.map PyData.str), ?_, ?_, shaped_strs ha, shaped_strs hb, ?_⟩
  · show (toPs _).map _ = _
    rw [toPs_strs]
    rfl
  · show (toPs _).map _ = _
    rw [toPs_strs]
    rfl
  · show P (.bl (PyData.eqvAll _ _))
    rw [eqv_strs]
    exact h
/-! ### strength_of_words -/
def w_strength_of_words (F_is_plain : FT) : WS :=
    (wsSeq (wsIf (wTest (wOp rdEq (wVar 0) (wLst wNil))) (wsRet (wC .non)) wsNext)
    (wsSeq (wsSet 1 (wSl (wVar 0) (wPart (wC (.int 1))) wNoPart))
    (wsSeq (wsIf (wNot (wTest (wCB rdAll (wCons (wLc [2] (wIt (wVar 1)) (wgName 2) wYes (wCall (fun ds P R => ds.length = 1 ∧ F_is_plain ds P R) [] (wCons (wVar 2) wNil))) wNil)))) (wsRet (wC (.str ""))) wsNext)
    (wsSeq (wsIf (wAnd (wTest (wOp rdEq (wOp rdIx (wVar 0) (wC (.int 0))) (wC (.str "=")))) (wTest (wOp rdEq (wCB rdLen (wCons (wVar 1) wNil)) (wC (.int 1))))) (wsRet (wCB rdInt (wCons (wOp rdIx (wVar 1) (wC (.int 0))) wNil))) wsNext)
    (wsSeq (wsIf (wAnd (wTest (wOp rdEq (wOp rdIx (wVar 0) (wC (.int 0))) (wC (.str "in")))) (wTest (wOp rdEq (wCB rdLen (wCons (wVar 1) wNil)) (wC (.int 2))))) (wsRet (wTup (wCons (wCB rdInt (wCons (wOp rdIx (wVar 1) (wC (.int 0))) wNil)) (wCons (wCB rdInt (wCons (wOp rdIx (wVar 1) (wC (.int 1))) wNil)) wNil)))) wsNext)
    (wsRet (wC (.str ""))))))))
def F_strength_of_words : FT := fun ds P _ => ∃ s, ds = [.lst ((sW s).map D.str)] ∧ SForm s ∧ P s
def plainD : D → Bool
  | .str s => plainL (tl s)
  | _ => false
theorem words_short {s : D} (f : SForm s) : ∀ w ∈ sW s, PyData.strOk w = true := fun w hw => by
  exact (words_ok (name := "a") (k := .tie) (ss := []) (by decide +kernel) (by simp) f w (by unfold partW; exact List.mem_cons_of_mem _ (List.mem_cons_of_mem _ (List.mem_append_right _ hw)))).2.2
theorem plain_k {i : Int} (h1 : -1000 ≤ i) (h2 : i ≤ 1000) : plainL (tl (numS i)) = true := plain_num (by
  have : (1001 : Nat) ≤ 10 ^ 30 := by decide
  omega)
theorem num_ok {i : Int} (h1 : -1000 ≤ i) (h2 : i ≤ 1000) : intText? (numS i) = some i ∧ (numS i).length ≤ 640 := by
  have h := numL_len (n := i.natAbs) (k := 4) (by decide) (by show i.natAbs < 10000; omega)
  refine ⟨intText_num i (by omega), ?_⟩
  have := numS_len_le (i := i) (k := 4) (by decide) (by show i.natAbs < 10000; omega)
  omega
theorem pure_strength_of_words (ds : List D) (P : D → Prop) (R : DX → Prop) (_ : ds.length = 1) (h : F_strength_of_words ds P R) : w_strength_of_words F_is_plain (startE 3 ds) { nx := fun _ => P .non, rt := P, ex := fun x _ => R x } := by
  obtain ⟨s, rfl, hf, hP⟩ := h
  have hf' := hf
  cases hf with
  | non =>
    exact st_ifN true (fun Pk h => ⟨(by decide), rdEq_strs (b := []) (words_short hf') (by simp) h⟩) (fun _ => hP) (fun h => nomatch h)
  | @pair a b h1 h2 h3 =>
    obtain ⟨a1, a2⟩ := num_ok (i := a) (by omega) (by omega)
    obtain ⟨b1, b2⟩ := num_ok (i := b) (by omega) (by omega)
    refine st_ifN false (fun Pk h => ⟨(by decide), rdEq_strs (b := []) (words_short hf') (by simp) h⟩) (fun h => nomatch h) (fun _ => ?_)
    refine st_set (fun d => d = .lst [.str (numS a), .str (numS b)]) (fun Pk hPk => hPk _ rfl) (fun d hd => ?_)
    subst hd
    refine st_ifN false (fun Pk h => ?_) (fun h => nomatch h) (fun _ => ?_)
    · refine lc_all (f := plainD) (i := 2) (l := [.str (numS a), .str (numS b)]) (by show 2 ≤ 100000; decide) (by show 2 < 3; decide) (fun Pk h => h) (fun x hx Q R q => ?_) ?_
      · simp only [List.mem_cons, List.not_mem_nil, or_false] at hx
        rcases hx with rfl | rfl
        · exact ⟨_, rfl, sz_of (by omega), q⟩
        · exact ⟨_, rfl, sz_of (by omega), q⟩
      · have e : ([.str (numS a), .str (numS b)] : List D).all plainD = true := by
          show (plainL (tl (numS a)) && (plainL (tl (numS b)) && true)) = true
          rw [plain_k (by omega) (by omega), plain_k (by omega) (by omega)]
          rfl
        rw [e]
        exact h
    refine st_ifN false (fun Pk h => ⟨_, at_0, h⟩) (fun h => nomatch h) (fun _ => ?_)
    refine st_ifN true (fun Pk h => ⟨_, at_0, h⟩) (fun _ => ?_) (fun h => nomatch h)
    exact ⟨_, at_0, a, a1, a2, _, at_1, b, b1, b2, (by show (2 : Nat) ≤ sizeLine; decide), hP⟩
  | @one i h1 h2 =>
    obtain ⟨a1, a2⟩ := num_ok (i := i) (by omega) (by omega)
    refine st_ifN false (fun Pk h => ⟨(by decide), rdEq_strs (b := []) (words_short hf') (by simp) h⟩) (fun h => nomatch h) (fun _ => ?_)
    refine st_set (fun d => d = .lst [.str (numS i)]) (fun Pk hPk => hPk _ rfl) (fun d hd => ?_)
    subst hd
    refine st_ifN false (fun Pk h => ?_) (fun h => nomatch h) (fun _ => ?_)
    · refine lc_all (f := plainD) (i := 2) (l := [.str (numS i)]) (by show 1 ≤ 100000; decide) (by show 2 < 3; decide) (fun Pk h => h) (fun x hx Q R q => ?_) ?_
      · rw [List.mem_singleton] at hx
        subst hx
        exact ⟨_, rfl, sz_of (by omega), q⟩
      · have e : ([.str (numS i)] : List D).all plainD = true := by
          show (plainL (tl (numS i)) && true) = true
          rw [plain_k (by omega) (by omega)]
          rfl
        rw [e]
        exact h
    refine st_ifN true (fun Pk h => ⟨_, at_0, h⟩) (fun _ => ?_) (fun h => nomatch h)
    exact ⟨_, at_0, i, a1, a2, hP⟩
/-! ### read_part -/
theorem pl_mono : ∀ (n : Nat) (d : D), pl n d = true → pl (n + 1) d = true
  | 0, d, h => by cases d <;> first | exact h | cases h
  | n + 1, d, h => by
    cases d <;> first | exact h | skip
    all_goals
      rename_i l
      have h' : (decide (l.length ≤ 100000) && l.all (pl n)) = true := h
      show (decide (l.length ≤ 100000) && l.all (pl (n + 1))) = true
      rw [Bool.and_eq_true] at h' ⊢
      exact ⟨h'.1, List.all_eq_true.mpr fun x hx => pl_mono n x (List.all_eq_true.mp h'.2 x hx)⟩
theorem pl4 {a b c d : D} (h1 : pl 2 a = true) (h2 : pl 2 b = true) (h3 : pl 2 c = true) (h4 : pl 2 d = true) : pl 3 (.tup [a, b, c, d]) = true := by
  show (true && (pl 2 a && (pl 2 b && (pl 2 c && (pl 2 d && true))))) = true
  rw [h1, h2, h3, h4]
  rfl
theorem kindOf_nm (k : Kind) : kindOf (Kind.nm k) = some k := by cases k <;> rfl
theorem pl_word {n : Nat} {s : Str} (h : WordOk s) : pl n (.str s) = true := by
  have e : pl n (.str s) = decide (s.length ≤ 100000) := by cases n <;> rfl
  rw [e]
  exact decide_eq_true (by have := h.1; omega)
theorem pl_form {s : D} (h : SForm s) : pl 2 s = true := by
  cases h <;> rfl
theorem PartIs.isPart {name : Str} {k : Kind} {ss : List Str} {s : D} (h : PartIs name k ss s) : isPartB (partD name k ss s) = true ∧ pl 3 (partD name k ss s) = true := by
  have q : pl 2 (.tup (ss.map D.str)) = true := by
    show (decide ((ss.map D.str).length ≤ 100000) && (ss.map D.str).all (pl 1)) = true
    have h1 : (ss.map D.str).length ≤ 100000 := by
      rw [List.length_map, h.len]
      have : Kind.size k ≤ 4 := by cases k <;> decide
      omega
    have h2 : (ss.map D.str).all (pl 1) = true := List.all_eq_true.mpr fun x hx => by
      obtain ⟨y, hy, rfl⟩ := List.mem_map.mp hx
      exact pl_word (word_end (h.ends y hy))
    rw [decide_eq_true h1, h2]
    rfl
  refine ⟨?_, pl4 (pl_word (word_name h.nm)) (by cases k <;> decide +kernel) q (pl_form h.form)⟩
  show (isNameB (.str name) && restB (kindOf (Kind.nm k)) (.tup (ss.map D.str)) s) = true
  rw [kindOf_nm]
  show (isName name && (endsOk k (ss.map D.str) && strengthB k s)) = true
  rw [h.nm, h.ok, h.str]
  rfl
def w_read_part (F_is_part : FT) (F_strength_of_words : FT) : WS :=
    (wsSeq (wsIf (wNot (wTest (wIsi .str (wVar 0)))) wsNever wsNext)
    (wsSeq (wsSet 1 (wM1 rdSplit (wVar 0) (wC (.str " "))))
    (wsSeq (wsIf (wOr (wTest (wOp rdLt (wCB rdLen (wCons (wVar 1) wNil)) (wC (.int 3)))) (wTest (wOp (rdIn true) (wOp rdIx (wVar 1) (wC (.int 1))) (wC (.tup [.str "tie", .str "oneway", .str "gate", .str "push", .str "keep"]))))) wsNever wsNext)
    (wsSeq (wsSet 2 (wOp rdIx (wVar 1) (wC (.int 1))))
    (wsSeq (wsIf (wTest (wOp rdEq (wVar 2) (wC (.str "gate")))) (wsSeq (wsIf (wOr (wTest (wOp rdLt (wCB rdLen (wCons (wVar 1) wNil)) (wC (.int 7)))) (wTest (wOp rdNe (wOp rdIx (wVar 1) (wC (.int 4))) (wC (.str "by"))))) wsNever wsNext)
    (wsSet 1 (wOp rdAdd (wSl (wVar 1) wNoPart (wPart (wC (.int 4)))) (wSl (wVar 1) (wPart (wC (.int 5))) wNoPart)))) wsNext)
    (wsSeq (wsSet 3 (wOp rdAdd (wC (.int 2)) (wKD [("tie", 2), ("oneway", 2), ("gate", 4), ("push", 1), ("keep", 1)] (wVar 2))))
    (wsSeq (wsSet 4 (wTup (wCons (wOp rdIx (wVar 1) (wC (.int 0))) (wCons (wVar 2) (wCons (wCB rdTuple (wCons (wSl (wVar 1) (wPart (wC (.int 2))) (wPart (wVar 3))) wNil)) (wCons (wCall (fun ds P R => ds.length = 1 ∧ F_strength_of_words ds P R) [] (wCons (wSl (wVar 1) (wPart (wVar 3)) wNoPart) wNil)) wNil))))))
    (wsSeq (wsIf (wNot (wTest (wCall (fun ds P R => ds.length = 1 ∧ F_is_part ds P R) [] (wCons (wVar 4) wNil)))) wsNever wsNext)
    (wsRet (wVar 4))))))))))
def F_read_part : FT := fun ds P _ => ∃ name k ss s, ds = [.str (textOf name k ss s)] ∧ PartIs name k ss s ∧ P (partD name k ss s)
theorem c_cons {w : WE} {u : WA} {env : En} {P : List D → En → Prop} {R : QX} (A : D) (hw : ∀ Pk : D → En → Prop, Pk A env → w env Pk R) (hu : u env (fun ds e => P (A :: ds) e) R) : wCons w u env P R := hw _ hu
theorem or_f {w u : WT} {env : En} {P : Bool → En → Prop} {R : QX} (hw : ∀ Pk : Bool → En → Prop, Pk false env → w env Pk R) (hu : u env P R) : wOr w u env P R := hw _ hu
theorem t_len_lt {i : Nat} {l : List D} {n : Int} {env : En} {P : Bool → En → Prop} {R : QX} (hv : env[i]? = some (.v (.lst l))) (b : Bool) (e : decide ((l.length : Int) < n) = b) (h : P b env) : wTest (wOp rdLt (wCB rdLen (wCons (wVar i) wNil)) (wC (.int n))) env P R := by
  unfold wTest wOp wCB wCons wVar
  rw [hv]
  refine ⟨trivial, ?_⟩
  show P (decide ((l.length : Int) < n)) env
  rw [e]
  exact h
theorem all_flat_kinds : ([.str "tie", .str "oneway", .str "gate", .str "push", .str "keep"] : List D).all flatD = true := rfl
set_option maxHeartbeats 4000000 in
theorem pure_read_part (ds : List D) (P : D → Prop) (R : DX → Prop) (_ : ds.length = 1) (h : F_read_part ds P R) : w_read_part F_is_part F_strength_of_words (startE 5 ds) { nx := fun _ => P .non, rt := P, ex := fun x _ => R x } := by
  obtain ⟨name, k, ss, s, rfl, hp, hP⟩ := h
  have hw := hp.words
  have hl := hp.wlen
  have szs : (2000 : Nat) ≤ sizeLine := by decide
  have ne : partW name k ss s ≠ [] := by unfold partW; simp
  have tlen : (textOf name k ss s).length ≤ 1000 := text_len hw (by omega)
  refine st_ifN false (fun Pk h => h) (fun h => nomatch h) (fun _ => ?_)
  refine st_set (fun d => d = .lst ((partW name k ss s).map D.str)) (fun Pk hPk => ⟨rfl, by omega, ?_⟩) (fun d hd => ?_)
  · have e : Txt.split (textOf name k ss s) " " = partW name k ss s := split_words ne hw
    rw [e]
    exact hPk _ rfl
  subst hd
  have e1 : atI ((partW name k ss s).map D.str) 1 = some (.str (Kind.nm k)) := at_1
  refine st_ifN false (fun Pk h => ?_) (fun h => nomatch h) (fun _ => ?_)
  · have e : ¬ ((((partW name k ss s).map D.str).length : Int) < 3) := by rw [List.length_map]; omega
    refine or_f (fun Pk h => t_len_lt rfl _ (decide_eq_false e) h) ?_
    refine ⟨_, e1, rfl, rfl, ?_⟩
    show Pk (if true then !inD (.str (Kind.nm k)) _ else _) _
    rw [if_pos rfl, kind_in k]
    exact h
  refine st_set (fun d => d = .str (Kind.nm k)) (fun Pk hPk => ⟨_, e1, hPk _ rfl⟩) (fun d hd => ?_)
  subst hd
  refine (?_ : ∀ (b : WS) (K : EnD), b [.v (.str (textOf name k ss s)), .v (.lst ((name :: Kind.nm k :: (ss ++ sW s)).map D.str)), .v (.str (Kind.nm k)), .no, .no] K → wsSeq (wsIf (wTest (wOp rdEq (wVar 2) (wC (.str "gate")))) (wsSeq (wsIf (wOr (wTest (wOp rdLt (wCB rdLen (wCons (wVar 1) wNil)) (wC (.int 7)))) (wTest (wOp rdNe (wOp rdIx (wVar 1) (wC (.int 4))) (wC (.str "by"))))) wsNever wsNext)
    (wsSet 1 (wOp rdAdd (wSl (wVar 1) wNoPart (wPart (wC (.int 4)))) (wSl (wVar 1) (wPart (wC (.int 5))) wNoPart)))) wsNext) b [.v (.str (textOf name k ss s)), .v (.lst ((partW name k ss s).map D.str)), .v (.str (Kind.nm k)), .no, .no] K) _ _ ?_
  · intro b K hb
    have hs := hp.len
    cases k with
    | gate =>
      match ss, hs, hb with
      | [x, y, u, v], _, hb =>
        refine st_if true (fun Pk h => h) (fun _ => ?_) (fun h => nomatch h)
        have hW : partW name .gate [x, y, u, v] s = [name, "gate", x, y, "by", u, v] ++ sW s := rfl
        have hlen : ¬ ((((partW name .gate [x, y, u, v] s).map D.str).length : Int) < 7) := by
          rw [hW, List.length_map, List.length_append]
          show ¬ (((7 + (sW s).length : Nat) : Int) < 7)
          omega
        have e4 : atI ((partW name .gate [x, y, u, v] s).map D.str) 4 = some (.str "by") := by
          unfold atI ixN
          rw [if_pos (by decide), if_pos (by rw [hW, List.length_map, List.length_append]; show (4 : Int) < ((7 + (sW s).length : Nat) : Int); omega)]
          rfl
        refine st_ifN false (fun Pk h => ?_) (fun h => nomatch h) (fun _ => ?_)
        · exact or_f (fun Pk h => t_len_lt rfl _ (decide_eq_false hlen) h) ⟨_, e4, h⟩
        refine st_set1 (fun d => d = .lst ((name :: Kind.nm .gate :: ([x, y, u, v] ++ sW s)).map D.str)) (fun Pk hPk => ?_) (fun d hd => ?_)
        · show (cutD ((partW name .gate [x, y, u, v] s).map D.str) none (some ((4 : Nat) : Int))).length + (cutD ((partW name .gate [x, y, u, v] s).map D.str) (some ((5 : Nat) : Int)) none).length ≤ sizeLine ∧ Pk (.lst (cutD ((partW name .gate [x, y, u, v] s).map D.str) none (some ((4 : Nat) : Int)) ++ cutD ((partW name .gate [x, y, u, v] s).map D.str) (some ((5 : Nat) : Int)) none)) _
          rw [cut_to, cut_from]
          refine ⟨?_, hPk _ ?_⟩
          · rw [List.length_take, List.length_drop, List.length_map]
            omega
          · rw [hW]
            rfl
        subst hd
        exact hb
    | tie => exact st_if false (fun Pk h => h) (fun h => nomatch h) (fun _ => hb)
    | oneway => exact st_if false (fun Pk h => h) (fun h => nomatch h) (fun _ => hb)
    | push => exact st_if false (fun Pk h => h) (fun h => nomatch h) (fun _ => hb)
    | keep => exact st_if false (fun Pk h => h) (fun h => nomatch h) (fun _ => hb)
  refine st_set (fun d => d = .int ((2 + Kind.size k : Nat) : Int)) (fun Pk hPk => ⟨(Kind.size k : Int), kd_size k, hPk _ ?_⟩) (fun d hd => ?_)
  · congr 1
  subst hd
  refine st_set (fun d => d = partD name k ss s) (fun Pk hPk => ?_) (fun d hd => ?_)
  · have q1 : cutD ((name :: Kind.nm k :: (ss ++ sW s)).map D.str) (some ((2 : Nat) : Int)) (some ((2 + Kind.size k : Nat) : Int)) = ss.map D.str := by
      rw [cut_mid, Nat.add_sub_cancel_left]
      show ((ss ++ sW s).map D.str).take (Kind.size k) = _
      rw [List.map_append, List.take_append_of_le_length (by rw [List.length_map, hp.len]; exact Nat.le_refl _), List.take_of_length_le (by rw [List.length_map, hp.len]; exact Nat.le_refl _)]
    have q2 : cutD ((name :: Kind.nm k :: (ss ++ sW s)).map D.str) (some ((2 + Kind.size k : Nat) : Int)) none = (sW s).map D.str := by
      rw [cut_from, Nat.add_comm]
      show ((ss ++ sW s).map D.str).drop (Kind.size k) = _
      rw [List.map_append, List.drop_append_of_le_length (by rw [List.length_map, hp.len]; exact Nat.le_refl _), List.drop_of_length_le (by rw [List.length_map, hp.len]; exact Nat.le_refl _), List.nil_append]
    refine (?_ : wTup _ _ _ _)
    refine (?_ : wCons _ _ _ _ _)
    refine c_cons (.str name) (fun Pk h => ⟨_, at_0, h⟩) ?_
    refine c_cons (.str (Kind.nm k)) (fun Pk h => h) ?_
    refine c_cons (.tup (ss.map D.str)) (fun Pk h => ?_) ?_
    · rw [← q1] at h
      exact h
    refine c_cons s (fun Pk h => ?_) ⟨(by show (4 : Nat) ≤ sizeLine; omega), hPk _ rfl⟩
    have h2 : ([D.lst (cutD ((name :: Kind.nm k :: (ss ++ sW s)).map D.str) (some ((2 + Kind.size k : Nat) : Int)) none)] : List D).length = 1 ∧ F_strength_of_words [D.lst (cutD ((name :: Kind.nm k :: (ss ++ sW s)).map D.str) (some ((2 + Kind.size k : Nat) : Int)) none)] (fun d => Pk d ([Sl.v (.str (textOf name k ss s)), .v (.lst ((name :: Kind.nm k :: (ss ++ sW s)).map D.str)), .v (.str (Kind.nm k)), .v (.int ((2 + Kind.size k : Nat) : Int)), .no] : En)) (fun x => R x) := by
      rw [q2]
      exact ⟨rfl, s, rfl, hp.form, h⟩
    exact h2
  subst hd
  obtain ⟨p1, p2⟩ := hp.isPart
  refine st_ifN false (fun Pk h => ⟨rfl, _, 3, rfl, p2, ?_⟩) (fun h => nomatch h) (fun _ => hP)
  rw [p1]
  exact h
end Pu
set_option maxRecDepth 100000
/-! Instances of the program's classes, as data: fields, methods, making -/
namespace Pu
open PySem L2 PySem.Spec PyProof.Rows
/-! ### fields -/
def wFld (c f : Str) (w : WE) : WE := fun env P R => w env (fun d e => match d with
  | .ins c' fs => c' = c ∧ ∃ d', fs.lookup f = some d' ∧ P d' e
  | _ => False) R
theorem ins_at {X : Cx} {F : Fc} (hx : XOk X F) {G : Hp} {v : V} {c : Str} {fs : List (Str × D)} {C : Addr} (r : Rep F.wd G v (.ins c fs)) (hm : X.mg c = some (.ref C)) :
    ∃ a dx fv, v = .ref a ∧ CI X.K C ∧ G a = some (.ins C dx fv) ∧ RepF F.wd G fv fs := by
  cases r with
  | ins m1 ci g1 rf =>
    rw [hx.m, hm] at m1
    cases m1
    exact ⟨_, _, _, rfl, hx.k ▸ ci, g1, rf⟩
section
variable {X : Cx} {W : WX} {e : Expr} {es : List Expr} {pos apos : Pos}
theorem px_fld {c f : Str} {w : WE} {C : Addr} (hm : X.mg c = some (.ref C)) (na : NoAttr X.K C f) (he : PX X W e w) (hb : attributeBase e f X.env (eval e X.env) = eval e X.env := by rfl) : PX X W (.Attribute e f pos) (wFld c f w) := by
  obtain ⟨t, a1, a2⟩ := he.ex
  refine ⟨⟨_, pe_fld a1 hb, fun F env σ G H P R Q hx hs hw hq hk => a2 F env σ G H _ R _ hx hs hw (fun d e1 v G1 H1 p s1 x1 r1 => ?_) hk⟩⟩
  cases d <;> first | exact p.elim | skip
  obtain ⟨rfl, d', h1, h2⟩ := p
  obtain ⟨a, dx, fv, rfl, ci, g1, rf⟩ := ins_at hx r1 hm
  obtain ⟨v', l1, r2⟩ := rf.get h1
  exact ⟨_, _, _, _, v', rfl, s1.exG _ _ g1, ci.cl, na, l1, hq d' e1 v' G1 H1 h2 s1 x1 r2⟩
/-! ### a field stored: the frame's own instance -/
def putD (f : Str) (v : D) : List (Str × D) → List (Str × D)
  | [] => [(f, v)]
  | (g, x) :: r => if g = f then (g, v) :: r else (g, x) :: putD f v r
theorem RepF.put {w : Wd} {G : Hp} {f : Str} {v : V} {d : D} (h : Rep w G v d) : ∀ {vs : List (Str × V)} {ds : List (Str × D)}, RepF w G vs ds → RepF w G (putF f v vs) (putD f d ds)
  | _, _, .nil => .cons h .nil
  | _, _, @RepF.cons _ _ g x y vs ds r t => by
    unfold putF putD
    by_cases e : g = f
    · rw [if_pos e, if_pos e]
      exact .cons h t
    · rw [if_neg e, if_neg e]
      exact .cons r (t.put h)
def wsFld (i : Nat) (c f : Str) (w : WE) : WS := fun env K => w env (fun d e1 => match e1[i]? with
  | some (.ol (.ins c' fs)) => c' = c ∧ fs.length < 1000 ∧ K.nx (e1.set i (.ol (.ins c' (putD f d fs))))
  | _ => False) K.ex
theorem ps_fldS {i : Nat} {x c f : Str} {w : WE} {C : Addr} {pos' pos2 : Pos} (hm : X.mg c = some (.ref C)) (na : NoAttr X.K C f) (h : PE X (.Name x pos') (tVar i)) (he : PX X W e w)
    (hs : swapsWith e (some (.Attribute (.Name x pos') f pos2)) pos.line X.env = pure false := by rfl) : PXS X W (.Assign [.Attribute (.Name x pos') f pos2] e pos) (wsFld i c f w) := by
  obtain ⟨t, a1, a2⟩ := he.ex
  refine ⟨⟨_, ps_fld h a1 hs, fun F env σ G H P Q hx hs hw hq => a2 F env σ G H _ _ _ hx hs hw (fun d e1 v G1 H1 p s1 x1 r1 => ?_) (hq.ex σ)⟩⟩
  cases e2 : e1[i]? with
  | none => rw [e2] at p; exact p.elim
  | some s =>
    rw [e2] at p
    cases s with
    | no => exact p.elim
    | v d => exact p.elim
    | fz d => exact p.elim
    | ol o =>
      cases o <;> first | exact p.elim | skip
      obtain ⟨rfl, pl, pn⟩ := p
      obtain ⟨a, ho, g1, g2, g3, g4, g5, g6⟩ := s1.sl i _ e2
      cases g5 with
      | @ins _ C' dx fv _ m1 ci rf =>
      have hC : C' = C := by
        rw [hx.m, hm] at m1
        cases m1
        rfl
      subst hC
      refine ⟨_, g1, a, C', dx, fv, rfl, g4, by rw [← hx.k]; exact ci.cl, na, by rw [rf.length]; exact pl, ?_⟩
      exact hq.nx _ _ G1 _ pn (s1.reown e2 g1 (.ins m1 ci (RepF.put r1 rf)) (fun _ => rfl)) x1
/-! ### methods -/
def wMeth (c m : Str) (n : Nat) (F : FT) (dd : List D) (wo : WE) (u : WA) : WE := fun env P R => wo env (fun o e1 => match o with
  | .ins c' fs => c' = c ∧ fs.lookup m = none ∧ u e1 (fun ds e => ((D.ins c' fs :: ds) ++ dd).length = n ∧ F ((D.ins c' fs :: ds) ++ dd) (fun d => P d e) fun x => R x e) R
  | _ => False) R
variable {k n : Nat} {f C : Addr} {fd : FuncData} {ps : List Str} {F : FT} {c m : Str} {p : Pos} {u : WA} {ds : List Value} {dvs : List V} {dd : List D} {o : Expr} {wo : WE}
theorem pe_methS {pl : Sem Bool} {sp : Sp} {CX : CXT} {E : L2.St → XK} {ta : TE} {t : TA} (he : PE X o ta) (cl : Cls X.K C) (hm : Meth X.K C m f) (F : FnOk X.prog X.w X.K X.mg X.base CX k f fd ps sp) (hr : Room k X.A) (hb : Binds X.K fd ps ds) (hd : Vals dvs ds) (hx : ∀ σ, PassesAt CX X σ (E σ)) (ha : PA X (e :: es) t)
    (hst : starEach (e :: es) X.env = (false, eval e X.env) :: starEach es X.env := by rfl) (hpl : (backTo pos (starEach es X.env)).any (·.1) = false := by rfl)
    (ht : eval (.Call (.Attribute o m apos) (e :: es) [] pos) X.env = (do
      let ov ← eval o X.env
      standAt apos.atName
      let (f, first) ← holding [ov] (getMethod ov m pl)
      callWith pos f first (backTo pos (starEach (e :: es) X.env)) (backToKw pos (keywordEach [] X.env))) := by rfl) :
    PE X (.Call (.Attribute o m apos) (e :: es) [] pos) (fun σ H Q => tMeth C m sp dvs (E σ) ta t σ H Q) := by
  refine ⟨fun pins s σ H Q I h => ?_⟩
  refine PySem.W.methodCall_KW (pl := pl) (thn (he.run pins s σ H _ I h) fun u s1 ⟨x, H1, I1, rx, a, dx, fs, ex, ea, l, q⟩ => ?_) ht
  subst ex
  obtain rfl : u = Value.ref a := rx
  refine getmeth_ok I1 ea cl hm l ?_
  refine PySem.W.callWith_K (first := [.ref a]) (h₀ := X.base) I.ok.mod.kin hm.kp (thn (ha.run pos pins s1 σ H1 _ I1 q) fun us s2 ⟨vs, H2, I2, r, q2⟩ => ⟨I2.kIn, ?_⟩) hst hpl
  exact run_fnSD (E := E) (us := .ref a :: us) (vs := .ref a :: vs) F hr hb hd (hx σ) I2 (.cons rfl r) q2
theorem pe_methS0 {pl : Sem Bool} {sp : Sp} {CX : CXT} {E : L2.St → XK} {ta : TE} (he : PE X o ta) (cl : Cls X.K C) (hm : Meth X.K C m f) (F : FnOk X.prog X.w X.K X.mg X.base CX k f fd ps sp) (hr : Room k X.A) (hb : Binds X.K fd ps ds) (hd : Vals dvs ds) (hx : ∀ σ, PassesAt CX X σ (E σ))
    (ht : eval (.Call (.Attribute o m apos) [] [] pos) X.env = (do
      let ov ← eval o X.env
      standAt apos.atName
      let (f, first) ← holding [ov] (getMethod ov m pl)
      callWith pos f first (backTo pos (starEach [] X.env)) (backToKw pos (keywordEach [] X.env))) := by rfl) :
    PE X (.Call (.Attribute o m apos) [] [] pos) (fun σ H Q => tMeth C m sp dvs (E σ) ta tNil σ H Q) := by
  refine ⟨fun pins s σ H Q I h => ?_⟩
  refine PySem.W.methodCall_KW (pl := pl) (thn (he.run pins s σ H _ I h) fun u s1 ⟨x, H1, I1, rx, a, dx, fs, ex, ea, l, q⟩ => ?_) ht
  subst ex
  obtain rfl : u = Value.ref a := rx
  refine getmeth_ok I1 ea cl hm l ?_
  exact PySem.W.callWith_K0 (first := [.ref a]) I1.kIn hm.kp (run_fnSD (E := E) (us := [.ref a]) (vs := [.ref a]) F hr hb hd (hx σ) I1 (.cons rfl .nil) q)
theorem px_meth {pl : Sem Bool} (cl : Cls X.K C) (hmg : X.mg c = some (.ref C)) (hm : Meth X.K C m f) (Fn : FnOk X.prog X.w X.K X.mg X.base (L2.CX X.prog X.w) k f fd ps (spP X.K X.mg n F)) (hr : Room k X.A) (hb : Binds X.K fd ps ds) (hd : Vals dvs ds) (hdd : ∀ (w : Wd) (G : Hp), Reps w G dvs dd) (tk : Takes X W)
    (ho : PX X W o wo) (ha : PXA X W (e :: es) u)
    (hst : starEach (e :: es) X.env = (false, eval e X.env) :: starEach es X.env := by rfl) (hpl : (backTo pos (starEach es X.env)).any (·.1) = false := by rfl)
    (ht : eval (.Call (.Attribute o m apos) (e :: es) [] pos) X.env = (do
      let ov ← eval o X.env
      standAt apos.atName
      let (f, first) ← holding [ov] (getMethod ov m pl)
      callWith pos f first (backTo pos (starEach (e :: es) X.env)) (backToKw pos (keywordEach [] X.env))) := by rfl) :
    PX X W (.Call (.Attribute o m apos) (e :: es) [] pos) (wMeth c m n F dd wo u) := by
  obtain ⟨t, a1, a2⟩ := ho.ex
  obtain ⟨t', b1, b2⟩ := ha.ex
  refine ⟨⟨_, pe_methS (E := L2.WE W) a1 cl hm Fn hr hb hd (fun σ => passAt tk σ) b1 hst hpl ht, fun Fc' env σ G H P R Q hx hs hw hq hk => a2 Fc' env σ G H _ R _ hx hs hw (fun d e1 v G1 H1 p1 s1 x1 r1 => ?_) hk⟩⟩
  cases d <;> first | exact p1.elim | skip
  obtain ⟨rfl, hl, p1⟩ := p1
  obtain ⟨a, dx, fv, rfl, ci, g1, rf⟩ := ins_at hx r1 hmg
  refine ⟨a, dx, fv, rfl, s1.exG _ _ g1, rf.none hl, b2 Fc' e1 σ G1 H1 _ R _ hx s1 p1 (fun as e2 vs G2 H2 p2 s2 x2 r2 => ?_) hk⟩
  exact call_run (vs := .ref a :: vs) hx p2.1 hdd s2 (.cons (r1.mono x2) r2) p2.2 (fun d e' v G' H' p s x r => hq d e' v G' H' p s ((x1.trans x2).trans x) r) hk
theorem px_meth0 {pl : Sem Bool} (cl : Cls X.K C) (hmg : X.mg c = some (.ref C)) (hm : Meth X.K C m f) (Fn : FnOk X.prog X.w X.K X.mg X.base (L2.CX X.prog X.w) k f fd ps (spP X.K X.mg n F)) (hr : Room k X.A) (hb : Binds X.K fd ps ds) (hd : Vals dvs ds) (hdd : ∀ (w : Wd) (G : Hp), Reps w G dvs dd) (tk : Takes X W)
    (ho : PX X W o wo)
    (ht : eval (.Call (.Attribute o m apos) [] [] pos) X.env = (do
      let ov ← eval o X.env
      standAt apos.atName
      let (f, first) ← holding [ov] (getMethod ov m pl)
      callWith pos f first (backTo pos (starEach [] X.env)) (backToKw pos (keywordEach [] X.env))) := by rfl) :
    PX X W (.Call (.Attribute o m apos) [] [] pos) (wMeth c m n F dd wo wNil) := by
  obtain ⟨t, a1, a2⟩ := ho.ex
  refine ⟨⟨_, pe_methS0 (E := L2.WE W) a1 cl hm Fn hr hb hd (fun σ => passAt tk σ) ht, fun Fc' env σ G H P R Q hx hs hw hq hk => a2 Fc' env σ G H _ R _ hx hs hw (fun d e1 v G1 H1 p1 s1 x1 r1 => ?_) hk⟩⟩
  cases d <;> first | exact p1.elim | skip
  obtain ⟨rfl, hl, p2⟩ := p1
  obtain ⟨a, dx, fv, rfl, ci, g1, rf⟩ := ins_at hx r1 hmg
  refine ⟨a, dx, fv, rfl, s1.exG _ _ g1, rf.none hl, ?_⟩
  exact call_run (vs := [.ref a]) hx p2.1 hdd s1 (.cons r1 .nil) p2.2 (fun d e' v G' H' p s x r => hq d e' v G' H' p s (x1.trans x) r) hk
/-! ### making: the promise of an __init__ -/
/-- P is told of the made instance; n: the written parameters (self not counted) -/
def spI (K : PySem.W.Frag) (mg : Str → Option Value) (c : Str) (n : Nat) (F : FT) : Sp := fun vs H Q E => ∃ (b : Option Addr) (G H0 : Hp) (x dx C : Addr) (vs' : List V) (ds : List D) (P : D → Prop) (R : DX → Prop),
  vs = .ref x :: vs' ∧ H = upd (upd H0 dx (.own x)) x (.ins C dx []) ∧ H0 x = none ∧ H0 dx = none ∧ dx ≠ x ∧ mg c = some (.ref C) ∧ CI K C ∧ Pre ⟨K, mg, b⟩ G H0 ∧ Reps ⟨K, mg, b⟩ G vs' ds ∧ ds.length = n ∧ F ds P R ∧
  (∀ fs G' H', P (.ins c fs) → Post ⟨K, mg, b⟩ G H0 G' H' → Rep ⟨K, mg, b⟩ G' (.ref x) (.ins c fs) → Q .non H') ∧ ∀ e cls dct G' H', R e → Post ⟨K, mg, b⟩ G H0 G' H' → RX ⟨K, mg, b⟩ G' e cls dct → E cls dct H'
theorem spI_len {K : PySem.W.Frag} {mg : Str → Option Value} {c : Str} {n : Nat} {F : FT} {vs : List V} {H : Hp} {Q : VK} {E : XK} (h : spI K mg c n F vs H Q E) : vs.length = n + 1 := by
  obtain ⟨b, G, H0, x, dx, C, vs', ds, P, R, rfl, _, _, _, _, _, _, _, r, hl, _⟩ := h
  rw [List.length_cons, r.length, hl]
theorem run_makeS {pins : List (Addr × Obj)} {σ : L2.St} {H : Hp} {s : Shared} {Q : VK} {us : List Value} {vs : List V} {CX : CXT} {E : XK} {sp : Sp} (M : Mk X.K C f) (F : FnOk X.prog X.w X.K X.mg X.base CX k f fd ps sp) (hr : Room (k + 1) X.A) (hb : Binds X.K fd ps ds) (hd : Vals dvs ds)
    (hx : PassesAt CX X σ E) (I : Inv X pins σ H s) (r : Vals vs us)
    (h : ∀ x dx, H x = none → H dx = none → dx ≠ x → sp (.ref x :: (vs ++ dvs)) (upd (upd H dx (.own x)) x (.ins C dx [])) (fun v H2 => v = .non ∧ Q (.ref x) H2) E) :
    wpAny (model X.prog X.w) X.A (call (.ref C) us) (EP X pins σ Q) X.xe s := by
  have hq := h (s.heap.objs.size + 1) s.heap.objs.size (I.hok.fresh (Nat.le_succ _)) (I.hok.fresh (Nat.le_refl _)) (Nat.ne_of_lt (Nat.lt_succ_self _))
  have I2 := Inv.made (C := C) I
  have r2 : Vals (V.ref (s.heap.objs.size + 1) :: (vs ++ dvs)) (Value.ref (s.heap.objs.size + 1) :: (us ++ ds)) := .cons rfl (r.append hd)
  have hl : (Value.ref (s.heap.objs.size + 1) :: us ++ ds).length = ps.length := by
    have e := r2.length
    rw [F.len _ _ _ _ hq] at e
    exact e.symm
  refine wpAny_call (make_map (f := f) I.kIn M.makes M.init (beq_iff_eq.mp M.fn) (codeAny_mono (F.run _ X.stack _ _ ⟨Value.ref (s.heap.objs.size + 1) :: us, []⟩ (Value.ref (s.heap.objs.size + 1) :: (us ++ ds)) _ _ E (hr.make C us [])
    (I2.env0.make C us []) (hb _ (Value.ref (s.heap.objs.size + 1) :: us) I2.kIn hl) r2 hq) fun r s' hq' => ?_))
  cases r with
  | error e => exact hx pins _ _ e s' I2 hq'
  | ok fl =>
    cases fl with
    | ret u =>
      obtain ⟨v, H', I3, rv, ev, q3⟩ := I2.after hq'
      subst ev
      exact ⟨rv, ⟨V.ref (s.heap.objs.size + 1), H', I3, rfl, q3⟩⟩
    | next => exact False.elim hq'
    | brk => exact False.elim hq'
    | cont => exact False.elim hq'
theorem make_run {Fc' : Fc} {env : En} {σ : L2.St} {G H : Hp} {vs : List V} {as : List D} {P : D → En → Prop} {R : QX} {Q : VK} (ci : CI X.K C) (hmg : X.mg c = some (.ref C)) (hx : XOk X Fc') (hn : (as ++ dd).length = n) (hdd : ∀ (w : Wd) (G : Hp), Reps w G dvs dd) (s1 : SI Fc' env σ G H) (r1 : Reps Fc'.wd G vs as) (p1 : F (as ++ dd) (fun d => P d env) fun x => R x env)
    (hq : ∀ d env' v G' H', P d env' → SI Fc' env' σ G' H' → Ex G G' → Rep Fc'.wd G' v d → Q v H') (hk : XK' Fc' W σ R) : ∀ x dx, H x = none → H dx = none → dx ≠ x → spI X.K X.mg c n F (.ref x :: (vs ++ dvs)) (upd (upd H dx (.own x)) x (.ins C dx [])) (fun v H2 => v = .non ∧ Q (.ref x) H2) (L2.WE W σ) := by
  intro x dx h1 h2 h3
  obtain ⟨⟨K, mg, b⟩, G0, H0, pins, self⟩ := Fc'
  obtain ⟨e1, e2, _⟩ := hx
  cases e1
  cases e2
  exact ⟨b, G, H, x, dx, C, vs ++ dvs, as ++ dd, _, _, rfl, rfl, h1, h2, h3, hmg, ci, s1.pre, r1.append (hdd _ _), hn, p1, fun fs G' H' p po r => ⟨rfl, hq _ env _ G' H' p (s1.step po) po.ex r⟩, fun x cls dct G' H' p po r => hk x env cls dct G' H' p (s1.step po) r⟩
def wMake (F : FT) (n : Nat) (dd : List D) (u : WA) : WE := fun env P R => u env (fun ds e => (ds ++ dd).length = n ∧ F (ds ++ dd) (fun d => P d e) fun x => R x e) R
theorem px_make (ci : CI X.K C) (M : Mk X.K C f) (Fn : FnOk X.prog X.w X.K X.mg X.base (L2.CX X.prog X.w) k f fd ps (spI X.K X.mg c n F)) (hr : Room (k + 1) X.A) (hg : Gl X c) (hmg : X.mg c = some (.ref C)) (hb : Binds X.K fd ps ds) (hd : Vals dvs ds) (hdd : ∀ (w : Wd) (G : Hp), Reps w G dvs dd) (tk : Takes X W)
    (ha : PXA X W (e :: es) u) (hdb : (c == ("__debug__" : Str)) = false := by decide) (he : starEach (e :: es) X.env = (false, eval e X.env) :: starEach es X.env := by rfl) (hpl : (backTo pos (starEach es X.env)).any (·.1) = false := by rfl) :
    PX X W (.Call (.Name c p) (e :: es) [] pos) (wMake F n dd u) := by
  obtain ⟨t, a1, a2⟩ := ha.ex
  refine ⟨⟨fun σ H Q => t σ H fun vs H1 => ∀ x dx, H1 x = none → H1 dx = none → dx ≠ x → spI X.K X.mg c n F (.ref x :: (vs ++ dvs)) (upd (upd H1 dx (.own x)) x (.ins C dx [])) (fun v H2 => v = .non ∧ Q (.ref x) H2) (L2.WE W σ), ⟨fun pins s σ H Q I h => ?_⟩, fun Fc' env σ G H P R Q hx hs hw hq hk => a2 Fc' env σ G H _ R _ hx hs hw (fun as e1 vs G1 H1 p1 s1 x1 r1 => ?_) hk⟩⟩
  · refine wpAny_Call_Name_kw (ld_glob I hg hmg ?_ hdb)
    refine PySem.W.callWith_K (h₀ := X.base) I.ok.mod.kin M.kp (thn (a1.run pos pins s σ H _ I h) fun us s1 ⟨vs, H1, I1, r, q⟩ => ⟨I1.kIn, ?_⟩) he hpl
    exact run_makeS M Fn hr hb hd (passAt tk σ) I1 r q
  · exact make_run ci hmg hx p1.1 hdd s1 r1 p1.2 (fun d e' v G' H' p s x r => hq d e' v G' H' p s (x1.trans x) r) hk
theorem px_make0 (ci : CI X.K C) (M : Mk X.K C f) (Fn : FnOk X.prog X.w X.K X.mg X.base (L2.CX X.prog X.w) k f fd ps (spI X.K X.mg c n F)) (hr : Room (k + 1) X.A) (hg : Gl X c) (hmg : X.mg c = some (.ref C)) (hb : Binds X.K fd ps ds) (hd : Vals dvs ds) (hdd : ∀ (w : Wd) (G : Hp), Reps w G dvs dd) (tk : Takes X W)
    (hdb : (c == ("__debug__" : Str)) = false := by decide) :
    PX X W (.Call (.Name c p) [] [] pos) (wMake F n dd wNil) := by
  refine ⟨⟨fun σ H Q => ∀ x dx, H x = none → H dx = none → dx ≠ x → spI X.K X.mg c n F (.ref x :: ([] ++ dvs)) (upd (upd H dx (.own x)) x (.ins C dx [])) (fun v H2 => v = .non ∧ Q (.ref x) H2) (L2.WE W σ), ⟨fun pins s σ H Q I h => ?_⟩, fun Fc' env σ G H P R Q hx hs hw hq hk => ?_⟩⟩
  · refine wpAny_Call_Name_kw (ld_glob I hg hmg ?_ hdb)
    exact PySem.W.callWith_K0 I.kIn M.kp (run_makeS (us := []) (vs := []) M Fn hr hb hd (passAt tk σ) I .nil h)
  · exact make_run (as := []) (vs := []) ci hmg hx hw.1 hdd hs .nil hw.2 (fun d e' v G' H' p s x r => hq d e' v G' H' p s x r) hk
end
/-! ### the def of an __init__ -/
def startI (c : Str) (n : Nat) (ds : List D) : En := .ol (.ins c []) :: startE (n - 1) ds
theorem startI_si {w : Wd} {G H0 : Hp} {c : Str} {x dx C : Addr} {vs : List V} {ds : List D} {N : List Str} (hN : 0 < N.length) (hm : w.mg c = some (.ref C)) (ci : CI w.K C) (h1 : H0 x = none) (h2 : H0 dx = none) (h3 : dx ≠ x) (p : Pre w G H0) (r : Reps w G vs ds) :
    SI { wd := w, G0 := G, H0 := H0, self := x } (startI c N.length ds) (L2.start N (.ref x :: vs)) G (upd (upd H0 dx (.own x)) x (.ins C dx [])) := by
  have hno : ∀ (j : Nat) (l : OD), (startE (N.length - 1) ds)[j]? ≠ some (.ol l) := fun j l e => by
    unfold startE at e
    by_cases hj : j < ds.length
    · rw [List.getElem?_append_left (by simpa using hj), List.getElem?_map, List.getElem?_eq_getElem hj] at e
      cases e
    · rw [List.getElem?_append_right (by simpa using hj), List.getElem?_replicate] at e
      split at e <;> cases e
  have keep : ∀ a o, H0 a = some o → upd (upd H0 dx (.own x)) x (.ins C dx []) a = some o := fun a o h => by
    rw [upd_ne (ne_of_none h h1), upd_ne (ne_of_none h h2)]
    exact h
  have po : Post w G H0 G (upd (upd H0 dx (.own x)) x (.ins C dx [])) := by
    refine ⟨Ex.refl _, fun a o h => keep a o (p.exG a o h), fun a o _ h => keep a o h, fun a h => .inl h, fun β hβ => ?_⟩
    obtain ⟨b1, b2, b3⟩ := p.bag β hβ
    have n1 : β ≠ x := fun z => by rw [z] at b2; exact b2 h1
    have n2 : β ≠ dx := fun z => by rw [z] at b2; exact b2 h2
    have e : upd (upd H0 dx (.own x)) x (.ins C dx []) β = H0 β := by rw [upd_ne n1, upd_ne n2]
    exact ⟨b1, by rw [e]; exact b2, b3.mono (Ex.refl _) e⟩
  have st : L2.start N (.ref x :: vs) = some (.ref x) :: (vs.map some ++ List.replicate (N.length - 1 - vs.length) none) := by
    unfold L2.start
    show some (V.ref x) :: (vs.map some ++ List.replicate (N.length - (vs.length + 1)) none) = _
    rw [show N.length - (vs.length + 1) = N.length - 1 - vs.length by omega]
  refine ⟨p, po, ?_, fun i s e => ?_, fun i j l l' a hij e1 e2 _ => ?_, (fun q hq => by cases hq), tabs_nil, fun q hq => by cases hq⟩
  · rw [st]
    unfold startI startE
    rw [List.length_cons, List.length_cons, List.length_append, List.length_append, List.length_map, List.length_map, List.length_replicate, List.length_replicate, r.length]
  · rw [st]
    match i, e with
    | 0, e =>
      cases e
      exact ⟨x, _, rfl, h1, p.exG.back h1, upd_same, .ins hm ci .nil, fun _ => rfl⟩
    | i + 1, e =>
      have e' : (startE (N.length - 1) ds)[i]? = some s := e
      show SlOk _ G _ s ((vs.map some ++ List.replicate (N.length - 1 - vs.length) none)[i]?)
      unfold startE at e'
      by_cases hj : i < ds.length
      · rw [List.getElem?_append_left (by simpa using hj), List.getElem?_map, List.getElem?_eq_getElem hj] at e'
        cases e'
        obtain ⟨v, q1, q2⟩ := r.getD (List.getElem?_eq_getElem hj)
        refine ⟨v, ?_, q2⟩
        rw [List.getElem?_append_left (by rw [List.length_map, r.length]; exact hj), List.getElem?_map, q1]
        rfl
      · rw [List.getElem?_append_right (by simpa using hj), List.getElem?_replicate] at e'
        split at e'
        · cases e'
          trivial
        · cases e'
  · match i, j, hij, e1, e2 with
    | 0, 0, hij, _, _ => exact absurd rfl hij
    | 0, j + 1, _, _, e2 => exact absurd e2 (hno j l')
    | i + 1, _, _, e1, _ => exact absurd e1 (hno i l)
/-- what stands in the first slot, made -/
def endI (c : Str) (P : D → Prop) : En → Prop := fun env => match env[0]? with
  | some (Sl.ol (.ins c' fs)) => c' = c ∧ P (.ins c fs)
  | some (Sl.fz (.ins c' fs)) => c' = c ∧ P (.ins c fs)
  | _ => False
section
variable {P : Program} {w : World} {K : PySem.W.Frag} {mg : Str → Option Value} {base : Heap}
abbrev endsI (c : Str) (Pd : D → Prop) (R : DX → Prop) : EnD := { nx := endI c Pd, rt := fun _ => False, ex := fun x _ => R x }
/-- what a walked body gives its promise -/
theorem init_body {qual : Str} {sc : Scope} {body : List Stmt} {f : Addr} {N : List Str} {c : Str} {F : FT} {m : Nat} {cdv : Value} {A : Around} {outer : List Env} {s : Shared} {H : Hp} {E : XK} {vs : List V} {Q : VK} {ws : WS} (hN : 0 < N.length)
    (h : spI K mg c m F vs H Q E) (hb : PXB (cxOf (L2.CX P w) P w K mg base N qual sc f cdv A outer s H E) (WDef E) body ws)
    (hw : ∀ (ds : List D) (Pd : D → Prop) (R : DX → Prop), ds.length = m → F ds Pd R → ws (startI c N.length ds) (endsI c Pd R)) (hNl : N.contains ("<lambda>" : Str) = false := by decide) :
    ∃ t, PSs (cxOf (L2.CX P w) P w K mg base N qual sc f cdv A outer s H E) body t ∧ t { nx := fun _ H' => Q .non H', rt := Q } (L2.start N vs) H := by
  obtain ⟨b, G, H0, x, dx, C, vs', ds, Pd, R, rfl, rfl, h1, h2, h3, hm, ci, hp, r, hl, hF, k1, k2⟩ := h
  obtain ⟨t, t1, t2⟩ := hb.ex
  refine ⟨t, t1, t2 _ (startI c N.length ds) _ G _ (endsI c Pd R) _ (XOk.mk' hNl rfl rfl) (startI_si hN hm ci h1 h2 h3 hp r) (hw ds Pd R hl hF) ?_⟩
  refine ⟨fun env σ' G' H' p s1 x1 => ?_, fun d v e1 σ1 G1 H1 p s1 r1 => p.elim, fun _ _ _ _ z => z.elim, fun _ _ _ _ z => z.elim, fun σ1 x e1 cls dct G1 H1 p s1 rx => k2 x cls dct G1 H1 p s1.post rx⟩
  have p' : endI c Pd env := p
  unfold endI at p'
  cases e : env[0]? with
  | none => rw [e] at p'; exact p'.elim
  | some sl =>
    rw [e] at p'
    cases sl with
    | no => exact p'.elim
    | v d => exact p'.elim
    | fz d =>
      cases d <;> first | exact p'.elim | skip
      obtain ⟨rfl, p2⟩ := p'
      obtain ⟨q1, q2⟩ := s1.sl 0 _ e
      exact k1 _ G' H' p2 s1.post q2
    | ol o =>
      cases o <;> first | exact p'.elim | skip
      obtain ⟨rfl, p2⟩ := p'
      obtain ⟨a, G2, q1, e1, s2, q2⟩ := s1.freeze e rfl
      have s3 := s2.sl 0 (.fz _) (by
        have hl : 0 < env.length := (List.getElem?_eq_some_iff.mp e).1
        rw [List.getElem?_set, if_pos rfl, if_pos hl]
        rfl)
      exact k1 _ G2 H' p2 s2.post s3.2
/-- THE RULE for an __init__ -/
theorem init_ok {x qual : Str} {st : Stmt} {f : Addr} {fd : FuncData} {N ps : List Str} {k m : Nat} {c : Str} {F : FT} (Fn : Fun K x qual st f fd) (S : FnScope N ps (defScope st)) (hps : ps.length = m + 1) (hN : 0 < N.length)
    (body : ∀ (cdv : Value) (A : Around) (outer : List Env) (s : Shared) (H : Hp) (E : XK), Room k (A.deeper (envOfC qual (defScope st) s.heap.objs.size f cdv)) →
      ∃ ws : WS, PXB (cxOf (L2.CX P w) P w K mg base N qual (defScope st) f cdv A outer s H E) (WDef E) (defBody st) ws ∧
        ∀ (ds : List D) (Pd : D → Prop) (R : DX → Prop), ds.length = m → F ds Pd R → ws (startI c N.length ds) (endsI c Pd R)) (hNl : N.contains ("<lambda>" : Str) = false := by decide) :
    FnOk P w K mg base (L2.CX P w) (k + 1) f fd ps (spI K mg c m F) := by
  refine Fn.okX S (fun vs H Q E h => by rw [spI_len h, hps]) (fun cdv A outer s H vs Q E hr h => ?_)
  obtain ⟨ws, hb, hw⟩ := body cdv A outer s H E hr
  exact init_body hN h hb hw hNl
/-- one with defaults -/
theorem init_okD {x qual : Str} {params : Arguments} {bd : List Stmt} {sc : Scope} {dvs : List V} {kws : List (Str × V)} {f : Addr} {fd : FuncData} {N ps : List Str} {k m : Nat} {c : Str} {F : FT} (Fn : FunD K x qual params bd sc dvs kws f fd) (S : FnScope N ps sc) (hps : ps.length = m + 1) (hN : 0 < N.length)
    (body : ∀ (cdv : Value) (A : Around) (outer : List Env) (s : Shared) (H : Hp) (E : XK), Room k (A.deeper (envOfC qual sc s.heap.objs.size f cdv)) →
      ∃ ws : WS, PXB (cxOf (L2.CX P w) P w K mg base N qual sc f cdv A outer s H E) (WDef E) bd ws ∧
        ∀ (ds : List D) (Pd : D → Prop) (R : DX → Prop), ds.length = m → F ds Pd R → ws (startI c N.length ds) (endsI c Pd R)) (hNl : N.contains ("<lambda>" : Str) = false := by decide) :
    FnOk P w K mg base (L2.CX P w) (k + 1) f fd ps (spI K mg c m F) := by
  refine Fn.ok S (fun vs H Q E h => by rw [spI_len h, hps]) (fun cdv A outer s H vs Q E hr h => ?_)
  obtain ⟨ws, hb, hw⟩ := body cdv A outer s H E hr
  exact init_body hN h hb hw hNl
end
/-! ### isinstance of a class of the program -/
def isCD (c : Str) (subs : List (Str × Bool)) : D → Option Bool
  | .ins c' _ => if c' = c then some true else subs.lookup c'
  | .bag => none
  | .dt _ => none
  | .exc _ _ => none
  | .fn _ _ => none
  | .typ _ => none
  | _ => some false
def wIsiC (c : Str) (subs : List (Str × Bool)) (w : WE) : WE := fun env P R => w env (fun d e => match isCD c subs d with
  | some b => P (.bl b) e
  | none => False) R
theorem kit_builtin {K : PySem.W.Frag} {C : Addr} {k : String} (ci : CI K C) (hk : k ∈ (["NoneType", "int", "str", "bool", "list", "tuple", "dict"] : List String)) : PySem.W.kitOne K (.type k) (.ref C) = some false := by
  unfold PySem.W.kitOne
  rw [if_neg (by intro z; cases (beq_iff_eq.mp z))]
  show (if _ then PySem.W.subIn K (.type k) (.ref C) else none) = _
  rw [if_pos ci.kc]
  show (PySem.fastBuiltinMro k).map (·.contains (Value.ref C)) = _
  simp only [List.mem_cons, List.not_mem_nil, or_false] at hk
  have key : ∀ k : String, (∃ l, PySem.fastBuiltinMro k = some l ∧ l.all (fun v => match v with | .ref _ => false | _ => true) = true) → (PySem.fastBuiltinMro k).map (·.contains (Value.ref C)) = some false := by
    intro k ⟨l, h1, h2⟩
    rw [h1]
    show some (l.contains (Value.ref C)) = some false
    congr 1
    rw [Bool.eq_false_iff]
    intro z
    have hm := List.contains_iff_mem.mp z
    have := List.all_eq_true.mp h2 _ hm
    cases this
  rcases hk with rfl | rfl | rfl | rfl | rfl | rfl | rfl
  all_goals exact key _ ⟨_, rfl, by decide +kernel⟩
section
variable {X : Cx} {W : WX} {a : Expr} {wa : WE} {pos : Pos}
theorem px_isiC {c : Str} {subs : List (Str × Bool)} {C : Addr} {p p2 : Pos} (ci : CI X.K C) (hgT : Gl X c) (hmT : X.mg c = some (.ref C)) (hsub : ∀ q ∈ subs, ∀ C', X.mg q.1 = some (.ref C') → PySem.W.kitOne X.K (.ref C') (.ref C) = some q.2) (hg : Gl X "isinstance") (hm : X.mg "isinstance" = none) (ha : PX X W a wa) (hdT : (c == ("__debug__" : Str)) = false := by decide)
    (he : starEach (a :: [.Name c p2]) X.env = (false, eval a X.env) :: starEach [.Name c p2] X.env := by rfl) (hpl : (backTo pos (starEach [.Name c p2] X.env)).any (·.1) = false := by rfl) (he2 : starEach [.Name c p2] X.env = (false, eval (.Name c p2) X.env) :: starEach [] X.env := by rfl) :
    PX X W (.Call (.Name "isinstance" p) [a, .Name c p2] [] pos) (wIsiC c subs wa) := by
  obtain ⟨t, a1, a2⟩ := ha.ex
  have hT : PE X (.Name c p2) (tC (.ref C)) := pe_glob hgT hmT rfl hdT
  refine ⟨⟨_, pe_callB call_isi hg hm (by decide +kernel) (pa_cons a1 (pa_cons hT pa_nil he2) he) (by decide) (by decide) he hpl, fun F env σ G H P R Q hx hs hw hq hk => a2 F env σ G H _ R _ hx hs hw (fun d e1 v G1 H1 p s1 x1 r1 => ?_) hk⟩⟩
  cases e0 : isCD c subs d with
  | none => rw [e0] at p; exact p.elim
  | some bb =>
    rw [e0] at p
    have basic : ∀ k, kindD d = some k → k ∈ (["NoneType", "int", "str", "bool", "list", "tuple", "dict"] : List String) → bb = false → tCB (rIsi X.K) (tCons (fun σ H Q => Q v H) (tCons (tC (.ref C)) tNil)) σ H1 Q := fun k h1 h2 h3 => by
      subst h3
      have ty := kind_ok r1 s1.exG h1
      rw [hx.k] at ty
      exact ⟨v, _, _, _, false, rfl, .own C, ty, kit_builtin ci h2, hq _ e1 _ G1 H1 p s1 x1 .bl⟩
    cases d with
    | bag => cases e0
    | dt _ => cases e0
    | exc _ _ => cases e0
    | fn _ _ => cases e0
    | typ _ => cases e0
    | non => cases e0; exact basic _ rfl (by decide) rfl
    | bl _ => cases e0; exact basic _ rfl (by decide) rfl
    | int _ => cases e0; exact basic _ rfl (by decide) rfl
    | str _ => cases e0; exact basic _ rfl (by decide) rfl
    | lst _ => cases e0; exact basic _ rfl (by decide) rfl
    | tup _ => cases e0; exact basic _ rfl (by decide) rfl
    | dk _ => cases e0; exact basic _ rfl (by decide) rfl
    | ins c' fs =>
      cases r1 with
      | @ins _ C' _ dx fv _ m1 ci' g1 rf =>
      rw [hx.m] at m1
      rw [hx.k] at ci'
      have ty : TyX X.K H1 (.ref _) (.ref C') := .base (.ins (s1.exG _ _ g1) ci'.cl ci'.ha ci'.hn ci'.htk ci'.hm)
      refine ⟨_, _, _, _, bb, rfl, .own C, ty, ?_, hq _ e1 _ G1 H1 p s1 x1 .bl⟩
      have e0' : (if c' = c then some true else subs.lookup c') = some bb := e0
      by_cases z : c' = c
      · rw [if_pos z] at e0'
        cases e0'
        subst z
        rw [hmT] at m1
        cases m1
        unfold PySem.W.kitOne
        rw [if_pos (by simp)]
      · rw [if_neg z] at e0'
        exact hsub (c', bb) (PySem.mem_of_lookup e0') C' m1
end
end Pu
set_option maxRecDepth 100000
/-! Operators of the program's own classes -/
namespace PuOwn
open PySem PySem.W PySem.Calls PyProof.Rows Builtin
section
variable {prog : Program} {w : World} {A : Around} {E : Value → Shared → Prop} {s : Shared} {K : Frag} {x C f g dx L : Addr} {h₀ : Heap} {m : Str → Option Value} {od : Option Obj}
/-- an int's operator beside an instance: not implemented -/
theorem dec_add {i : Int} {t : Tok} {R : Result → Shared → Prop} {s : Shared} (hx : s.heap.get? x = some (instObj C dx)) (h : R (.ok (.ret .notImplemented)) s) :
    wpAny (model prog w) A (Builtin.«int.__add__» ⟨[.int i t, .ref x], []⟩) (fun fin s' => ∃ v, fin = .done (.ret v) ∧ R (.ok (.ret v)) s') (fun e s' => R (.error e) s') s := by
  obtain ⟨hp, g, d, tk, os⟩ := s
  wp_walk
  exact ⟨_, rfl, h⟩
theorem dec_sub {i : Int} {t : Tok} {R : Result → Shared → Prop} {s : Shared} (hx : s.heap.get? x = some (instObj C dx)) (h : R (.ok (.ret .notImplemented)) s) :
    wpAny (model prog w) A (Builtin.«int.__sub__» ⟨[.int i t, .ref x], []⟩) (fun fin s' => ∃ v, fin = .done (.ret v) ∧ R (.ok (.ret v)) s') (fun e s' => R (.error e) s') s := by
  obtain ⟨hp, g, d, tk, os⟩ := s
  wp_walk
  exact ⟨_, rfl, h⟩
theorem dec_mul {i : Int} {t : Tok} {R : Result → Shared → Prop} {s : Shared} (hx : s.heap.get? x = some (instObj C dx)) (h : R (.ok (.ret .notImplemented)) s) :
    wpAny (model prog w) A (Builtin.«int.__mul__» ⟨[.int i t, .ref x], []⟩) (fun fin s' => ∃ v, fin = .done (.ret v) ∧ R (.ok (.ret v)) s') (fun e s' => R (.error e) s') s := by
  obtain ⟨hp, g, d, tk, os⟩ := s
  wp_walk
  exact ⟨_, rfl, h⟩
theorem dec_eq {i : Int} {t : Tok} {R : Result → Shared → Prop} {s : Shared} (hx : s.heap.get? x = some (instObj C dx)) (h : R (.ok (.ret .notImplemented)) s) :
    wpAny (model prog w) A (Builtin.«int.__eq__» ⟨[.int i t, .ref x], []⟩) (fun fin s' => ∃ v, fin = .done (.ret v) ∧ R (.ok (.ret v)) s') (fun e s' => R (.error e) s') s := by
  obtain ⟨hp, g, d, tk, os⟩ := s
  wp_walk
  exact ⟨_, rfl, h⟩
theorem refl_K {op : Operator} {i : Int} {t : Tok} {id : String} {B : Builtin} {Q : Value → Shared → Prop} (F : Fr h₀ L s.heap m) (X₀ : K.In h₀) (I : InstAt s.heap x (instObj C dx) C od) (hc : selfFirst K C = true)
    (hs : findIn K (.ref C) (PySem.dunder op.info.2) = some (some (.ref g))) (hr : findIn K (.ref C) (dunderR op.info.2) = some (some (.ref f))) (hf : isFn K (.ref f) = true) (hsub : mroIn K C (.type "int") = some false)
    (fills : fillsNumberSlot (.type "int") op.info.2 = pure true) (sl : Slot "int" (PySem.dunder op.info.2) id) (en : entryFor table id = some B) (ar : argsOk id ⟨[.int i t, .ref x], []⟩)
    (dec : ∀ {R : Result → Shared → Prop}, R (.ok (.ret .notImplemented)) s → wpAny (model prog w) A.in1 (B ⟨[.int i t, .ref x], []⟩) (fun fin s' => ∃ v, fin = .done (.ret v) ∧ R (.ok (.ret v)) s') (fun e s' => R (.error e) s') s)
    (h : wpAny (model prog w) A (call (.ref f) [.ref x, .int i t]) (PySem.W.CmpBack Q) E s) : wpAny (model prog w) A (binaryOp op (.int i t) (.ref x)) Q E s := by
  have X := X₀.keeps F.keep
  obtain ⟨cd, rest, hcd, hm⟩ := ksp_first hc
  rcases hi : op.info with ⟨sym, nm'⟩
  rw [hi] at hs hr fills sl
  dsimp only at hs hr fills sl
  have one := ksp_try X I hr hf h
  have L3 : Looks (model prog w) s.heap (fillsNumberSlot (.ref C) nm') true := fills_K X hcd hm hs
  have L5 : Looks (model prog w) s.heap (isSubtype (.ref C) (.type "int")) false := looks_subIn X hsub
  have hne : (Value.type "int" == Value.ref C) = false := Bool.eq_false_iff.mpr fun q => by cases beq_iff_eq.mp q
  have hpy : numberSlotInPython (.type "int") nm' = pure false := rfl
  have hT : s.TypeIs (.int i t) "int" := by first | rfl | exact rfl
  simp only [binaryOp, hi]
  refine wpAny_holding (wpAny_bind ?_)
  unfold binaryOp1
  refine wpAny_bind (wpAny_typeOf hT (wpAny_bind (I.type.at (wpAny_bind (wpAny_of_eq fills ?_)))))
  simp only [hne, Bool.false_eq_true, if_false]
  refine wpAny_bind (L3.at ?_)
  simp only [Bool.and_self, if_true]
  refine wpAny_bind (L5.at ?_)
  simp only [Bool.false_eq_true, if_false, pure_bind, Bool.not_false, Bool.and_self, if_true, hpy]
  refine wpAny_bind (wpAny_tryMethod_declines hT sl (wpAny_call_entry sl hT en ?_ ar))
  refine wpAny_mono (dec (R := fun r s' => ∃ v, r = .ok (.ret v) ∧ v = .notImplemented ∧ s' = s) ⟨_, rfl, rfl, rfl⟩) (fun fin s' hq => ?_) fun e s' hq => ?_
  · obtain ⟨v, rfl, v', e, e2, rfl⟩ := hq
    cases e
    refine ⟨_, rfl, e2, ?_⟩
    refine wpAny_bind (wpAny_mono one (fun r s' hr' => ?_) fun _ _ e => e)
    obtain ⟨v, rfl, hq⟩ := hr'
    exact wpAny_bind (wpAny_rule (wpAny_pure (wpAny_pure hq)))
  · obtain ⟨v, e, _⟩ := hq
    cases e
theorem tryCmp_K {name : Str} {b : Value} {Q : Value → Shared → Prop} (X : K.In s.heap) (I : InstAt s.heap x (instObj C dx) C od) (hs : findIn K (.ref C) name = some (some (.ref f))) (hf : isFn K (.ref f) = true)
    (h : wpAny (model prog w) A (call (.ref f) [.ref x, b]) (PySem.W.CmpBack Q) E s) : wpAny (model prog w) A (tryCompare (.ref x) name b) (fun r s' => ∃ v, r = some v ∧ Q v s') E s := by
  unfold tryCompare
  refine wpAny_bind (ifBound_K X I hs hf (wpAny_mono h (fun v s' hv => ?_) fun _ _ e => e))
  cases v <;> first | exact hv.elim | exact wpAny_pure ⟨_, rfl, hv⟩
/-- int == inst, by the class's own == -/
theorem eqRefl_K {i : Int} {t : Tok} {Q : Value → Shared → Prop} (hu : A.units < cLine) (F : Fr h₀ L s.heap m) (X₀ : K.In h₀) (I : InstAt s.heap x (instObj C dx) C od)
    (hs : findIn K (.ref C) "__eq__" = some (some (.ref f))) (hf : isFn K (.ref f) = true) (hsub : mroIn K C (.type "int") = some false)
    (h : wpAny (model prog w) A (call (.ref f) [.ref x, .int i t]) (PySem.W.CmpBack Q) E s) : wpAny (model prog w) A (richCompare .Eq (.int i t) (.ref x)) Q E s := by
  have X := X₀.keeps F.keep
  have one := tryCmp_K (name := "__eq__") X I hs hf h
  have L5 : Looks (model prog w) s.heap (isSubtype (.ref C) (.type "int")) false := looks_subIn X hsub
  have hne : (Value.type "int" != Value.ref C) = true := by simp
  have hT : s.TypeIs (.int i t) "int" := by first | rfl | exact rfl
  unfold richCompare
  refine wpAny_holding (wpAny_bind (wpAny_cRoomFor hu ?_))
  rw [show oneThing? .Eq (.int i t) (.ref x) = none from rfl]
  refine wpAny_bind (wpAny_typeOf hT (wpAny_bind (I.type.at ?_)))
  simp only [hne, if_true]
  refine wpAny_bind (L5.at ?_)
  simp only [Bool.false_eq_true, if_false, Bool.not_false, if_true]
  refine wpAny_bind (wpAny_tryCompare_declines hT slot_int_eq (wpAny_call_entry slot_int_eq hT entry_int_eq ?_ (args_int_eq _ _)))
  refine wpAny_mono (dec_eq (R := fun r s' => ∃ v, r = .ok (.ret v) ∧ v = .notImplemented ∧ s' = s) I.at_ ⟨_, rfl, rfl, rfl⟩) (fun fin s' hq => ?_) fun e s' hq => ?_
  · obtain ⟨v, rfl, v', e, e2, rfl⟩ := hq
    cases e
    refine ⟨_, rfl, e2, ?_⟩
    refine wpAny_bind (wpAny_mono one (fun r s' hr' => ?_) fun _ _ e => e)
    obtain ⟨v, rfl, hq⟩ := hr'
    exact wpAny_pure hq
  · obtain ⟨v, e, _⟩ := hq
    cases e
end
end PuOwn
set_option maxRecDepth 100000
/-! Operators of the program's own classes, over data -/
namespace Pu
open PySem L2 PySem.Spec PyProof.Rows
section
variable {X : Cx} {W : WX} {a b : Expr} {wa wb : WE} {pos : Pos}
/-- an operator on values, its wish told at the slots -/
def OwnR (X : Cx) (f : Value → Value → Sem Value) (r : L2.St → R2) : Prop :=
  ∀ (pins : List (Addr × Obj)) (s : Shared) (σ : L2.St) (H : Hp) (x y : V) (v u : Value) (Q : VK), Inv X pins σ H s → RelV x v → RelV y u → r σ x y H Q →
    wpAny (model X.prog X.w) X.A (f v u) (EP X pins σ Q) X.xe s
theorem OwnR.of {f : Value → Value → Sem Value} {r : R2} (h : OpR X f r) : OwnR X f (fun _ => r) := fun pins s σ H x y v u Q I rx ry q => h pins s σ H x y v u Q I rx ry q
theorem OwnR.or {f : Value → Value → Sem Value} {r r' : L2.St → R2} (h : OwnR X f r) (h' : OwnR X f r') : OwnR X f (fun σ x y H Q => r σ x y H Q ∨ r' σ x y H Q) := by
  intro pins s σ H x y v u Q I rx ry q
  rcases q with q | q
  · exact h pins s σ H x y v u Q I rx ry q
  · exact h' pins s σ H x y v u Q I rx ry q
def tOpS (r : L2.St → R2) (ta tb : TE) : TE := fun σ H Q => ta σ H fun x H1 => tb σ H1 fun y H2 => r σ x y H2 Q
theorem pe_opS {op : Operator} {r : L2.St → R2} {ta tb : TE} (ho : OwnR X (binaryOp op) r) (ha : PE X a ta) (hb : PE X b tb) : PE X (.BinOp a op b pos) (tOpS r ta tb) := by
  refine ⟨fun pins s σ H Q I h => ?_⟩
  exact wpAny_BinOp (binT ha hb I h fun v u s2 x y H2 I2 rx ry q => ho pins s2 σ H2 x y v u Q I2 rx ry q)
theorem pe_cmpS {op : CmpOp} {r : L2.St → R2} {ta tb : TE} (ho : OwnR X (compareOp op) r) (ha : PE X a ta) (hb : PE X b tb) (hm : behindInMarks op b = false) : PE X (.Compare a [op] [b] pos) (tOpS r ta tb) := by
  refine ⟨fun pins s σ H Q I h => ?_⟩
  exact wpAny_Compare1 (binT ha hb I h fun v u s2 x y H2 I2 rx ry q => ho pins s2 σ H2 x y v u Q I2 rx ry q) hm
theorem pt_cmpS {op : CmpOp} {r : L2.St → R2} {ta tb : TE} (ho : OwnR X (compareOp op) r) (ha : PE X a ta) (hb : PE X b tb) (hm : behindInMarks op b = false) : PT X (.Compare a [op] [b] pos) (tTest (tOpS r ta tb)) := by
  refine ⟨fun pins s σ H Q I h => ?_⟩
  refine wpAny_isTrue_Compare1 (thn (ha.run pins s σ H _ I h) fun v s1 ⟨x, H1, I1, r1, q1⟩ => thn (hb.run pins s1 σ H1 _ I1 q1) fun u s2 ⟨y, H2, I2, r2, q2⟩ =>
    thn (ho pins s2 σ H2 x y v u _ I2 r1 r2 q2) fun c s3 ⟨z, H3, I3, r3, k, e, q3⟩ => ?_) hm
  subst e
  cases r3
  exact wpAny_truthy_bool ⟨H3, I3, q3⟩
theorem back_of {pins : List (Addr × Obj)} {σ : L2.St} {Q : VK} {v : Value} {s : Shared} (h : EP X pins σ Q v s) : PySem.W.CmpBack (EP X pins σ Q) v s := by
  cases v <;> first | exact h | skip
  obtain ⟨x, H', I, r, q⟩ := h
  cases x
  all_goals first
    | cases r; done
    | (obtain ⟨t, z⟩ := r; cases z)
variable {k n : Nat} {f f' C : Addr} {fd fd' : FuncData} {ps ps' : List Str} {F F' : FT} {c : Str} {ds : List Value} {dvs : List V} {dd : List D} {E : XK} {sp sp' : Sp}
/-- what the text has of a class's operator -/
structure BinF (K : PySem.W.Frag) (C f f' : Addr) (nm : String) : Prop where
  sf : PySem.W.selfFirst K C = true
  hs : PySem.W.findIn K (.ref C) (PySem.dunder nm) = some (some (.ref f))
  hf : PySem.W.isFn K (.ref f) = true
  hr : PySem.W.findIn K (.ref C) (PySem.dunderR nm) = some (some (.ref f'))
  hf' : PySem.W.isFn K (.ref f') = true
  i1 : ∃ o, PySem.W.findIn K (.type "int") (PySem.dunder nm) = some o
  i2 : ∃ o, PySem.W.findIn K (.type "int") (PySem.dunderR nm) = some o
theorem sub_builtin {K : PySem.W.Frag} {C : Addr} {k : String} (hk : k ∈ (["NoneType", "int", "str", "bool", "list", "tuple", "dict"] : List String)) : PySem.W.subIn K (.type k) (.ref C) = some false := by
  show (PySem.fastBuiltinMro k).map (·.contains (Value.ref C)) = _
  simp only [List.mem_cons, List.not_mem_nil, or_false] at hk
  have key : ∀ k : String, (∃ l, PySem.fastBuiltinMro k = some l ∧ l.all (fun v => match v with | .ref _ => false | _ => true) = true) → (PySem.fastBuiltinMro k).map (·.contains (Value.ref C)) = some false := by
    intro k ⟨l, h1, h2⟩
    rw [h1]
    show some (l.contains (Value.ref C)) = some false
    congr 1
    rw [Bool.eq_false_iff]
    intro z
    have hm := List.contains_iff_mem.mp z
    have := List.all_eq_true.mp h2 _ hm
    cases this
  rcases hk with rfl | rfl | rfl | rfl | rfl | rfl | rfl
  all_goals exact key _ ⟨_, rfl, by decide +kernel⟩
/-- the instance's own method, forward -/
theorem own_fwd {op : Operator} {CX : CXT} {E : L2.St → XK} (B : BinF X.K C f f' op.info.2) (Fn : FnOk X.prog X.w X.K X.mg X.base CX k f fd ps sp) (hr : Room k X.A) (hb : Binds X.K fd ps []) (hx : ∀ σ, PassesAt CX X σ (E σ)) :
    OwnR X (binaryOp op) (fun σ x y H Q => (∃ a dx fs, x = .ref a ∧ H a = some (.ins C dx fs)) ∧ ((∃ i, y = .int i) ∨ ∃ a dx fs, y = .ref a ∧ H a = some (.ins C dx fs)) ∧ sp [x, y] H Q (E σ)) := by
  intro pins s σ H x y v u Q I rx ry q
  obtain ⟨⟨a, dx, fs, rfl, ha⟩, hy, q⟩ := q
  obtain rfl : v = Value.ref a := rx
  obtain ⟨mA, J, _⟩ := ins_get I.hok ha
  obtain ⟨od, J, _⟩ := J.look
  obtain ⟨m, hF⟩ := I.fr
  have run : wpAny (model X.prog X.w) X.A (call (.ref f) [.ref a, u]) (PySem.W.CmpBack (EP X pins σ Q)) X.xe s :=
    wpAny_mono (run_fnSD (E := E) (us := [.ref a, u]) (vs := [.ref a, y]) (dvs := []) Fn hr hb .nil (hx σ) I (.cons rfl (.cons ry .nil)) q) (fun _ _ h => back_of h) fun _ _ h => h
  rcases hy with ⟨i, rfl⟩ | ⟨a', dx', fs', rfl, ha'⟩
  · obtain ⟨t, rfl⟩ := ry
    obtain ⟨o1, h1⟩ := B.i1
    obtain ⟨o2, h2⟩ := B.i2
    exact PySem.W.ksp_binT hF I.ok.mod.kin J rfl B.sf B.hs B.hf B.hr (.inr ⟨f', rfl⟩) h1 h2 (sub_builtin (by decide)) run
  · obtain rfl : u = Value.ref a' := ry
    obtain ⟨mB, J', _⟩ := ins_get I.hok ha'
    obtain ⟨od', J', _⟩ := J'.look
    exact PySem.W.binop_K hF I.ok.mod.kin J J'.type B.sf B.hs B.hf run
/-- an int ahead of the instance -/
theorem own_rev {op : Operator} {CX : CXT} {E : L2.St → XK} {id : String} {Bi : Builtin} (B : BinF X.K C f f' op.info.2) (hsub : PySem.W.mroIn X.K C (.type "int") = some false) (Fn : FnOk X.prog X.w X.K X.mg X.base CX k f' fd' ps' sp') (hr : Room k X.A) (hb : Binds X.K fd' ps' []) (hx : ∀ σ, PassesAt CX X σ (E σ))
    (fills : fillsNumberSlot (.type "int") op.info.2 = pure true) (sl : Slot "int" (PySem.dunder op.info.2) id) (en : entryFor table id = some Bi) (ar : ∀ a b, argsOk id ⟨[a, b], []⟩)
    (dec : ∀ {A : Around} {i : Int} {t : Tok} {x dx : Addr} {R : Result → Shared → Prop} {s : Shared}, s.heap.get? x = some (PySem.W.instObj C dx) → R (.ok (.ret .notImplemented)) s → wpAny (model X.prog X.w) A (Bi ⟨[.int i t, .ref x], []⟩) (fun fin s' => ∃ v, fin = .done (.ret v) ∧ R (.ok (.ret v)) s') (fun e s' => R (.error e) s') s) :
    OwnR X (binaryOp op) (fun σ x y H Q => (∃ i, x = .int i) ∧ (∃ a dx fs, y = .ref a ∧ H a = some (.ins C dx fs)) ∧ sp' [y, x] H Q (E σ)) := by
  intro pins s σ H x y v u Q I rx ry q
  obtain ⟨⟨i, rfl⟩, ⟨a, dx, fs, rfl, ha⟩, q⟩ := q
  obtain rfl : u = Value.ref a := ry
  obtain ⟨mA, J, _⟩ := ins_get I.hok ha
  obtain ⟨od, J, _⟩ := J.look
  obtain ⟨m, hF⟩ := I.fr
  have run : wpAny (model X.prog X.w) X.A (call (.ref f') [.ref a, v]) (PySem.W.CmpBack (EP X pins σ Q)) X.xe s :=
    wpAny_mono (run_fnSD (E := E) (us := [.ref a, v]) (vs := [.ref a, .int i]) (dvs := []) Fn hr hb .nil (hx σ) I (.cons rfl (.cons rx .nil)) q) (fun _ _ h => back_of h) fun _ _ h => h
  obtain ⟨t, rfl⟩ := rx
  exact PuOwn.refl_K hF I.ok.mod.kin J B.sf B.hs B.hr B.hf' hsub fills sl en (ar _ _) (fun h => dec J.at_ h) run
theorem own_rev_add {CX : CXT} {E : L2.St → XK} (B : BinF X.K C f f' "add") (hsub : PySem.W.mroIn X.K C (.type "int") = some false) (Fn : FnOk X.prog X.w X.K X.mg X.base CX k f' fd' ps' sp') (hr : Room k X.A) (hb : Binds X.K fd' ps' []) (hx : ∀ σ, PassesAt CX X σ (E σ)) :
    OwnR X (binaryOp .Add) (fun σ x y H Q => (∃ i, x = .int i) ∧ (∃ a dx fs, y = .ref a ∧ H a = some (.ins C dx fs)) ∧ sp' [y, x] H Q (E σ)) :=
  own_rev (op := .Add) B hsub Fn hr hb hx fills_int_add slot_int_add entry_int_add args_int_add PuOwn.dec_add
theorem own_rev_sub {CX : CXT} {E : L2.St → XK} (B : BinF X.K C f f' "sub") (hsub : PySem.W.mroIn X.K C (.type "int") = some false) (Fn : FnOk X.prog X.w X.K X.mg X.base CX k f' fd' ps' sp') (hr : Room k X.A) (hb : Binds X.K fd' ps' []) (hx : ∀ σ, PassesAt CX X σ (E σ)) :
    OwnR X (binaryOp .Sub) (fun σ x y H Q => (∃ i, x = .int i) ∧ (∃ a dx fs, y = .ref a ∧ H a = some (.ins C dx fs)) ∧ sp' [y, x] H Q (E σ)) :=
  own_rev (op := .Sub) B hsub Fn hr hb hx PySem.F.fills_int_sub PySem.F.slot_int_sub PySem.F.entry_int_sub PySem.F.args_int_sub_2 PuOwn.dec_sub
theorem own_rev_mul {CX : CXT} {E : L2.St → XK} (B : BinF X.K C f f' "mul") (hsub : PySem.W.mroIn X.K C (.type "int") = some false) (Fn : FnOk X.prog X.w X.K X.mg X.base CX k f' fd' ps' sp') (hr : Room k X.A) (hb : Binds X.K fd' ps' []) (hx : ∀ σ, PassesAt CX X σ (E σ)) :
    OwnR X (binaryOp .Mult) (fun σ x y H Q => (∃ i, x = .int i) ∧ (∃ a dx fs, y = .ref a ∧ H a = some (.ins C dx fs)) ∧ sp' [y, x] H Q (E σ)) :=
  own_rev (op := .Mult) B hsub Fn hr hb hx PySem.F.fills_int_mul PySem.F.slot_int_mul PySem.F.entry_int_mul PySem.F.args_int_mul_2 PuOwn.dec_mul
/-! ### over data -/
def wBinO (c : Str) (r : RD2) (F F' : FT) (wa wb : WE) : WE := fun env P R => wa env (fun x e1 => wb e1 (fun y e2 => match x, y with
  | .ins c' fs, .ins c'' gs => (c' = c ∧ c'' = c) ∧ F [.ins c' fs, .ins c'' gs] (fun d => P d e2) fun x => R x e2
  | .ins c' fs, .int i => c' = c ∧ F [.ins c' fs, .int i] (fun d => P d e2) fun x => R x e2
  | .int i, .ins c' fs => c' = c ∧ F' [.ins c' fs, .int i] (fun d => P d e2) fun x => R x e2
  | x, y => r x y fun z => P z e2) R) R
theorem px_binO {op : Operator} {r : RD2} (pr : PR2 X (binaryOp op) r) (hmg : X.mg c = some (.ref C))
    (hfw : OwnR X (binaryOp op) (fun σ x y H Q => (∃ a dx fs, x = .ref a ∧ H a = some (.ins C dx fs)) ∧ ((∃ i, y = .int i) ∨ ∃ a dx fs, y = .ref a ∧ H a = some (.ins C dx fs)) ∧ spP X.K X.mg 2 F [x, y] H Q (L2.WE W σ)))
    (hrv : OwnR X (binaryOp op) (fun σ x y H Q => (∃ i, x = .int i) ∧ (∃ a dx fs, y = .ref a ∧ H a = some (.ins C dx fs)) ∧ spP X.K X.mg 2 F' [y, x] H Q (L2.WE W σ)))
    (ha : PX X W a wa) (hb : PX X W b wb) : PX X W (.BinOp a op b pos) (wBinO c r F F' wa wb) := by
  obtain ⟨r0, h1, h2⟩ := pr
  obtain ⟨ta, a1, a2⟩ := ha.ex
  obtain ⟨tb, b1, b2⟩ := hb.ex
  refine ⟨⟨_, pe_opS ((OwnR.of h1).or (hfw.or hrv)) a1 b1, fun Fc' env σ G H P R Q hx hs hw hq hk => a2 Fc' env σ G H _ R _ hx hs hw (fun x e1 vx G1 H1 p1 s1 x1 r1 => b2 Fc' e1 σ G1 H1 _ R _ hx s1 p1 (fun y e2 vy G2 H2 p s2 x2 r2 => ?_) hk) hk⟩⟩
  have rx := r1.mono x2
  have base : (r x y fun z => P z e2) → r0 vx vy H2 Q := fun p => (h2 Fc'.wd G2 H2 x y vx vy _ Q hx.k hx.m s2.pre rx r2 p fun z v G' H' p' po rz => hq z e2 v G' H' p' (s2.step po) ((x1.trans x2).trans po.ex) rz)
  have fw : ∀ {u v : D} {vu vv : V} {F : FT}, Rep Fc'.wd G2 vu u → Rep Fc'.wd G2 vv v → F [u, v] (fun d => P d e2) (fun x => R x e2) → spP X.K X.mg 2 F [vu, vv] H2 Q (L2.WE W σ) := fun ru rv p =>
    call_run (dvs := []) (dd := []) (vs := [_, _]) (as := [_, _]) hx rfl (fun _ _ => .nil) s2 (.cons ru (.cons rv .nil)) p (fun d e' v G' H' p s x r => hq d e' v G' H' p s ((x1.trans x2).trans x) r) hk
  have at_ : ∀ {v : V} {fs : List (Str × D)}, Rep Fc'.wd G2 v (.ins c fs) → ∃ a dx fv, v = .ref a ∧ H2 a = some (.ins C dx fv) := fun r => by
    obtain ⟨a, dx, fv, rfl, ci, g1, rf⟩ := ins_at hx r hmg
    exact ⟨a, dx, fv, rfl, s2.exG _ _ g1⟩
  unfold wBinO at hw
  split at p
  · obtain ⟨⟨rfl, rfl⟩, p⟩ := p
    exact .inr (.inl ⟨at_ rx, .inr (at_ r2), fw rx r2 p⟩)
  · obtain ⟨rfl, p⟩ := p
    exact .inr (.inl ⟨at_ rx, .inl ⟨_, r2.asInt⟩, fw rx r2 p⟩)
  · obtain ⟨rfl, p⟩ := p
    exact .inr (.inr ⟨⟨_, rx.asInt⟩, at_ r2, fw r2 rx p⟩)
  · exact .inl (base p)
/-- no reflected method -/
theorem own_none {op : Operator} : OwnR X (binaryOp op) (fun σ x y H Q => (∃ i, x = .int i) ∧ (∃ a dx fs, y = .ref a ∧ H a = some (.ins C dx fs)) ∧ spP X.K X.mg 2 (fun _ _ _ => False) [y, x] H Q (L2.WE W σ)) := by
  intro pins s σ H x y v u Q I rx ry q
  obtain ⟨_, _, q⟩ := q
  obtain ⟨_, _, _, _, _, _, _, _, z, _⟩ := q
  exact z.elim
/-! ### == -/
structure EqF (K : PySem.W.Frag) (C f : Addr) : Prop where
  hs : PySem.W.findIn K (.ref C) "__eq__" = some (some (.ref f))
  hf : PySem.W.isFn K (.ref f) = true
theorem own_eq {CX : CXT} {E : L2.St → XK} (B : EqF X.K C f) (hsub : PySem.W.mroIn X.K C (.type "int") = some false) (Fn : FnOk X.prog X.w X.K X.mg X.base CX k f fd ps sp) (hr : Room k X.A) (hb : Binds X.K fd ps []) (hx : ∀ σ, PassesAt CX X σ (E σ)) :
    OwnR X (compareOp .Eq) (fun σ x y H Q => ((∃ a dx fs, x = .ref a ∧ H a = some (.ins C dx fs)) ∧ ((∃ k, TyX X.K H y (.type k) ∧ k ∈ (["NoneType", "int", "str", "bool", "list", "tuple", "dict"] : List String)) ∨ ∃ a dx fs, y = .ref a ∧ H a = some (.ins C dx fs)) ∧ sp [x, y] H Q (E σ)) ∨
      ((∃ i, x = .int i) ∧ (∃ a dx fs, y = .ref a ∧ H a = some (.ins C dx fs)) ∧ sp [y, x] H Q (E σ))) := by
  intro pins s σ H x y v u Q I rx ry q
  obtain ⟨m, hF⟩ := I.fr
  show wpAny (model X.prog X.w) X.A (richCompare .Eq v u) (EP X pins σ Q) X.xe s
  rcases q with ⟨⟨a, dx, fs, rfl, ha⟩, hy, q⟩ | ⟨⟨i, rfl⟩, ⟨a, dx, fs, rfl, ha⟩, q⟩
  · obtain rfl : v = Value.ref a := rx
    obtain ⟨mA, J, _⟩ := ins_get I.hok ha
    obtain ⟨od, J, _⟩ := J.look
    have run : wpAny (model X.prog X.w) X.A (call (.ref f) [.ref a, u]) (PySem.W.CmpBack (EP X pins σ Q)) X.xe s :=
      wpAny_mono (run_fnSD (E := E) (us := [.ref a, u]) (vs := [.ref a, y]) (dvs := []) Fn hr hb .nil (hx σ) I (.cons rfl (.cons ry .nil)) q) (fun _ _ h => back_of h) fun _ _ h => h
    rcases hy with ⟨k, ty, hk⟩ | ⟨a', dx', fs', rfl, ha'⟩
    · obtain ⟨Pz, Z, p, _⟩ := kit_of I ry ty
      refine PySem.W.cmp_K (op := .Eq) (tb := .type k) hr.units0 hF I.ok.mod.kin J (Z.ty _ _ I.kIn p) ?_ B.hs B.hf run
      unfold PySem.W.notFirst
      rw [sub_builtin hk]
      simp
    · obtain rfl : u = Value.ref a' := ry
      obtain ⟨mB, J', _⟩ := ins_get I.hok ha'
      obtain ⟨od', J', _⟩ := J'.look
      exact PySem.W.cmp_K (op := .Eq) (tb := .ref C) hr.units0 hF I.ok.mod.kin J J'.type (by simp [PySem.W.notFirst]) B.hs B.hf run
  · obtain rfl : u = Value.ref a := ry
    obtain ⟨mA, J, _⟩ := ins_get I.hok ha
    obtain ⟨od, J, _⟩ := J.look
    have run : wpAny (model X.prog X.w) X.A (call (.ref f) [.ref a, v]) (PySem.W.CmpBack (EP X pins σ Q)) X.xe s :=
      wpAny_mono (run_fnSD (E := E) (us := [.ref a, v]) (vs := [.ref a, .int i]) (dvs := []) Fn hr hb .nil (hx σ) I (.cons rfl (.cons rx .nil)) q) (fun _ _ h => back_of h) fun _ _ h => h
    obtain ⟨t, rfl⟩ := rx
    exact PuOwn.eqRefl_K hr.units0 hF I.ok.mod.kin J B.hs B.hf hsub run
def rdEqO (c : Str) (F : FT) (x y : D) (P : D → Prop) (R : DX → Prop) : Prop := match x, y with
  | .ins c' fs, .ins c'' gs => (c' = c ∧ c'' = c) ∧ F [.ins c' fs, .ins c'' gs] P R
  | .int i, .ins c' fs => c' = c ∧ F [.ins c' fs, .int i] P R
  | .ins c' fs, y => (c' = c ∧ (kindD y).isSome = true) ∧ F [.ins c' fs, y] P R
  | x, y => rdEq x y P
def wEqO (c : Str) (F : FT) (wa wb : WE) : WE := fun env P R => wa env (fun x e1 => wb e1 (fun y e2 => rdEqO c F x y (fun d => P d e2) fun x => R x e2) R) R
theorem kindD_in {d : D} {k : String} (h : kindD d = some k) : k ∈ (["NoneType", "int", "str", "bool", "list", "tuple", "dict"] : List String) := by
  cases d <;> first | (cases h; decide) | cases h
theorem eqO_run {r0 : R2} (h2 : ROk X r0 rdEq) (hmg : X.mg c = some (.ref C)) {Fc' : Fc} {e2 : En} {σ : L2.St} {G2 H2 : Hp} {P : D → En → Prop} {R : QX} {Q : VK} {x y : D} {vx vy : V} (hx : XOk X Fc') (s2 : SI Fc' e2 σ G2 H2) (rx : Rep Fc'.wd G2 vx x) (r2 : Rep Fc'.wd G2 vy y)
    (p : rdEqO c F x y (fun d => P d e2) fun x => R x e2) (hq : ∀ d env' v G' H', P d env' → SI Fc' env' σ G' H' → Ex G2 G' → Rep Fc'.wd G' v d → Q v H') (hk : XK' Fc' W σ R) :
    r0 vx vy H2 Q ∨ ((∃ a dx fs, vx = .ref a ∧ H2 a = some (.ins C dx fs)) ∧ ((∃ k, TyX X.K H2 vy (.type k) ∧ k ∈ (["NoneType", "int", "str", "bool", "list", "tuple", "dict"] : List String)) ∨ ∃ a dx fs, vy = .ref a ∧ H2 a = some (.ins C dx fs)) ∧ spP X.K X.mg 2 F [vx, vy] H2 Q (L2.WE W σ)) ∨
      ((∃ i, vx = .int i) ∧ (∃ a dx fs, vy = .ref a ∧ H2 a = some (.ins C dx fs)) ∧ spP X.K X.mg 2 F [vy, vx] H2 Q (L2.WE W σ)) := by
  have fw : ∀ {u v : D} {vu vv : V} {F : FT}, Rep Fc'.wd G2 vu u → Rep Fc'.wd G2 vv v → F [u, v] (fun d => P d e2) (fun x => R x e2) → spP X.K X.mg 2 F [vu, vv] H2 Q (L2.WE W σ) := fun ru rv p =>
    call_run (dvs := []) (dd := []) (vs := [_, _]) (as := [_, _]) hx rfl (fun _ _ => .nil) s2 (.cons ru (.cons rv .nil)) p (fun d e' v G' H' p s x r => hq d e' v G' H' p s x r) hk
  have at_ : ∀ {v : V} {fs : List (Str × D)}, Rep Fc'.wd G2 v (.ins c fs) → ∃ a dx fv, v = .ref a ∧ H2 a = some (.ins C dx fv) := fun r => by
    obtain ⟨a, dx, fv, rfl, ci, g1, rf⟩ := ins_at hx r hmg
    exact ⟨a, dx, fv, rfl, s2.exG _ _ g1⟩
  unfold rdEqO at p
  split at p
  · obtain ⟨⟨rfl, rfl⟩, p⟩ := p
    exact .inr (.inl ⟨at_ rx, .inr (at_ r2), fw rx r2 p⟩)
  · obtain ⟨rfl, p⟩ := p
    exact .inr (.inr ⟨⟨_, rx.asInt⟩, at_ r2, fw r2 rx p⟩)
  · obtain ⟨⟨rfl, hk'⟩, p⟩ := p
    obtain ⟨kk, hkk⟩ := Option.isSome_iff_exists.mp hk'
    have ty := kind_ok r2 s2.exG hkk
    rw [hx.k] at ty
    exact .inr (.inl ⟨at_ rx, .inl ⟨kk, ty, kindD_in hkk⟩, fw rx r2 p⟩)
  · exact .inl (h2 Fc'.wd G2 H2 _ _ vx vy _ Q hx.k hx.m s2.pre rx r2 p fun z v G' H' p' po rz => hq z e2 v G' H' p' (s2.step po) po.ex rz)
theorem px_eqO (hu : X.A.units + 64 < cLine) (hmg : X.mg c = some (.ref C)) (B : EqF X.K C f) (hsub : PySem.W.mroIn X.K C (.type "int") = some false) (Fn : FnOk X.prog X.w X.K X.mg X.base (L2.CX X.prog X.w) k f fd ps (spP X.K X.mg 2 F)) (hr : Room k X.A) (hb : Binds X.K fd ps []) (tk : Takes X W)
    (ha : PX X W a wa) (hb' : PX X W b wb) (hm : behindInMarks .Eq b = false := by first | exact nomark _ | rfl) : PX X W (.Compare a [.Eq] [b] pos) (wEqO c F wa wb) := by
  obtain ⟨r0, h1, h2⟩ := pr_eq (X := X) hu
  obtain ⟨ta, a1, a2⟩ := ha.ex
  obtain ⟨tb, b1, b2⟩ := hb'.ex
  exact ⟨⟨_, pe_cmpS ((OwnR.of h1).or (own_eq (E := L2.WE W) B hsub Fn hr hb fun σ => passAt tk σ)) a1 b1 hm, fun Fc' env σ G H P R Q hx hs hw hq hk => a2 Fc' env σ G H _ R _ hx hs hw (fun x e1 vx G1 H1 p1 s1 x1 r1 => b2 Fc' e1 σ G1 H1 _ R _ hx s1 p1 (fun y e2 vy G2 H2 p s2 x2 r2 =>
    eqO_run h2 hmg hx s2 (r1.mono x2) r2 p (fun d env' v G' H' p s x r => hq d env' v G' H' p s ((x1.trans x2).trans x) r) hk) hk) hk⟩⟩
theorem pt_eqO (hu : X.A.units + 64 < cLine) (hmg : X.mg c = some (.ref C)) (B : EqF X.K C f) (hsub : PySem.W.mroIn X.K C (.type "int") = some false) (Fn : FnOk X.prog X.w X.K X.mg X.base (L2.CX X.prog X.w) k f fd ps (spP X.K X.mg 2 F)) (hr : Room k X.A) (hb : Binds X.K fd ps []) (tk : Takes X W)
    (ha : PX X W a wa) (hb' : PX X W b wb) (hm : behindInMarks .Eq b = false := by first | exact nomark _ | rfl) : PXT X W (.Compare a [.Eq] [b] pos) (wTest (wEqO c F wa wb)) := by
  obtain ⟨r0, h1, h2⟩ := pr_eq (X := X) hu
  obtain ⟨ta, a1, a2⟩ := ha.ex
  obtain ⟨tb, b1, b2⟩ := hb'.ex
  refine ⟨⟨_, pt_cmpS ((OwnR.of h1).or (own_eq (E := L2.WE W) B hsub Fn hr hb fun σ => passAt tk σ)) a1 b1 hm, fun Fc' env σ G H P R Q hx hs hw hq hk => a2 Fc' env σ G H _ R _ hx hs hw (fun x e1 vx G1 H1 p1 s1 x1 r1 => b2 Fc' e1 σ G1 H1 _ R _ hx s1 p1 (fun y e2 vy G2 H2 p s2 x2 r2 =>
    eqO_run (P := fun d e1 => match d with | .bl k => P k e1 | _ => False) h2 hmg hx s2 (r1.mono x2) r2 p (fun d env' v G' H' p s x r => ?_) hk) hk) hk⟩⟩
  cases d <;> first | exact p.elim | skip
  cases r
  exact ⟨_, rfl, hq _ env' G' H' p s ((x1.trans x2).trans x)⟩
/-! ### -x, abs(x) -/
def wNegO (c : Str) (F : FT) (wa : WE) : WE := fun env P R => wa env (fun x e1 => match x with
  | .ins c' fs => c' = c ∧ F [.ins c' fs] (fun d => P d e1) fun x => R x e1
  | .int i => P (.int (-i)) e1
  | _ => False) R
theorem px_negO (hmg : X.mg c = some (.ref C)) (hs : PySem.W.findIn X.K (.ref C) "__neg__" = some (some (.ref f))) (hf : PySem.W.isFn X.K (.ref f) = true) (Fn : FnOk X.prog X.w X.K X.mg X.base (L2.CX X.prog X.w) k f fd ps (spP X.K X.mg 1 F)) (hr : Room k X.A) (hb : Binds X.K fd ps []) (tk : Takes X W)
    (ha : PX X W a wa) : PX X W (.UnaryOp .USub a pos) (wNegO c F wa) := by
  obtain ⟨ta, a1, a2⟩ := ha.ex
  refine ⟨⟨fun σ H Q => ta σ H fun x H1 => (∃ i, x = .int i ∧ Q (.int (-i)) H1) ∨ ((∃ a dx fs, x = .ref a ∧ H1 a = some (.ins C dx fs)) ∧ spP X.K X.mg 1 F [x] H1 Q (L2.WE W σ)), ⟨fun pins s σ H Q I h => ?_⟩, fun Fc' env σ G H P R Q hx hs hw hq hk => a2 Fc' env σ G H _ R _ hx hs hw (fun x e1 vx G1 H1 p s1 x1 r1 => ?_) hk⟩⟩
  · refine UnaryOp_ (thn (a1.run pins s σ H _ I h) fun v s1 ⟨x, H1, I1, r1, q1⟩ => ?_)
    rcases q1 with ⟨i, rfl, q⟩ | ⟨⟨a, dx, fs, rfl, ha⟩, q⟩
    · exact un_neg pins s1 σ H1 _ v Q I1 r1 ⟨i, rfl, q⟩
    · obtain rfl : v = Value.ref a := r1
      obtain ⟨mA, J, _⟩ := ins_get I1.hok ha
      obtain ⟨od, J, _⟩ := J.look
      obtain ⟨m, hF⟩ := I1.fr
      exact PySem.W.ksp_neg hF I1.ok.mod.kin J hs hf (run_fnSD (E := L2.WE W) (us := [.ref a]) (vs := [.ref a]) (dvs := []) Fn hr hb .nil (passAt tk σ) I1 (.cons rfl .nil) q)
  · cases x <;> first | exact p.elim | skip
    · exact .inl ⟨_, r1.asInt, hq _ e1 _ G1 H1 p s1 x1 .int⟩
    · obtain ⟨rfl, p⟩ := p
      obtain ⟨a, dx, fv, rfl, ci, g1, rf⟩ := ins_at hx r1 hmg
      exact .inr ⟨⟨a, dx, fv, rfl, s1.exG _ _ g1⟩, call_run (dvs := []) (dd := []) (vs := [_]) (as := [_]) hx rfl (fun _ _ => .nil) s1 (.cons r1 .nil) p (fun d e' v G' H' p s x r => hq d e' v G' H' p s (x1.trans x) r) hk⟩
end
end Pu
set_option maxRecDepth 100000
/-! abs of an instance -/
namespace Pu
open PySem L2 PySem.Spec PyProof.Rows
section
variable {X : Cx} {k : Nat} {f C : Addr} {fd : FuncData} {ps : List Str} {F : FT} {c : Str} {sp : Sp}
theorem call_absO {CX : CXT} (hs : PySem.W.findIn X.K (.ref C) "__abs__" = some (some (.ref f))) (hf : PySem.W.isFn X.K (.ref f) = true) (Fn : FnOk X.prog X.w X.K X.mg X.base CX k f fd ps sp) (hr : Room (k + 1) X.A) (hb : Binds X.K fd ps []) (hx : Passes CX X E0) :
    CallR X (.builtin "abs") (fun xs H Q => ∃ a dx fs, xs = [.ref a] ∧ H a = some (.ins C dx fs) ∧ sp [.ref a] H Q E0) := by
  intro pins s σ H xs us Q I r h
  obtain ⟨a, dx, fs, rfl, ha, q⟩ := h
  obtain ⟨u, rfl, ru⟩ := vals1 r
  obtain rfl : u = Value.ref a := ru
  obtain ⟨mA, J, _⟩ := ins_get I.hok ha
  obtain ⟨od, J, _⟩ := J.look
  refine PySem.Calls.call_function_entry kind_abs plain_abs entry_abs (args_abs _) ?_
  unfold Builtin.«abs»
  refine wpAny_bind (m := oneArg "abs" _) (wpAny_pure ?_)
  refine wpAny_bind (PySem.W.special_fn I.kIn J hs (beq_iff_eq.mp hf) ?_)
  have hl : ([Value.ref a] : List Value).length = ps.length := by
    rw [← Fn.len _ _ _ _ q]
    rfl
  refine wpAny_call (codeAny_mono (Fn.run X.A.in1 X.stack s H ⟨[.ref a], []⟩ [.ref a] [.ref a] Q E0 hr.in1 I.env0.in1 (by
    have := hb s [.ref a] I.kIn (by simpa using hl)
    simpa using this) (.cons rfl .nil) q) fun r s' hq => ?_)
  cases r with
  | error e => exact hx pins σ H s e s' I hq
  | ok fl =>
    cases fl with
    | ret u => exact wpAny_pure ⟨_, rfl, I.after hq⟩
    | next => exact False.elim hq
    | brk => exact False.elim hq
    | cont => exact False.elim hq
def rdAbsO (c : Str) (F : FT) : RDA := fun ds P => match ds with
  | [.int i] => P (.int (if i < 0 then -i else i))
  | [.ins c' fs] => c' = c ∧ F [.ins c' fs] P (fun _ => False)
  | _ => False
theorem pc_absO (hmg : X.mg c = some (.ref C)) (hs : PySem.W.findIn X.K (.ref C) "__abs__" = some (some (.ref f))) (hf : PySem.W.isFn X.K (.ref f) = true) (Fn : FnOk X.prog X.w X.K X.mg X.base (L2.CX X.prog X.w) k f fd ps (spP X.K X.mg 1 F)) (hr : Room (k + 1) X.A) (hb : Binds X.K fd ps []) :
    PRA X (.builtin "abs") (rdAbsO c F) := by
  refine ⟨_, CallR.or call_abs (call_absO hs hf Fn hr hb passL), ?_⟩
  intro w G H ds vs P Q hK hm hp rs h hq
  unfold rdAbsO at h
  split at h
  · obtain ⟨v, rfl, r⟩ := rs.inv1
    cases r
    exact .inl ⟨_, rfl, hq _ _ G H h (Post.refl hp) .int⟩
  · obtain ⟨v, rfl, r⟩ := rs.inv1
    obtain ⟨e, h⟩ := h
    subst e
    obtain ⟨K, mg, b⟩ := w
    cases hK
    cases hm
    cases r with
    | ins m1 ci g1 rf =>
    have m2 : X.mg _ = some (.ref _) := m1
    rw [hmg] at m2
    cases m2
    refine .inr ⟨_, _, _, rfl, hp.exG _ _ g1, b, G, _, _, _, hp, .cons (.ins hmg ci g1 rf) .nil, rfl, h, fun d v G' H' p po r => hq d v G' H' p po r, fun x cls dct G' H' p po r => p.elim⟩
  · exact h.elim
end
end Pu
namespace Pu
open PySem L2 PySem.Spec PyProof.Rows
section
variable {X : Cx} {W : WX} {e : Expr} {es : List Expr} {pos p : Pos} {k n : Nat} {f C : Addr} {fd : FuncData} {ps : List Str} {F : FT} {c : Str} {u : WA} {dvs : List V} {dd : List D}
/-- making with defaults -/
theorem px_makeD (ci : CI X.K C) (M : Mk X.K C f) (Fn : FnOk X.prog X.w X.K X.mg X.base (L2.CX X.prog X.w) k f fd ps (spI X.K X.mg c n F)) (hr : Room (k + 1) X.A) (hg : Gl X c) (hmg : X.mg c = some (.ref C)) (hbd : ∃ ds, Vals dvs ds ∧ Binds X.K fd ps ds) (hdd : ∀ (w : Wd) (G : Hp), Reps w G dvs dd) (tk : Takes X W)
    (ha : PXA X W (e :: es) u) (hdb : (c == ("__debug__" : Str)) = false := by decide) (he : starEach (e :: es) X.env = (false, eval e X.env) :: starEach es X.env := by rfl) (hpl : (backTo pos (starEach es X.env)).any (·.1) = false := by rfl) :
    PX X W (.Call (.Name c p) (e :: es) [] pos) (wMake F n dd u) := by
  obtain ⟨ds, hd, hb⟩ := hbd
  exact px_make ci M Fn hr hg hmg hb hd hdd tk ha hdb he hpl
theorem px_makeD0 (ci : CI X.K C) (M : Mk X.K C f) (Fn : FnOk X.prog X.w X.K X.mg X.base (L2.CX X.prog X.w) k f fd ps (spI X.K X.mg c n F)) (hr : Room (k + 1) X.A) (hg : Gl X c) (hmg : X.mg c = some (.ref C)) (hbd : ∃ ds, Vals dvs ds ∧ Binds X.K fd ps ds) (hdd : ∀ (w : Wd) (G : Hp), Reps w G dvs dd) (tk : Takes X W)
    (hdb : (c == ("__debug__" : Str)) = false := by decide) : PX X W (.Call (.Name c p) [] [] pos) (wMake F n dd wNil) := by
  obtain ⟨ds, hd, hb⟩ := hbd
  exact px_make0 ci M Fn hr hg hmg hb hd hdd tk hdb
end
end Pu
set_option maxRecDepth 100000
/-! Exact numbers, over data -/
namespace Pu
open PySem L2 PySem.Spec PyProof.Rows
/-! ### // of great ints of any sign -/
def CDivG (_ j : Int) : Prop := j ≠ 0 ∧ j.natAbs.log2 < 9000
theorem op_fdivG {X : Cx} : OpR X (binaryOp .FloorDiv) (rI CDivG fun i j => .int (i.fdiv j)) := opI fun i j _ _ _ _ _ hc q => floordiv_int hc.1 q (.inl (PyProof.noPylong_of_log2 hc.2))
abbrev rdFdivG : RD2 := rdI CDivG fun i j => .int (i.fdiv j)
theorem pr_fdivG {X : Cx} : PR2 X (binaryOp .FloorDiv) rdFdivG := ⟨_, op_fdivG, rok_I⟩
/-! ### lowest terms -/
def cI (a b : Int) : Int := (Int.gcd a b : Int) * b.sign
def lowP (a b : Int) : Int × Int := (a.fdiv (cI a b), b.fdiv (cI a b))
structure Low (a b : Int) : Prop where
  pos : 0 < b
  co : Int.gcd a b = 1
theorem gcd_pos {a b : Int} (hb : b ≠ 0) : 0 < Int.gcd a b := by
  unfold Int.gcd
  exact Nat.gcd_pos_of_pos_right _ (by omega)
theorem sign_cases {b : Int} (hb : b ≠ 0) : (0 < b ∧ b.sign = 1) ∨ (b < 0 ∧ b.sign = -1) := by
  rcases Int.lt_or_gt_of_ne hb with h | h
  · exact .inr ⟨h, Int.sign_eq_neg_one_of_neg h⟩
  · exact .inl ⟨h, Int.sign_eq_one_of_pos h⟩
theorem cI_abs {a b : Int} (hb : b ≠ 0) : (cI a b).natAbs = Int.gcd a b := by
  unfold cI
  rcases sign_cases hb with ⟨h, e⟩ | ⟨h, e⟩ <;> rw [e] <;> omega
theorem cI_ne {a b : Int} (hb : b ≠ 0) : cI a b ≠ 0 := fun z => by
  have h := cI_abs (a := a) hb
  rw [z] at h
  have := gcd_pos (a := a) hb
  omega
theorem cI_dvd {a b : Int} (hb : b ≠ 0) : cI a b ∣ a ∧ cI a b ∣ b := by
  unfold cI
  have h1 := Int.gcd_dvd_left a b
  have h2 := Int.gcd_dvd_right a b
  rcases sign_cases hb with ⟨h, e⟩ | ⟨h, e⟩ <;> rw [e]
  · rw [Int.mul_one]
    exact ⟨h1, h2⟩
  · have e : (Int.gcd a b : Int) * -1 = -(Int.gcd a b : Int) := by omega
    rw [e]
    exact ⟨Int.neg_dvd.mpr h1, Int.neg_dvd.mpr h2⟩
theorem lowP_ediv {a b : Int} (hb : b ≠ 0) : lowP a b = (a / cI a b, b / cI a b) := by
  unfold lowP
  rw [Int.fdiv_eq_ediv_of_dvd (cI_dvd hb).1, Int.fdiv_eq_ediv_of_dvd (cI_dvd hb).2]
theorem lowP_abs {a b : Int} (hb : b ≠ 0) : (lowP a b).1.natAbs = a.natAbs / Int.gcd a b ∧ (lowP a b).2.natAbs = b.natAbs / Int.gcd a b := by
  rw [lowP_ediv hb]
  refine ⟨?_, ?_⟩
  · show (a / cI a b).natAbs = _
    rw [Int.natAbs_ediv_of_dvd (cI_dvd hb).1, cI_abs hb]
  · show (b / cI a b).natAbs = _
    rw [Int.natAbs_ediv_of_dvd (cI_dvd hb).2, cI_abs hb]
theorem lowP_low {a b : Int} (hb : b ≠ 0) : Low (lowP a b).1 (lowP a b).2 := by
  obtain ⟨h1, h2⟩ := lowP_abs (a := a) hb
  have g := gcd_pos (a := a) hb
  have d1 : Int.gcd a b ∣ a.natAbs := Nat.gcd_dvd_left _ _
  have d2 : Int.gcd a b ∣ b.natAbs := Nat.gcd_dvd_right _ _
  refine ⟨?_, ?_⟩
  · have nz : (lowP a b).2 ≠ 0 := fun z => by
      rw [z] at h2
      have := Nat.div_pos (Nat.le_of_dvd (by omega) d2) g
      simp at h2
      omega
    have key : (lowP a b).2 * cI a b = b := by
      rw [lowP_ediv hb]
      exact Int.ediv_mul_cancel (cI_dvd hb).2
    rcases Int.lt_or_gt_of_ne nz with z | z
    · exfalso
      unfold cI at key
      rcases sign_cases hb with ⟨h, e⟩ | ⟨h, e⟩ <;> rw [e] at key
      · have : (lowP a b).2 * ((Int.gcd a b : Int) * 1) ≤ 0 := Int.mul_nonpos_of_nonpos_of_nonneg (by omega) (by omega)
        omega
      · have : 0 ≤ (lowP a b).2 * ((Int.gcd a b : Int) * -1) := Int.mul_nonneg_of_nonpos_of_nonpos (by omega) (by omega)
        omega
    · exact z
  · unfold Int.gcd
    rw [h1, h2, Nat.gcd_div d1 d2]
    exact Nat.div_self g
theorem lowP_le {a b : Int} (hb : b ≠ 0) : (lowP a b).1.natAbs ≤ a.natAbs ∧ (lowP a b).2.natAbs ≤ b.natAbs := by
  obtain ⟨h1, h2⟩ := lowP_abs (a := a) hb
  exact ⟨by rw [h1]; exact Nat.div_le_self _ _, by rw [h2]; exact Nat.div_le_self _ _⟩
theorem Low.self {a b : Int} (h : Low a b) : lowP a b = (a, b) := by
  have e : cI a b = 1 := by
    unfold cI
    rw [h.co, Int.sign_eq_one_of_pos h.pos]
    rfl
  unfold lowP
  rw [e]
  show (a.fdiv 1, b.fdiv 1) = _
  rw [Int.fdiv_one, Int.fdiv_one]
theorem low_int (n : Int) : Low n 1 := ⟨by decide, by unfold Int.gcd; simp⟩
theorem Low.neg {a b : Int} (h : Low a b) : Low (-a) b := ⟨h.pos, by have := h.co; unfold Int.gcd at this ⊢; rw [Int.natAbs_neg]; exact this⟩
theorem Low.abs {a b : Int} (h : Low a b) : Low (if a < 0 then -a else a) b := by
  split
  · exact h.neg
  · exact h
theorem Low.ne {a b : Int} (h : Low a b) : b ≠ 0 := by have := h.pos; omega
/-! ### sizes -/
def Sz (n : Nat) (a : Int) : Prop := a.natAbs < 2 ^ n
theorem Sz.mono {m n : Nat} {a : Int} (h : Sz m a) (l : m ≤ n) : Sz n a := Nat.lt_of_lt_of_le h (Nat.pow_le_pow_right (by decide) l)
theorem Sz.log {n : Nat} {a : Int} (h : Sz n a) (h0 : 0 < n) (h9 : n ≤ 9000) : a.natAbs.log2 < 9000 := Nat.lt_of_lt_of_le (PySem.Flt.log2_lt_of h0 h) h9
theorem Sz.mul {m n : Nat} {a b : Int} (h : Sz m a) (g : Sz n b) : Sz (m + n) (a * b) := wide_lt h g
theorem Sz.mulOk {m n : Nat} {a b : Int} (h : Sz m a) (g : Sz n b) (h0 : 0 < m) (h1 : 0 < n) (l : m + n ≤ 1000000) : IntMulOk a b := CMulW.ok (wide_mul h g h0 h1 l)
theorem Sz.add {n : Nat} {a b : Int} (h : Sz n a) (g : Sz n b) : Sz (n + 1) (a + b) := by
  unfold Sz at *
  rw [Nat.pow_succ]
  omega
theorem Sz.sub {n : Nat} {a b : Int} (h : Sz n a) (g : Sz n b) : Sz (n + 1) (a - b) := by
  unfold Sz at *
  rw [Nat.pow_succ]
  omega
theorem Sz.neg {n : Nat} {a : Int} (h : Sz n a) : Sz n (-a) := by unfold Sz at *; omega
theorem Sz.one {n : Nat} (h : 0 < n) : Sz n 1 := by
  unfold Sz
  have := Nat.pow_lt_pow_right (a := 2) (by decide) h
  simpa using this
theorem Sz.le {n : Nat} {a b : Int} (h : Sz n b) (l : a.natAbs ≤ b.natAbs) : Sz n a := Nat.lt_of_le_of_lt l h
/-! ### is_integer_value, is_number -/
def exD (a b : Int) : D := .ins "Exact" [("top", .int a), ("bottom", .int b)]
def F_ivX : FT := fun ds P _ => ∃ d, ds = [d] ∧ (isTD d .int).isSome = true ∧ P (.bl (isIntB d))
theorem pure_ivX (ds : List D) (P : D → Prop) (R : DX → Prop) (_ : ds.length = 1) (h : F_ivX ds P R) : w_is_integer_value (startE 1 ds) { nx := fun _ => P .non, rt := P, ex := fun x _ => R x } := by
  obtain ⟨d, rfl, hd, hP⟩ := h
  cases d <;> first | exact hP | cases hd
def w_is_number (F_is_integer_value : FT) : WS :=
    (wsRet (wOrV (wCall (fun ds P R => ds.length = 1 ∧ F_is_integer_value ds P R) [] (wCons (wVar 0) wNil)) (wIsiC "Exact" [] (wVar 0))))
def isExB : D → Bool
  | .ins c _ => decide (c = "Exact")
  | _ => false
/-- data that the tests know: no bag; an instance is an Exact -/
def known : D → Bool
  | .bag => false
  | .dt _ => false
  | .exc _ _ => false
  | .fn _ _ => false
  | .typ _ => false
  | .ins c _ => decide (c = "Exact")
  | _ => true
def F_is_number : FT := fun ds P _ => ∃ d, ds = [d] ∧ known d = true ∧ P (.bl (isIntB d || isExB d))
theorem pure_is_number (ds : List D) (P : D → Prop) (R : DX → Prop) (_ : ds.length = 1) (h : F_is_number ds P R) : w_is_number F_ivX (startE 1 ds) { nx := fun _ => P .non, rt := P, ex := fun x _ => R x } := by
  obtain ⟨d, rfl, hd, hP⟩ := h
  refine ⟨rfl, d, rfl, (by cases d <;> first | rfl | cases hd), ?_⟩
  cases d with
  | ins c fs =>
    have hc : c = "Exact" := of_decide_eq_true hd
    subst hc
    have e : isExB (.ins "Exact" fs) = true := by
      show decide (("Exact" : Str) = "Exact") = true
      exact decide_eq_true rfl
    rw [e] at hP
    exact hP
  | bag => cases hd
  | dt _ => cases hd
  | exc _ _ => cases hd
  | fn _ _ => cases hd
  | typ _ => cases hd
  | _ => exact hP
theorem known_ex (a b : Int) : known (exD a b) = true := by
  show decide (("Exact" : Str) = "Exact") = true
  exact decide_eq_true rfl
/-! ### common_divisor, sign_of -/
def w_common_divisor  : WS :=
    (wsSeq (wsPar 2 3 (wCons (wCB rdAbs (wCons (wVar 0) wNil)) (wCons (wCB rdAbs (wCons (wVar 1) wNil)) wNil)))
    (wsSeq (wsWhile (wTest (wOp rdNe (wVar 3) (wC (.int 0))))
    (wsPar 2 3 (wCons (wVar 3) (wCons (wOp rdMod (wVar 2) (wVar 3)) wNil))))
    (wsRet (wVar 2))))
theorem gcd_while {K : EnD} {x0 x1 : Sl} {we : WE} (hwe : ∀ (l s : Nat) (P : D → En → Prop) (R : QX), P (.int l) [x0, x1, .v (.int l), .v (.int s)] → we [x0, x1, .v (.int l), .v (.int s)] P R) :
    ∀ (n l s : Nat), s < n → K.nx [x0, x1, .v (.int (Nat.gcd l s : Nat)), .v (.int 0)] → wsWhN (wTest (wOp rdNe (wVar 3) (wC (.int 0)))) (wsPar 2 3 (wCons (wVar 3) (wCons (wOp rdMod we (wVar 3)) wNil))) K n [x0, x1, .v (.int l), .v (.int s)]
  | 0, l, s, h, _ => by omega
  | n + 1, l, s, h, hk => by
    show match !decide ((s : Int) = 0) with | true => _ | false => K.nx _
    by_cases z : s = 0
    · subst z
      rw [decide_eq_true (by rfl : ((0 : Nat) : Int) = 0)]
      rw [Nat.gcd_zero_right] at hk
      exact hk
    · rw [decide_eq_false (by omega : ¬ ((s : Int) = 0))]
      refine hwe l s _ _ ⟨by omega, ?_⟩
      have e : (l : Int) % (s : Int) = ((l % s : Nat) : Int) := (Int.natCast_emod l s).symm
      show wsWhN _ _ K n [x0, x1, .v (.int s), .v (.int ((l : Int) % (s : Int)))]
      rw [e]
      refine gcd_while hwe n s (l % s) (by have := Nat.mod_lt l (show 0 < s by omega); omega) ?_
      rw [Nat.gcd_comm s, ← Nat.gcd_rec, Nat.gcd_comm s]
      exact hk
theorem abs_nat (a : Int) : (if a < 0 then -a else a) = (a.natAbs : Int) := by split <;> omega
def F_common_divisor : FT := fun ds P _ => ∃ a b : Int, ds = [.int a, .int b] ∧ P (.int (Int.gcd a b : Nat))
theorem pure_common_divisor (ds : List D) (P : D → Prop) (R : DX → Prop) (_ : ds.length = 2) (h : F_common_divisor ds P R) : w_common_divisor (startE 4 ds) { nx := fun _ => P .non, rt := P, ex := fun x _ => R x } := by
  obtain ⟨a, b, rfl, hP⟩ := h
  refine st_par (fun d e => d = .int (a.natAbs : Int) ∧ e = .int (b.natAbs : Int)) (fun Pk hPk => ?_) (fun d e hd => ?_)
  · have q := hPk _ _ ⟨rfl, rfl⟩
    rw [← abs_nat a, ← abs_nat b] at q
    exact q
  obtain ⟨rfl, rfl⟩ := hd
  refine ⟨b.natAbs + 1, gcd_while (fun l s P R h => h) _ _ _ (Nat.lt_succ_self _) ?_⟩
  exact hP
def w_sign_of  : WS :=
    (wsRet (wOp rdSub (wCB rdInt (wCons (wOp rdGt (wVar 0) (wC (.int 0))) wNil)) (wCB rdInt (wCons (wOp rdLt (wVar 0) (wC (.int 0))) wNil))))
def F_sign_of : FT := fun ds P _ => ∃ a : Int, ds = [.int a] ∧ P (.int a.sign)
theorem pure_sign_of (ds : List D) (P : D → Prop) (R : DX → Prop) (_ : ds.length = 1) (h : F_sign_of ds P R) : w_sign_of (startE 1 ds) { nx := fun _ => P .non, rt := P, ex := fun x _ => R x } := by
  obtain ⟨a, rfl, hP⟩ := h
  refine ⟨trivial, trivial, trivial, ?_⟩
  show P (.int ((if decide (0 < a) = true then 1 else 0) - (if decide (a < 0) = true then 1 else 0)))
  have e : ((if decide (0 < a) = true then 1 else 0) - (if decide (a < 0) = true then 1 else 0) : Int) = a.sign := by
    rcases Int.lt_trichotomy a 0 with h | h | h
    · rw [Int.sign_eq_neg_one_of_neg h, if_neg (by simp; omega), if_pos (by simpa using h)]
      rfl
    · subst h
      rfl
    · rw [Int.sign_eq_one_of_pos h, if_pos (by simpa using h), if_neg (by simp; omega)]
      rfl
  rw [e]
  exact hP
/-! ### Exact -/
def w_ExactX_initX (F_common_divisor : FT) (F_is_integer_value : FT) (F_sign_of : FT) : WS :=
    (wsSeq (wsIf (wNot (wTest (wCall (fun ds P R => ds.length = 1 ∧ F_is_integer_value ds P R) [] (wCons (wVar 1) wNil)))) wsNever wsNext)
    (wsSeq (wsIf (wOr (wNot (wTest (wCall (fun ds P R => ds.length = 1 ∧ F_is_integer_value ds P R) [] (wCons (wVar 2) wNil)))) (wTest (wOp rdEq (wVar 2) (wC (.int 0))))) wsNever wsNext)
    (wsSeq (wsSet 3 (wOp rdMul (wCall (fun ds P R => ds.length = 2 ∧ F_common_divisor ds P R) [] (wCons (wVar 1) (wCons (wVar 2) wNil))) (wCall (fun ds P R => ds.length = 1 ∧ F_sign_of ds P R) [] (wCons (wVar 2) wNil))))
    (wsSeq (wsFld 0 "Exact" "top" (wOp rdFdivG (wVar 1) (wVar 3)))
    (wsFld 0 "Exact" "bottom" (wOp rdFdivG (wVar 2) (wVar 3)))))))
def F_ExInit : FT := fun ds P _ => ∃ a b : Int, ds = [.int a, .int b] ∧ b ≠ 0 ∧ Sz 4000 b ∧ P (exD (lowP a b).1 (lowP a b).2)
theorem cI_sz {a b : Int} {n : Nat} (hb : b ≠ 0) (h : Sz n b) : Sz n (cI a b) := by
  unfold Sz
  rw [cI_abs hb]
  exact Nat.lt_of_le_of_lt (Nat.le_of_dvd (by omega) (Nat.gcd_dvd_right _ _)) h
theorem pure_ExInit (ds : List D) (P : D → Prop) (R : DX → Prop) (_ : ds.length = 2) (h : F_ExInit ds P R) : w_ExactX_initX F_common_divisor F_ivX F_sign_of (startI "Exact" 4 ds) (endsI "Exact" P R) := by
  obtain ⟨a, b, rfl, hb, hz, hP⟩ := h
  have szc := cI_sz (a := a) hb hz
  refine st_ifN false (fun Pk h => ⟨rfl, _, rfl, rfl, h⟩) (fun h => nomatch h) (fun _ => ?_)
  refine st_ifN false (fun Pk h => ⟨rfl, _, rfl, rfl, ?_⟩) (fun h => nomatch h) (fun _ => ?_)
  · show Pk (decide (b = 0)) _
    rw [decide_eq_false hb]
    exact h
  refine st_set (fun d => d = .int (cI a b)) (fun Pk hPk => ⟨rfl, a, b, rfl, rfl, b, rfl, ?_, hPk _ rfl⟩) (fun d hd => ?_)
  · refine Sz.mulOk (m := 4000) (n := 1) ?_ ?_ (by decide) (by decide) (by decide)
    · unfold Sz
      have := cI_abs (a := a) hb
      unfold Sz at szc
      omega
    · unfold Sz
      rcases sign_cases hb with ⟨_, e⟩ | ⟨_, e⟩ <;> rw [e] <;> decide
  subst hd
  have cd : CDivG a (cI a b) := ⟨cI_ne hb, szc.log (by decide) (by decide)⟩
  exact ⟨cd, rfl, (by show 0 < 1000; decide), cd, rfl, (by show 1 < 1000; decide), rfl, hP⟩
def w_exact_of (F_ExactX_initX : FT) : WS :=
    (wsRet (wIf (wTest (wIsiC "Exact" [] (wVar 0))) (wVar 0) (wMake F_ExactX_initX 2 [.int 1] (wCons (wVar 0) wNil))))
def F_exact_of : FT := fun ds P _ => (∃ a b, ds = [exD a b] ∧ P (exD a b)) ∨ ∃ n : Int, ds = [.int n] ∧ P (exD n 1)
theorem pure_exact_of (ds : List D) (P : D → Prop) (R : DX → Prop) (_ : ds.length = 1) (h : F_exact_of ds P R) : w_exact_of F_ExInit (startE 1 ds) { nx := fun _ => P .non, rt := P, ex := fun x _ => R x } := by
  rcases h with ⟨a, b, rfl, hP⟩ | ⟨n, rfl, hP⟩
  · exact hP
  · refine ⟨rfl, n, 1, rfl, by decide, Sz.one (by decide), ?_⟩
    rw [(low_int n).self]
    exact hP
/-- a number: an Exact or an int, as a fraction -/
inductive NumD : D → Int → Int → Prop
  | ex {a b : Int} : b ≠ 0 → NumD (exD a b) a b
  | int {n : Int} : NumD (.int n) n 1
theorem NumD.number {d : D} {a b : Int} (h : NumD d a b) {P : D → Prop} {R : DX → Prop} (hP : P (.bl true)) : F_is_number [d] P R := by
  cases h with
  | ex => exact ⟨_, rfl, known_ex _ _, hP⟩
  | int => exact ⟨_, rfl, rfl, hP⟩
theorem NumD.exact {d : D} {a b : Int} (h : NumD d a b) {P : D → Prop} {R : DX → Prop} (hP : P (exD a b)) : F_exact_of [d] P R := by
  cases h with
  | ex => exact .inl ⟨_, _, rfl, hP⟩
  | int => exact .inr ⟨_, rfl, hP⟩
theorem NumD.ne {d : D} {a b : Int} (h : NumD d a b) : b ≠ 0 := by
  cases h with
  | ex h => exact h
  | int => decide
def w_ExactX_addX (F_ExactX_initX : FT) (F_exact_of : FT) (F_is_number : FT) : WS :=
    (wsSeq (wsIf (wNot (wTest (wCall (fun ds P R => ds.length = 1 ∧ F_is_number ds P R) [] (wCons (wVar 1) wNil)))) wsNever wsNext)
    (wsSeq (wsSet 2 (wCall (fun ds P R => ds.length = 1 ∧ F_exact_of ds P R) [] (wCons (wVar 1) wNil)))
    (wsRet (wMake F_ExactX_initX 2 [] (wCons (wOp rdAdd (wOp rdMul (wFld "Exact" "top" (wVar 0)) (wFld "Exact" "bottom" (wVar 2))) (wOp rdMul (wFld "Exact" "top" (wVar 2)) (wFld "Exact" "bottom" (wVar 0)))) (wCons (wOp rdMul (wFld "Exact" "bottom" (wVar 0)) (wFld "Exact" "bottom" (wVar 2))) wNil))))))
def w_ExactX_subX (F_ExactX_initX : FT) (F_exact_of : FT) (F_is_number : FT) : WS :=
    (wsSeq (wsIf (wNot (wTest (wCall (fun ds P R => ds.length = 1 ∧ F_is_number ds P R) [] (wCons (wVar 1) wNil)))) wsNever wsNext)
    (wsSeq (wsSet 2 (wCall (fun ds P R => ds.length = 1 ∧ F_exact_of ds P R) [] (wCons (wVar 1) wNil)))
    (wsRet (wMake F_ExactX_initX 2 [] (wCons (wOp rdSub (wOp rdMul (wFld "Exact" "top" (wVar 0)) (wFld "Exact" "bottom" (wVar 2))) (wOp rdMul (wFld "Exact" "top" (wVar 2)) (wFld "Exact" "bottom" (wVar 0)))) (wCons (wOp rdMul (wFld "Exact" "bottom" (wVar 0)) (wFld "Exact" "bottom" (wVar 2))) wNil))))))
def w_ExactX_mulX (F_ExactX_initX : FT) (F_exact_of : FT) (F_is_number : FT) : WS :=
    (wsSeq (wsIf (wNot (wTest (wCall (fun ds P R => ds.length = 1 ∧ F_is_number ds P R) [] (wCons (wVar 1) wNil)))) wsNever wsNext)
    (wsSeq (wsSet 2 (wCall (fun ds P R => ds.length = 1 ∧ F_exact_of ds P R) [] (wCons (wVar 1) wNil)))
    (wsRet (wMake F_ExactX_initX 2 [] (wCons (wOp rdMul (wFld "Exact" "top" (wVar 0)) (wFld "Exact" "top" (wVar 2))) (wCons (wOp rdMul (wFld "Exact" "bottom" (wVar 0)) (wFld "Exact" "bottom" (wVar 2))) wNil))))))
def w_ExactX_negX (F_ExactX_initX : FT) : WS :=
    (wsRet (wMake F_ExactX_initX 2 [] (wCons (wNeg (wFld "Exact" "top" (wVar 0))) (wCons (wFld "Exact" "bottom" (wVar 0)) wNil))))
def w_ExactX_absX (F_ExactX_initX : FT) : WS :=
    (wsRet (wMake F_ExactX_initX 2 [] (wCons (wCB rdAbs (wCons (wFld "Exact" "top" (wVar 0)) wNil)) (wCons (wFld "Exact" "bottom" (wVar 0)) wNil))))
def w_ExactX_raddX (F_ExactX_addX : FT) : WS :=
    (wsRet (wBinO "Exact" rdAdd F_ExactX_addX (fun _ _ _ => False) (wVar 0) (wVar 1)))
def w_ExactX_rsubX (F_ExactX_addX : FT) (F_ExactX_negX : FT) : WS :=
    (wsRet (wBinO "Exact" rdAdd F_ExactX_addX (fun _ _ _ => False) (wNegO "Exact" F_ExactX_negX (wVar 0)) (wVar 1)))
def w_ExactX_rmulX (F_ExactX_mulX : FT) : WS :=
    (wsRet (wBinO "Exact" rdMul F_ExactX_mulX (fun _ _ _ => False) (wVar 0) (wVar 1)))
def w_ExactX_eqX (F_is_number : FT) : WS :=
    (wsSeq (wsIf (wNot (wTest (wCall (fun ds P R => ds.length = 1 ∧ F_is_number ds P R) [] (wCons (wVar 1) wNil)))) (wsRet (wC (.bl false))) wsNext)
    (wsSeq (wsIf (wTest (wIsiC "Exact" [] (wVar 1))) (wsRet (wAndV (wOp rdEq (wFld "Exact" "top" (wVar 0)) (wFld "Exact" "top" (wVar 1))) (wOp rdEq (wFld "Exact" "bottom" (wVar 0)) (wFld "Exact" "bottom" (wVar 1))))) wsNext)
    (wsRet (wAndV (wOp rdEq (wFld "Exact" "bottom" (wVar 0)) (wC (.int 1))) (wOp rdEq (wFld "Exact" "top" (wVar 0)) (wVar 1))))))
/-- two numbers of up to 2 ^ 1000 -/
structure Two (x y : D) (a b c d : Int) : Prop where
  ex : x = exD a b
  nb : b ≠ 0
  num : NumD y c d
  sa : Sz 1000 a
  sb : Sz 1000 b
  sc : Sz 1000 c
  sd : Sz 1000 d
def F_ExAdd : FT := fun ds P _ => ∃ x y a b c d, ds = [x, y] ∧ Two x y a b c d ∧ P (exD (lowP (a * d + c * b) (b * d)).1 (lowP (a * d + c * b) (b * d)).2)
def F_ExSub : FT := fun ds P _ => ∃ x y a b c d, ds = [x, y] ∧ Two x y a b c d ∧ P (exD (lowP (a * d - c * b) (b * d)).1 (lowP (a * d - c * b) (b * d)).2)
def F_ExMul : FT := fun ds P _ => ∃ x y a b c d, ds = [x, y] ∧ Two x y a b c d ∧ P (exD (lowP (a * c) (b * d)).1 (lowP (a * c) (b * d)).2)
theorem Two.mk2 {x y : D} {a b c d : Int} (h : Two x y a b c d) : IntMulOk a d ∧ IntMulOk c b ∧ IntMulOk b d ∧ IntMulOk a c ∧ b * d ≠ 0 ∧ Sz 4000 (b * d) :=
  ⟨h.sa.mulOk h.sd (by decide) (by decide) (by decide), h.sc.mulOk h.sb (by decide) (by decide) (by decide), h.sb.mulOk h.sd (by decide) (by decide) (by decide), h.sa.mulOk h.sc (by decide) (by decide) (by decide), Int.mul_ne_zero h.nb h.num.ne, (h.sb.mul h.sd).mono (by decide)⟩
theorem pure_ExAdd (ds : List D) (P : D → Prop) (R : DX → Prop) (_ : ds.length = 2) (h : F_ExAdd ds P R) : w_ExactX_addX F_ExInit F_exact_of F_is_number (startE 3 ds) { nx := fun _ => P .non, rt := P, ex := fun x _ => R x } := by
  obtain ⟨x, y, a, b, c, d, rfl, t, hP⟩ := h
  obtain ⟨m1, m2, m3, m4, hz, sz⟩ := t.mk2
  have ex := t.ex
  subst ex
  refine st_ifN false (fun Pk h => ⟨rfl, t.num.number h⟩) (fun h => nomatch h) (fun _ => ?_)
  refine st_set (fun z => z = exD c d) (fun Pk hPk => ⟨rfl, t.num.exact (hPk _ rfl)⟩) (fun z hz => ?_)
  subst hz
  exact ⟨rfl, _, rfl, rfl, _, rfl, m1, rfl, _, rfl, rfl, _, rfl, m2, rfl, _, rfl, rfl, _, rfl, m3, rfl, _, _, rfl, hz, sz, hP⟩
theorem pure_ExSub (ds : List D) (P : D → Prop) (R : DX → Prop) (_ : ds.length = 2) (h : F_ExSub ds P R) : w_ExactX_subX F_ExInit F_exact_of F_is_number (startE 3 ds) { nx := fun _ => P .non, rt := P, ex := fun x _ => R x } := by
  obtain ⟨x, y, a, b, c, d, rfl, t, hP⟩ := h
  obtain ⟨m1, m2, m3, m4, hz, sz⟩ := t.mk2
  have ex := t.ex
  subst ex
  refine st_ifN false (fun Pk h => ⟨rfl, t.num.number h⟩) (fun h => nomatch h) (fun _ => ?_)
  refine st_set (fun z => z = exD c d) (fun Pk hPk => ⟨rfl, t.num.exact (hPk _ rfl)⟩) (fun z hz => ?_)
  subst hz
  exact ⟨rfl, _, rfl, rfl, _, rfl, m1, rfl, _, rfl, rfl, _, rfl, m2, trivial, rfl, _, rfl, rfl, _, rfl, m3, rfl, _, _, rfl, hz, sz, hP⟩
theorem pure_ExMul (ds : List D) (P : D → Prop) (R : DX → Prop) (_ : ds.length = 2) (h : F_ExMul ds P R) : w_ExactX_mulX F_ExInit F_exact_of F_is_number (startE 3 ds) { nx := fun _ => P .non, rt := P, ex := fun x _ => R x } := by
  obtain ⟨x, y, a, b, c, d, rfl, t, hP⟩ := h
  obtain ⟨m1, m2, m3, m4, hz, sz⟩ := t.mk2
  have ex := t.ex
  subst ex
  refine st_ifN false (fun Pk h => ⟨rfl, t.num.number h⟩) (fun h => nomatch h) (fun _ => ?_)
  refine st_set (fun z => z = exD c d) (fun Pk hPk => ⟨rfl, t.num.exact (hPk _ rfl)⟩) (fun z hz => ?_)
  subst hz
  exact ⟨rfl, _, rfl, rfl, _, rfl, m4, rfl, _, rfl, rfl, _, rfl, m3, rfl, _, _, rfl, hz, sz, hP⟩
def F_ExNeg : FT := fun ds P _ => ∃ a b : Int, ds = [exD a b] ∧ b ≠ 0 ∧ Sz 4000 b ∧ P (exD (lowP (-a) b).1 (lowP (-a) b).2)
theorem pure_ExNeg (ds : List D) (P : D → Prop) (R : DX → Prop) (_ : ds.length = 1) (h : F_ExNeg ds P R) : w_ExactX_negX F_ExInit (startE 1 ds) { nx := fun _ => P .non, rt := P, ex := fun x _ => R x } := by
  obtain ⟨a, b, rfl, hb, hs, hP⟩ := h
  exact ⟨rfl, _, rfl, rfl, _, rfl, rfl, _, _, rfl, hb, hs, hP⟩
def F_ExAbs : FT := fun ds P _ => ∃ a b : Int, ds = [exD a b] ∧ b ≠ 0 ∧ Sz 4000 b ∧ P (exD (lowP (if a < 0 then -a else a) b).1 (lowP (if a < 0 then -a else a) b).2)
theorem pure_ExAbs (ds : List D) (P : D → Prop) (R : DX → Prop) (_ : ds.length = 1) (h : F_ExAbs ds P R) : w_ExactX_absX F_ExInit (startE 1 ds) { nx := fun _ => P .non, rt := P, ex := fun x _ => R x } := by
  obtain ⟨a, b, rfl, hb, hs, hP⟩ := h
  exact ⟨rfl, _, rfl, rfl, _, rfl, rfl, _, _, rfl, hb, hs, hP⟩
/-- the reflected ones: an int ahead -/
theorem Two.int {a b n : Int} (nb : b ≠ 0) (sa : Sz 1000 a) (sb : Sz 1000 b) (sn : Sz 1000 n) : Two (exD a b) (.int n) a b n 1 := ⟨rfl, nb, .int, sa, sb, sn, Sz.one (by decide)⟩
structure OneI (x : D) (a b n : Int) : Prop where
  ex : x = exD a b
  low : Low a b
  sa : Sz 1000 a
  sb : Sz 1000 b
  sn : Sz 1000 n
def F_ExRadd : FT := fun ds P _ => ∃ x a b n, ds = [x, .int n] ∧ OneI x a b n ∧ P (exD (lowP (a * 1 + n * b) (b * 1)).1 (lowP (a * 1 + n * b) (b * 1)).2)
def F_ExRsub : FT := fun ds P _ => ∃ x a b n, ds = [x, .int n] ∧ OneI x a b n ∧ P (exD (lowP (n * b - a * 1) (1 * b)).1 (lowP (n * b - a * 1) (1 * b)).2)
def F_ExRmul : FT := fun ds P _ => ∃ x a b n, ds = [x, .int n] ∧ OneI x a b n ∧ P (exD (lowP (a * n) (b * 1)).1 (lowP (a * n) (b * 1)).2)
theorem pure_ExRadd (ds : List D) (P : D → Prop) (R : DX → Prop) (_ : ds.length = 2) (h : F_ExRadd ds P R) : w_ExactX_raddX F_ExAdd (startE 2 ds) { nx := fun _ => P .non, rt := P, ex := fun x _ => R x } := by
  obtain ⟨x, a, b, n, rfl, o, hP⟩ := h
  have ex := o.ex
  subst ex
  exact ⟨rfl, _, _, a, b, n, 1, rfl, Two.int o.low.ne o.sa o.sb o.sn, hP⟩
theorem pure_ExRmul (ds : List D) (P : D → Prop) (R : DX → Prop) (_ : ds.length = 2) (h : F_ExRmul ds P R) : w_ExactX_rmulX F_ExMul (startE 2 ds) { nx := fun _ => P .non, rt := P, ex := fun x _ => R x } := by
  obtain ⟨x, a, b, n, rfl, o, hP⟩ := h
  have ex := o.ex
  subst ex
  exact ⟨rfl, _, _, a, b, n, 1, rfl, Two.int o.low.ne o.sa o.sb o.sn, hP⟩
theorem pure_ExRsub (ds : List D) (P : D → Prop) (R : DX → Prop) (_ : ds.length = 2) (h : F_ExRsub ds P R) : w_ExactX_rsubX F_ExAdd F_ExNeg (startE 2 ds) { nx := fun _ => P .non, rt := P, ex := fun x _ => R x } := by
  obtain ⟨x, a, b, n, rfl, o, hP⟩ := h
  have ex := o.ex
  subst ex
  refine ⟨rfl, a, b, rfl, o.low.ne, o.sb.mono (by decide), ?_⟩
  rw [o.low.neg.self]
  refine ⟨rfl, _, _, -a, b, n, 1, rfl, Two.int o.low.ne o.sa.neg o.sb o.sn, ?_⟩
  have e1 : -a * 1 + n * b = n * b - a * 1 := by grind
  have e2 : b * 1 = 1 * b := by grind
  rw [e1, e2]
  exact hP
def F_ExEq : FT := fun ds P _ => (∃ a b c d, ds = [exD a b, exD c d] ∧ P (.bl (decide (a = c) && decide (b = d)))) ∨ (∃ a b n, ds = [exD a b, .int n] ∧ P (.bl (decide (b = 1) && decide (a = n)))) ∨
  ∃ a b d, ds = [exD a b, d] ∧ known d = true ∧ isIntB d = false ∧ isExB d = false ∧ P (.bl false)
theorem and_bl {a b : Bool} {P : D → Prop} {Q : Prop} (h : P (.bl (a && b))) (hb : Q = P (.bl b)) : match D.bl a with | .bl true => Q | .bl false => P (.bl false) | _ => False := by
  cases a with
  | true => rw [hb]; exact h
  | false => exact h
theorem pure_ExEq (ds : List D) (P : D → Prop) (R : DX → Prop) (_ : ds.length = 2) (h : F_ExEq ds P R) : w_ExactX_eqX F_is_number (startE 2 ds) { nx := fun _ => P .non, rt := P, ex := fun x _ => R x } := by
  rcases h with ⟨a, b, c, d, rfl, hP⟩ | ⟨a, b, n, rfl, hP⟩ | ⟨a, b, d, rfl, hk, hi, he, hP⟩
  · refine st_ifN false (fun Pk h => ⟨rfl, _, rfl, known_ex _ _, h⟩) (fun h => nomatch h) (fun _ => ?_)
    refine st_ifN true (fun Pk h => h) (fun _ => ?_) (fun h => nomatch h)
    refine ⟨rfl, _, rfl, rfl, _, rfl, ?_⟩
    show match D.bl (decide (a = c)) with | .bl true => _ | .bl false => P (.bl false) | _ => False
    cases e : decide (a = c) with
    | true => rw [e] at hP; exact ⟨rfl, _, rfl, rfl, _, rfl, hP⟩
    | false => rw [e] at hP; exact hP
  · refine st_ifN false (fun Pk h => ⟨rfl, _, rfl, rfl, h⟩) (fun h => nomatch h) (fun _ => ?_)
    refine st_ifN false (fun Pk h => h) (fun h => nomatch h) (fun _ => ?_)
    refine ⟨rfl, _, rfl, ?_⟩
    show match D.bl (decide (b = 1)) with | .bl true => _ | .bl false => P (.bl false) | _ => False
    cases e : decide (b = 1) with
    | true => rw [e] at hP; exact ⟨rfl, _, rfl, hP⟩
    | false => rw [e] at hP; exact hP
  · refine st_ifN true (fun Pk h => ⟨rfl, d, rfl, hk, ?_⟩) (fun _ => hP) (fun h => nomatch h)
    rw [hi, he]
    exact h
end Pu
set_option maxRecDepth 100000
/-! The laws' helpers about fractions, over data -/
namespace Pu
open PySem L2 PySem.Spec PyProof.Rows
theorem st_maybe {c : WT} {t b : WS} {env : En} {K : EnD} (Q : En → Prop) (hc : ∀ Pk : Bool → En → Prop, (∀ k, Pk k env) → c env Pk K.ex) (ht : ∀ Pk : En → Prop, (∀ e, Q e → Pk e) → t env { K with nx := Pk }) (he : Q env) (hb : ∀ e, Q e → b e K) : wsSeq (wsIf c t wsNext) b env K :=
  hc _ fun k => match k with
    | true => ht _ hb
    | false => hb _ he
def frD (a b : Int) : D := .tup [.int a, .int b]
def w_law_low  : WS :=
    (wsSeq (wsPar 2 3 (wCons (wCB rdAbs (wCons (wVar 0) wNil)) (wCons (wCB rdAbs (wCons (wVar 1) wNil)) wNil)))
    (wsSeq (wsWhile (wTest (wOp rdNe (wVar 3) (wC (.int 0))))
    (wsPar 2 3 (wCons (wVar 3) (wCons (wOp rdMod (wCB rdInt (wCons (wVar 2) wNil)) (wVar 3)) wNil))))
    (wsSeq (wsIf (wTest (wOp rdLt (wVar 1) (wC (.int 0)))) (wsSet 2 (wNeg (wVar 2))) wsNext)
    (wsRet (wTup (wCons (wOp rdFdivG (wVar 0) (wVar 2)) (wCons (wOp rdFdivG (wVar 1) (wVar 2)) wNil)))))))
def F_low : FT := fun ds P _ => ∃ a b : Int, ds = [.int a, .int b] ∧ b ≠ 0 ∧ Sz 4000 b ∧ P (frD (lowP a b).1 (lowP a b).2)
theorem pure_low (ds : List D) (P : D → Prop) (R : DX → Prop) (_ : ds.length = 2) (h : F_low ds P R) : w_law_low (startE 4 ds) { nx := fun _ => P .non, rt := P, ex := fun x _ => R x } := by
  obtain ⟨a, b, rfl, hb, hz, hP⟩ := h
  have szc := cI_sz (a := a) hb hz
  have cd : CDivG a (cI a b) := ⟨cI_ne hb, szc.log (by decide) (by decide)⟩
  refine st_par (fun d e => d = .int (a.natAbs : Int) ∧ e = .int (b.natAbs : Int)) (fun Pk hPk => ?_) (fun d e hd => ?_)
  · have q := hPk _ _ ⟨rfl, rfl⟩
    rw [← abs_nat a, ← abs_nat b] at q
    exact q
  obtain ⟨rfl, rfl⟩ := hd
  refine ⟨b.natAbs + 1, gcd_while (fun l s P R h => h) _ _ _ (Nat.lt_succ_self _) ?_⟩
  have fin : ∀ c : Int, c = cI a b → wsRet (wTup (wCons (wOp rdFdivG (wVar 0) (wVar 2)) (wCons (wOp rdFdivG (wVar 1) (wVar 2)) wNil))) [.v (.int a), .v (.int b), .v (.int c), .v (.int 0)] { nx := fun _ => P .non, rt := P, ex := fun x _ => R x } := fun c e => by
    subst e
    exact ⟨cd, cd, (by show (2 : Nat) ≤ sizeLine; decide), hP⟩
  dsimp only
  refine st_if (decide (b < 0)) (fun Pk h => ⟨trivial, h⟩) (fun h => ?_) (fun h => ?_)
  · refine fin _ ?_
    unfold cI
    rw [Int.sign_eq_neg_one_of_neg (of_decide_eq_true h)]
    show -(Int.gcd a b : Int) = _
    omega
  · refine fin _ ?_
    unfold cI
    rw [Int.sign_eq_one_of_pos (by have := of_decide_eq_false h; omega)]
    show (Int.gcd a b : Int) = _
    omega
/-! ### sums, differences, products of fractions -/
structure TwoT (a b c d : Int) : Prop where
  nb : b ≠ 0
  nd : d ≠ 0
  sa : Sz 1000 a
  sb : Sz 1000 b
  sc : Sz 1000 c
  sd : Sz 1000 d
theorem TwoT.ok {a b c d : Int} (h : TwoT a b c d) : IntMulOk a d ∧ IntMulOk c b ∧ IntMulOk b d ∧ IntMulOk a c ∧ b * d ≠ 0 ∧ Sz 4000 (b * d) :=
  ⟨h.sa.mulOk h.sd (by decide) (by decide) (by decide), h.sc.mulOk h.sb (by decide) (by decide) (by decide), h.sb.mulOk h.sd (by decide) (by decide) (by decide), h.sa.mulOk h.sc (by decide) (by decide) (by decide), Int.mul_ne_zero h.nb h.nd, (h.sb.mul h.sd).mono (by decide)⟩
def w_law_plus (F_law_low : FT) : WS :=
    (wsRet (wCall (fun ds P R => ds.length = 2 ∧ F_law_low ds P R) [] (wCons (wOp rdAdd (wOp rdMul (wOp rdIx (wVar 0) (wC (.int 0))) (wOp rdIx (wVar 1) (wC (.int 1)))) (wOp rdMul (wOp rdIx (wVar 1) (wC (.int 0))) (wOp rdIx (wVar 0) (wC (.int 1))))) (wCons (wOp rdMul (wOp rdIx (wVar 0) (wC (.int 1))) (wOp rdIx (wVar 1) (wC (.int 1)))) wNil))))
def w_law_less (F_law_low : FT) : WS :=
    (wsRet (wCall (fun ds P R => ds.length = 2 ∧ F_law_low ds P R) [] (wCons (wOp rdSub (wOp rdMul (wOp rdIx (wVar 0) (wC (.int 0))) (wOp rdIx (wVar 1) (wC (.int 1)))) (wOp rdMul (wOp rdIx (wVar 1) (wC (.int 0))) (wOp rdIx (wVar 0) (wC (.int 1))))) (wCons (wOp rdMul (wOp rdIx (wVar 0) (wC (.int 1))) (wOp rdIx (wVar 1) (wC (.int 1)))) wNil))))
def w_law_times (F_law_low : FT) : WS :=
    (wsRet (wCall (fun ds P R => ds.length = 2 ∧ F_law_low ds P R) [] (wCons (wOp rdMul (wOp rdIx (wVar 0) (wC (.int 0))) (wOp rdIx (wVar 1) (wC (.int 0)))) (wCons (wOp rdMul (wOp rdIx (wVar 0) (wC (.int 1))) (wOp rdIx (wVar 1) (wC (.int 1)))) wNil))))
def F_plus : FT := fun ds P _ => ∃ a b c d, ds = [frD a b, frD c d] ∧ TwoT a b c d ∧ P (frD (lowP (a * d + c * b) (b * d)).1 (lowP (a * d + c * b) (b * d)).2)
def F_less : FT := fun ds P _ => ∃ a b c d, ds = [frD a b, frD c d] ∧ TwoT a b c d ∧ P (frD (lowP (a * d - c * b) (b * d)).1 (lowP (a * d - c * b) (b * d)).2)
def F_times : FT := fun ds P _ => ∃ a b c d, ds = [frD a b, frD c d] ∧ TwoT a b c d ∧ P (frD (lowP (a * c) (b * d)).1 (lowP (a * c) (b * d)).2)
theorem pure_plus (ds : List D) (P : D → Prop) (R : DX → Prop) (_ : ds.length = 2) (h : F_plus ds P R) : w_law_plus F_low (startE 2 ds) { nx := fun _ => P .non, rt := P, ex := fun x _ => R x } := by
  obtain ⟨a, b, c, d, rfl, t, hP⟩ := h
  obtain ⟨m1, m2, m3, m4, hz, sz⟩ := t.ok
  exact ⟨_, at_0, _, at_1, m1, _, at_0, _, at_1, m2, _, at_1, _, at_1, m3, rfl, _, _, rfl, hz, sz, hP⟩
theorem pure_less (ds : List D) (P : D → Prop) (R : DX → Prop) (_ : ds.length = 2) (h : F_less ds P R) : w_law_less F_low (startE 2 ds) { nx := fun _ => P .non, rt := P, ex := fun x _ => R x } := by
  obtain ⟨a, b, c, d, rfl, t, hP⟩ := h
  obtain ⟨m1, m2, m3, m4, hz, sz⟩ := t.ok
  exact ⟨_, at_0, _, at_1, m1, _, at_0, _, at_1, m2, trivial, _, at_1, _, at_1, m3, rfl, _, _, rfl, hz, sz, hP⟩
theorem pure_times (ds : List D) (P : D → Prop) (R : DX → Prop) (_ : ds.length = 2) (h : F_times ds P R) : w_law_times F_low (startE 2 ds) { nx := fun _ => P .non, rt := P, ex := fun x _ => R x } := by
  obtain ⟨a, b, c, d, rfl, t, hP⟩ := h
  obtain ⟨m1, m2, m3, m4, hz, sz⟩ := t.ok
  exact ⟨_, at_0, _, at_0, m4, _, at_1, _, at_1, m3, rfl, _, _, rfl, hz, sz, hP⟩
/-! ### an Exact told -/
def w_law_told  : WS :=
    (wsSeq (wsIf (wNot (wTest (wIsiC "Exact" [] (wVar 0)))) (wsRet (wC .non)) wsNext)
    (wsSeq (wsIf (wOr (wTest (wIsi .bool (wFld "Exact" "top" (wVar 0)))) (wTest (wIsi .bool (wFld "Exact" "bottom" (wVar 0))))) (wsRet (wC .non)) wsNext)
    (wsRet (wIf (wAnd (wTest (wIsi .int (wFld "Exact" "top" (wVar 0)))) (wTest (wIsi .int (wFld "Exact" "bottom" (wVar 0))))) (wTup (wCons (wFld "Exact" "top" (wVar 0)) (wCons (wFld "Exact" "bottom" (wVar 0)) wNil))) (wC .non)))))
def F_told : FT := fun ds P _ => ∃ a b : Int, ds = [exD a b] ∧ P (frD a b)
theorem pure_told (ds : List D) (P : D → Prop) (R : DX → Prop) (_ : ds.length = 1) (h : F_told ds P R) : w_law_told (startE 1 ds) { nx := fun _ => P .non, rt := P, ex := fun x _ => R x } := by
  obtain ⟨a, b, rfl, hP⟩ := h
  refine st_ifN false (fun Pk h => h) (fun h => nomatch h) (fun _ => ?_)
  refine st_ifN false (fun Pk h => ⟨rfl, _, rfl, rfl, _, rfl, h⟩) (fun h => nomatch h) (fun _ => ?_)
  exact ⟨rfl, _, rfl, rfl, _, rfl, rfl, _, rfl, rfl, _, rfl, (by show (2 : Nat) ≤ sizeLine; decide), hP⟩
/-! ### a drawn fraction -/
def w_law_some_fraction (F_law_draw : FT) (F_law_low : FT) (F_law_of : FT) : WS :=
    (wsSeq (wsPar 1 2 (wCons (wCall (fun ds P R => ds.length = 2 ∧ F_law_draw ds P R) [] (wCons (wVar 0) (wCons (wC (.int 6)) wNil))) (wCons (wCall (fun ds P R => ds.length = 2 ∧ F_law_of ds P R) [] (wCons (wVar 0) (wCons (wLst (wCons (wC (.int 3)) (wCons (wC (.int 10)) (wCons (wOp rdPow (wC (.int 10)) (wC (.int 6))) (wCons (wOp rdPow (wC (.int 10)) (wC (.int 20))) wNil))))) wNil))) wNil)))
    (wsSeq (wsPar 3 4 (wCons (wCall (fun ds P R => ds.length = 2 ∧ F_law_draw ds P R) [] (wCons (wVar 0) (wCons (wVar 2) wNil))) (wCons (wOp rdAdd (wC (.int 1)) (wCall (fun ds P R => ds.length = 2 ∧ F_law_draw ds P R) [] (wCons (wVar 0) (wCons (wCall (fun ds P R => ds.length = 2 ∧ F_law_of ds P R) [] (wCons (wVar 0) (wCons (wLst (wCons (wC (.int 1)) (wCons (wC (.int 2)) (wCons (wC (.int 12)) (wCons (wVar 2) wNil))))) wNil))) wNil)))) wNil)))
    (wsSeq (wsIf (wTest (wOp rdEq (wVar 1) (wC (.int 0)))) (wsRet (wTup (wCons (wC (.int 0)) (wCons (wC (.int 1)) wNil)))) wsNext)
    (wsRet (wCall (fun ds P R => ds.length = 2 ∧ F_law_low ds P R) [] (wCons (wIf (wTest (wOp rdLt (wVar 1) (wC (.int 4)))) (wVar 3) (wNeg (wVar 3))) (wCons (wVar 4) wNil)))))))
def F_some_fraction : FT := fun ds P _ => ds = [.bag] ∧ ∀ a b, Low a b → Sz 100 a → Sz 100 b → P (frD a b)
theorem pow100 : (2 : Nat) ^ 100 = 1267650600228229401496703205376 := by decide
theorem pure_some_fraction (ds : List D) (P : D → Prop) (R : DX → Prop) (_ : ds.length = 1) (h : F_some_fraction ds P R) : w_law_some_fraction F_draw F_low F_of (startE 5 ds) { nx := fun _ => P .non, rt := P, ex := fun x _ => R x } := by
  obtain ⟨rfl, hP⟩ := h
  have z4 : (4 : Nat) ≤ sizeLine := by decide
  have c6 : CPow 10 6 := ⟨by decide, by decide, by decide⟩
  have c20 : CPow 10 20 := ⟨by decide, by decide, by decide⟩
  refine st_par (fun d e => ∃ a b : Int, d = .int a ∧ e = .int b ∧ 0 ≤ a ∧ 3 ≤ b ∧ b ≤ 100000000000000000000) (fun Pk hPk => ?_) (fun d e hd => ?_)
  · refine ⟨rfl, 6, rfl, by decide, by decide, fun a h0 h1 => ⟨c6, c20, z4, rfl, _, .inl rfl, by simp, (by show (4 : Nat) < 2 ^ 60; decide), fun d hd => ?_⟩⟩
    simp only [List.mem_cons, List.not_mem_nil, or_false] at hd
    rcases hd with rfl | rfl | rfl | rfl
    · exact hPk _ _ ⟨a, 3, rfl, rfl, h0, by decide, by decide⟩
    · exact hPk _ _ ⟨a, 10, rfl, rfl, h0, by decide, by decide⟩
    · exact hPk _ _ ⟨a, _, rfl, rfl, h0, by decide, by decide⟩
    · exact hPk _ _ ⟨a, _, rfl, rfl, h0, by decide, by decide⟩
  obtain ⟨way, wide, rfl, rfl, h0, h3, hw⟩ := hd
  have lw : ∀ m : Int, 0 < m → m ≤ 100000000000000000000 → m.natAbs.log2 < 9000 := fun m h1 h2 => Sz.log (n := 100) (by unfold Sz; rw [pow100]; omega) (by decide) (by decide)
  refine st_par (fun d e => ∃ a b : Int, d = .int a ∧ e = .int b ∧ 0 ≤ a ∧ a ≤ 100000000000000000000 ∧ 1 ≤ b ∧ b ≤ 100000000000000000000) (fun Pk hPk => ?_) (fun d e hd => ?_)
  · refine ⟨rfl, wide, rfl, by omega, lw _ (by omega) hw, fun a a0 a1 => ⟨z4, rfl, _, .inl rfl, by simp, (by show (4 : Nat) < 2 ^ 60; decide), fun d hd => ?_⟩⟩
    have fin : ∀ v m : Int, 0 ≤ v → v < m → m ≤ 100000000000000000000 → ∃ a' b' : Int, (D.int a) = .int a' ∧ (D.int (1 + v)) = .int b' ∧ 0 ≤ a' ∧ a' ≤ 100000000000000000000 ∧ 1 ≤ b' ∧ b' ≤ 100000000000000000000 := fun v m q0 q1 q2 => ⟨a, 1 + v, rfl, rfl, a0, by omega, by omega, by omega⟩
    simp only [List.mem_cons, List.not_mem_nil, or_false] at hd
    rcases hd with rfl | rfl | rfl | rfl
    · exact ⟨rfl, 1, rfl, by decide, by decide, fun v v0 v1 => hPk _ _ (fin v 1 v0 v1 (by decide))⟩
    · exact ⟨rfl, 2, rfl, by decide, by decide, fun v v0 v1 => hPk _ _ (fin v 2 v0 v1 (by decide))⟩
    · exact ⟨rfl, 12, rfl, by decide, by decide, fun v v0 v1 => hPk _ _ (fin v 12 v0 v1 (by decide))⟩
    · exact ⟨rfl, wide, rfl, by omega, lw _ (by omega) hw, fun v v0 v1 => hPk _ _ (fin v wide v0 v1 hw)⟩
  obtain ⟨t, b, rfl, rfl, t0, t1, b0, b1⟩ := hd
  have sz : ∀ a : Int, a.natAbs ≤ 100000000000000000000 → Sz 100 a := fun a h => by
    unfold Sz
    rw [pow100]
    omega
  refine st_ifN (decide (way = 0)) (fun Pk h => h) (fun _ => ?_) (fun _ => ?_)
  · exact ⟨(by show (2 : Nat) ≤ sizeLine; decide), hP 0 1 (low_int 0) (sz _ (by decide)) (sz _ (by decide))⟩
  have fin : ∀ a : Int, a.natAbs ≤ 100000000000000000000 → F_low [.int a, .int b] P R := fun a ha => by
    refine ⟨a, b, rfl, by omega, (sz b (by omega)).mono (by decide), hP _ _ (lowP_low (by omega)) ?_ ?_⟩
    · exact sz _ (Nat.le_trans (lowP_le (by omega)).1 ha)
    · exact sz _ (Nat.le_trans (lowP_le (by omega)).2 (by omega))
  refine ⟨trivial, ?_⟩
  show match decide (way < 4) with | true => _ | false => _
  cases decide (way < 4) with
  | true => exact ⟨rfl, fin t (by omega)⟩
  | false => exact ⟨rfl, fin (-t) (by omega)⟩
end Pu
set_option maxRecDepth 100000
set_option maxHeartbeats 4000000
/-! Own exceptions whose __init__ says super().__init__(name), then stores: made, over the heap -/
namespace PuExc
open PySem PySem.W PySem.Calls PyProof.Rows PySem.Spec
/-! ### the built-in behind the own classes -/
structure Bk where
  B : String
  n : String
  i : String
  tl : List Value
structure Bk.Ok (b : Bk) : Prop where
  F : ExcBaseFacts b.B b.n b.i b.tl
  KF : KxsFacts b.B b.i
  pass : ∀ self, refuseLoop self "__setattr__" b.tl = pure ()
  obj : b.tl.contains (.type "object") = true
def bVE : Bk := ⟨"ValueError", "ValueError.__new__", "ValueError.__init__", [.type "ValueError", .type "Exception", .type "BaseException", .type "object"]⟩
def bLE : Bk := ⟨"LookupError", "LookupError.__new__", "LookupError.__init__", [.type "LookupError", .type "Exception", .type "BaseException", .type "object"]⟩
def bIE : Bk := ⟨"IndexError", "IndexError.__new__", "IndexError.__init__", [.type "IndexError", .type "LookupError", .type "Exception", .type "BaseException", .type "object"]⟩
theorem bVE_ok : bVE.Ok := ⟨F.excBase_ValueError, kxs_ValueError, F.store_ValueError.passes, by decide +kernel⟩
theorem bLE_ok : bLE.Ok := ⟨F.excBase_LookupError, kxs_LookupError, F.store_LookupError.passes, by decide +kernel⟩
theorem bIE_ok : bIE.Ok := ⟨F.excBase_IndexError, kxs_IndexError, F.store_IndexError.passes, by decide +kernel⟩
/-- own classes, then tl -/
def refsT (tl : List Value) : List Value → Bool
  | .ref _ :: r => refsT tl r
  | l => l == tl
theorem refsT_cases {tl : List Value} : ∀ l : List Value, refsT tl l = true → (∃ c r, l = .ref c :: r ∧ refsT tl r = true) ∨ l = tl
  | [], e => .inr (beq_iff_eq.mp e)
  | .ref c :: r, e => .inl ⟨c, r, rfl, e⟩
  | .none :: _, e => .inr (beq_iff_eq.mp e)
  | .ellipsis :: _, e => .inr (beq_iff_eq.mp e)
  | .notImplemented :: _, e => .inr (beq_iff_eq.mp e)
  | .bool _ :: _, e => .inr (beq_iff_eq.mp e)
  | .int _ _ :: _, e => .inr (beq_iff_eq.mp e)
  | .float _ _ :: _, e => .inr (beq_iff_eq.mp e)
  | .str _ _ :: _, e => .inr (beq_iff_eq.mp e)
  | .bytes _ _ :: _, e => .inr (beq_iff_eq.mp e)
  | .type _ :: _, e => .inr (beq_iff_eq.mp e)
  | .builtin _ :: _, e => .inr (beq_iff_eq.mp e)
theorem refsT_pass {b : Bk} (ok : b.Ok) (self : Value) : ∀ l : List Value, refsT b.tl l = true → refuseLoop self "__setattr__" l = pure () := by
  intro l
  induction l with
  | nil =>
    intro e
    rcases refsT_cases [] e with ⟨c, r, q, _⟩ | q
    · cases q
    · rw [q]; exact ok.pass self
  | cons a r ih =>
    intro e
    rcases refsT_cases (a :: r) e with ⟨c, r', q, h⟩ | q
    · obtain ⟨rfl, rfl⟩ := List.cons.inj q
      rw [refuseLoop_ref]; exact ih h
    · rw [q]; exact ok.pass self
theorem refsT_contains {tl : List Value} (X : String) : ∀ l : List Value, refsT tl l = true → l.contains (.type X) = tl.contains (.type X) := by
  intro l
  induction l with
  | nil =>
    intro e
    rcases refsT_cases [] e with ⟨c, r, q, _⟩ | q
    · cases q
    · rw [q]
  | cons a r ih =>
    intro e
    rcases refsT_cases (a :: r) e with ⟨c, r', q, h⟩ | q
    · obtain ⟨rfl, rfl⟩ := List.cons.inj q
      rw [List.contains_cons, ih h]; rfl
    · rw [q]
/-! ### self.name = v on such an exception -/
section
open Builtin Builtin.ObjectAttr
variable {prog : Program} {w : World} {A : Around} {E : Value → Shared → Prop} {R : Result → Shared → Prop} {hp : Heap} {g : Array GenState} {d : Drawn} {t : Nat} {os : OsState}
structure StC (K : Frag) (C : Addr) (cd : ClassData) : Prop where
  is_ : clsIn K C = some cd
  pass : ∀ self, refuseLoop self "__setattr__" cd.mro = pure ()
  obj : cd.mro.contains (.type "object") = true
  ne : cd.mro.isEmpty = false
  hd : cd.hasDict = true
theorem osa_go {K : Frag} {name : Str} {tk : Tok} {v : Value} {x C : Addr} {ox : Obj} {od : Option Obj} {cd : ClassData} (X : K.In hp) (I : InstAt hp x ox C od) (S : StC K C cd) (ha : findIn K (.ref C) name = some none)
    (hq : wpAny (model prog w) A.in1 (storeInOwnDict (.ref x) (.ref C) (.str name tk) name v false)
      (fun fin s' => match fin with | .done f => R (.ok f) s' | .again c' => c'.quiet = true ∧ codeAny (model prog w) A c' R s') (fun e s' => R (.error e) s') ⟨hp, g, d, t, os⟩) :
    codeAny (model prog w) A (.call (.builtin "object.__setattr__") ⟨[.ref x, .str name tk, v], []⟩) R ⟨hp, g, d, t, os⟩ := by
  have SF := F.store_object
  have sub : Looks (model prog w) hp (isInstance (.ref x) (.type "object")) true := I.type.andThen (looks_mroIn X (by unfold mroIn; rw [S.is_, Option.bind_some, if_neg (by rw [S.ne]; decide), S.obj]))
  refine codeAny_call_builtin SF.slot.plain SF.entry (@check_slot (model prog w) _ _ ⟨hp, g, d, t, os⟩ "object.__setattr__" "object" "__setattr__" (.ref x) [.str name tk, v] [] _ SF.kind SF.split sub (SF.args (.ref x) (.str name tk) v) ?_)
  have hmr : Looks (model prog w) hp (mroOf (.ref C)) cd.mro := (looks_clsIn X S.is_).andThen .now
  have L3 : Looks (model prog w) hp (storeTaker? none) none := .now
  rw [osa_eq, refuse_eq]
  refine wpAny_bind (wpAny_bind (I.type.at (wpAny_bind (hmr.at ?_))))
  rw [S.pass]
  refine wpAny_pure (wpAny_bind (I.type.at (wpAny_bind ((looks_findIn X ha).at (wpAny_bind (L3.at ?_))))))
  exact hq
theorem osa_new {K : Frag} {name : Str} {tk : Tok} {v : Value} {x C : Addr} {fv : Array Value} {cd : ClassData}
    (X : K.In hp) (hx : hp.get? x = some { cls := .ref C, data := .fields fv }) (S : StC K C cd) (ha : findIn K (.ref C) name = some none)
    (hq : ∀ h' tk' dx, (∀ b o, b ≠ x → hp.get? b = some o → h'.get? b = some o) → hp.objs.size ≤ dx → dx ≠ x → h'.get? x = some { cls := .ref C, dict := some dx, data := .fields fv } →
      h'.Ns1 dx (fun y => if y = name then some v else none) → R (.ok (.ret .none)) ⟨h', g, d, tk', os⟩) :
    codeAny (model prog w) A (.call (.builtin "object.__setattr__") ⟨[.ref x, .str name tk, v], []⟩) R ⟨hp, g, d, t, os⟩ := by
  have I : InstAt hp x { cls := .ref C, data := .fields fv } C none := ⟨hx, rfl, rfl, trivial⟩
  have hxs : x ≠ hp.objs.size := Nat.ne_of_lt (Heap.lt_size hx)
  refine osa_go X I S ha ?_
  have hcls : Looks (model prog w) hp (classData C) cd := looks_clsIn X S.is_
  have hh := S.hd
  clear S
  obtain ⟨nm, bs, mro, ns, qn, hd, sn, sb, ab, col, del⟩ := cd
  dsimp only at hh
  subst hh
  unfold storeInOwnDict ownDictForStores
  repeat (first | with_reducible refine HandSPX.store_in_new ?_ ?_ | with_reducible refine wpAny_loadPart_at hx ?_ | with_reducible refine hcls.at ?_ | wp_step)
  · exact ⟨_, #[], _, (Heap.get?_update_ne _ _ _ _ hxs.symm).trans (Heap.get?_push_at rfl rfl), rfl, fun e he => absurd he (by simp), fun _ => rfl⟩
  · intro h' tk' hn' hs
    have hx₁ : (hp.push { cls := .type "dict", data := .dict #[] }).get? x = some { cls := .ref C, data := .fields fv } := Heap.get?_push_of_some _ hx
    refine hq h' tk' hp.objs.size (fun b o hb ho => ?_) (Nat.le_refl _) hxs.symm ?_ hn'
    · exact (hs.2 b (Nat.ne_of_lt (Heap.lt_size ho))).trans ((Heap.get?_update_ne _ _ _ _ hb).trans (Heap.get?_push_of_some _ ho))
    · exact (hs.2 x hxs).trans (Heap.get?_update_self _ hx₁ rfl)
theorem osa_old {K : Frag} {name : Str} {tk : Tok} {v : Value} {x C dx : Addr} {fv : Array Value} {cd : ClassData} {m0 : Str → Option Value} {nl : List Str}
    (X : K.In hp) (hx : hp.get? x = some { cls := .ref C, dict := some dx, data := .fields fv }) (hns : hp.Ns1 dx m0) (hw : Within m0 nl) (hz : nl.length ≤ 1000) (S : StC K C cd)
    (ha : findIn K (.ref C) name = some none)
    (hq : ∀ h' tk', (∀ b o, b ≠ dx → hp.get? b = some o → h'.get? b = some o) → h'.Ns1 dx (fun y => if y = name then some v else m0 y) → R (.ok (.ret .none)) ⟨h', g, d, tk', os⟩) :
    codeAny (model prog w) A (.call (.builtin "object.__setattr__") ⟨[.ref x, .str name tk, v], []⟩) R ⟨hp, g, d, t, os⟩ := by
  obtain ⟨oD, esD, epD, hoD, hdD, _⟩ := hns.count hw
  have I : InstAt hp x { cls := .ref C, dict := some dx, data := .fields fv } C (some oD) := ⟨hx, rfl, rfl, hoD⟩
  refine osa_go X I S ha ?_
  have hcls : Looks (model prog w) hp (classData C) cd := looks_clsIn X S.is_
  have hh := S.hd
  clear S
  obtain ⟨nm, bs, mro, ns, qn, hd, sn, sb, ab, col, del⟩ := cd
  dsimp only at hh
  subst hh
  unfold storeInOwnDict ownDictForStores
  repeat (first | with_reducible refine ESX.store_in_old hns hw hz ?_ | with_reducible refine wpAny_loadPart_at hx ?_ | with_reducible refine hcls.at ?_ | wp_step)
  intro h' tk' hn' hs
  exact hq h' tk' (fun b o hb ho => (hs.2 b hb).trans ho) hn'
end
/-! ### super().__init__(x) -/
section
variable {M : Model} {A : Around} {E : Value → Shared → Prop} {h : Heap} {g : Array GenState} {d : Drawn} {t : Nat} {os : OsState}
variable {nm q : Str} {C N : Addr} {bs bm bmB : List Value} {hdct : Bool} {sn : List Str} {sub : List Value} {ab : Bool} {col : Option Bool} {dd : Option Addr} {k0 k1 k2 k3 k5 : Option Value} {B newId initId : String}
theorem call_mw (F : ExcBaseFacts B newId initId bmB) {u e t0 : Addr} {rest : List Value} {Q : Value → Shared → Prop} {prog : Program} {w : World}
    (hC : h.get? C = some (excClassObj nm q C N bs bm hdct sn sub ab col dd k0 k1 k2 k3 k5 newId)) (he : h.get? e = some (HandSPX.excO C t0)) (hu : h.get? u = some (kxs_mw initId e)) (hrest : rest.length ≤ sizeLine)
    (hq : ∀ h' t1, (∀ b o, b ≠ e → h.get? b = some o → h'.get? b = some o) → h'.get? e = some (HandSPX.excO C t1) → Q .none ⟨h', g, d, t, os⟩) :
    wpAny (model prog w) A (call (.ref u) rest) Q E ⟨h, g, d, t, os⟩ := by
  refine wpAny_call (codeAny_of_tree ?_)
  show wpAny _ A.in1 (callAny (.ref u) ⟨rest, []⟩) _ _ _
  simp only [callAny]
  refine wpAny_bind (wpAny_load hu ?_)
  simp only [kxs_mw, show (Value.type "method-wrapper" == Value.type "method" || Value.type "method-wrapper" == Value.type "builtin_function_or_method" || Value.type "method-wrapper" == Value.type "method-wrapper") = true by decide, if_true]
  refine KFB.if_so (by decide) ?_
  refine wpAny_bind (ESX.check_bound F hC he rfl ?_)
  refine wpAny_bind (wpAny_pure (wpAny_pure ?_))
  refine ⟨plainId_quiet F.init.plain _, codeAny_builtin F.initEntry ?_⟩
  rw [Around.under_plainId F.init.plain _]
  exact exc_init_tree (cls := .ref C) (t0 := t0) (dv := none) (c2 := .none) (c3 := .none) (b4 := .bool false) he hrest fun h' k e' t' => hq h' _ k e'
end
/-! ### the class -/
/-- self.p = p, one after the other -/
inductive Stores : List Str → List Stmt → Prop
  | nil : Stores [] []
  | cons {p : Str} {ps : List Str} {rest : List Stmt} {p1 p2 p3 p4 : Pos} : Stores ps rest → Stores (p :: ps) (.Assign [.Attribute (.Name "self" p1) p p2] (.Name p p3) p4 :: rest)
/-- super().__init__(c), self.code = c, the stores -/
inductive BodyX (c : Str) (ps : List Str) (mkE : Addr → Env) : List Stmt → Prop
  | mk {rest : List Stmt} {j j2 : Nat} {p0 p1 p2 p3 p4 p5 p6 p7 p8 p9 : Pos} {pl : Addr → Sem Bool} : Stores ps rest → (∀ L, interactive (mkE L) = false) →
    (∀ L, eval (.Call (.Attribute (.Call (.Name "super" p0) [] [] p1) "__init__" p2) [.Constant (.str c) j p3] [] p4) (mkE L) = (do
      let ov ← attributeBase (.Call (.Name "super" p0) [] [] p1) "__init__" (mkE L) (eval (.Call (.Name "super" p0) [] [] p1) (mkE L))
      standAt p2.atName
      let (f, first) ← holding [ov] (getMethod ov "__init__" (pl L))
      callWith p4 f first (backTo p4 (starEach [.Constant (.str c) j p3] (mkE L))) [])) →
    BodyX c ps mkE (.Expr (.Call (.Attribute (.Call (.Name "super" p0) [] [] p1) "__init__" p2) [.Constant (.str c) j p3] [] p4) p5 :: .Assign [.Attribute (.Name "self" p6) "code" p7] (.Constant (.str c) j2 p8) p9 :: rest)
structure ScopeX (ps : List Str) (scope : Scope) : Prop where
  kind : scope.kind = .function
  co : scope.isCoroutine = false
  gen : scope.isGenerator = false
  cell : ∀ x ∈ scope.names, x.2 ≠ .cell
  sup : scope.names.lookup ("super" : Str) = some .globalImplicit
  cls : scope.names.lookup ("__class__" : Str) = some .free
  loc : ∀ p ∈ ("self" : Str) :: ps, scope.names.lookup p = some .local
  nd : (("self" : Str) :: ps).Nodup
  dbg : ∀ p ∈ ("self" : Str) :: ps, (p == ("__debug__" : Str)) = false
/-- the class at C and its __init__ -/
structure XDef (K : Frag) (P : Program) (b : Bk) (c : Str) (C fI : Addr) (fd : FuncData) (ps : List Str) : Prop where
  bk : b.Ok
  cls : ∃ nm q N bs bm sn sub ab col dd k0 k1 k2 k3 k5, K.lookup C = some (excClassObj nm q C N bs bm true sn sub ab col dd k0 k1 k2 k3 k5 b.n) ∧ refsT b.tl bm = true
  sup : ks_superIn K C C "__init__" = some (some (.builtin b.i))
  sub : subIn K (.ref C) (.type b.B) = some true
  self : mroIn K C (.ref C) = some true
  sa : findIn K (.ref C) "__setattr__" = some (some (.builtin "object.__setattr__"))
  na : ∀ f ∈ ("code" : Str) :: ps, findIn K (.ref C) f = some none
  exC : subIn K (.ref C) (.type "BaseException") = some true
  tyC : typeIn K (.ref C) = some (.type "type")
  kC : keepIn K (.ref C) = true
  iC : findIn K (.ref C) "__init__" = some (some (.ref fI))
  tI : typeIn K (.ref fI) = some (.type "function")
  fn : ∃ qual params body scope kV doc pm an cda ct oc od osl cc ar, fd = ksFn "__init__" qual params body scope .none kV doc pm an (.ref cda) ct cc ∧ K.lookup fI = some ⟨oc, od, .func fd, osl⟩ ∧ codeIn K (.ref cda) qual = true ∧
    (∃ ccl cdd vs ccs file tf, K.lookup cda = some ⟨ccl, cdd, .fields vs, ccs⟩ ∧ vs[2]? = some (.str file tf) ∧ ((P.main.file : Str) == file) = true) ∧
    (∃ cl cld csl, K.lookup cc = some ⟨cl, cld, .cell (some (.ref C)), csl⟩) ∧ BodyX c ps (fun L => ksEnv qual scope L fI (.ref cda) cc) body ∧ ScopeX ps scope ∧ (params.posonlyargs ++ params.args).head? = some ar ∧ ar.arg = "self"
  bd : L2.Binds K fd (("self" : Str) :: ps) []
  super : nsIn K mainGlobals "super" = some none
  top : (P.main.scope.names.lookup ("super" : Str)).isSome = false
  opq : nsIn K cStatics "thirdparty.any" = some none
theorem XDef.st {K : Frag} {P : Program} {b : Bk} {c : Str} {C fI : Addr} {fd : FuncData} {ps : List Str} (T : XDef K P b c C fI fd ps) : ∃ cd, StC K C cd := by
  obtain ⟨nm, q, N, bs, bm, sn, sub, ab, col, dd, k0, k1, k2, k3, k5, hC, hbm⟩ := T.cls
  refine ⟨{ name := nm, bases := bs, mro := .ref C :: bm, ns := N, qualname := q, hasDict := true, slotNames := sn, subclasses := sub, abstract := ab, collection := col, hasDel := false }, ?_, fun self => ?_, ?_, rfl, rfl⟩
  · unfold clsIn
    rw [hC]
  · show refuseLoop self "__setattr__" (.ref C :: bm) = _
    rw [refuseLoop_ref]
    exact refsT_pass T.bk self bm hbm
  · show (Value.ref C :: bm).contains (.type "object") = true
    rw [List.contains_cons, refsT_contains "object" bm hbm, T.bk.obj, Bool.or_true]
/-! ### the run of __init__ -/
theorem look_put {fs : List (Str × Value)} {n : Str} {v : Value} : (fun y => if y = n then some v else fs.lookup y) = fun y => ((n, v) :: fs).lookup y := by
  funext y
  by_cases e : y = n
  · subst e
    simp [List.lookup]
  · have q : (y == n) = false := by simpa using e
    rw [if_neg e]
    simp [List.lookup, q]
theorem ns1_one {h : Heap} {dx : Addr} {n : Str} {v : Value} (x : h.Ns1 dx (fun y => if y = n then some v else none)) : h.Ns1 dx (fun y => ([(n, v)] : List (Str × Value)).lookup y) := by
  rw [← look_put (fs := [])]
  exact x
theorem within_look (fs : List (Str × Value)) : Within (fun y => fs.lookup y) (fs.map (·.1)) := fun y hy => by
  cases q : fs.lookup y with
  | none => exact absurd q hy
  | some v => exact List.mem_map.mpr ⟨_, PySem.mem_of_lookup q, rfl⟩
section
variable {prog : Program} {w : World} {A : Around} {E : Value → Shared → Prop} {K : Frag} {C e dx L : Addr} {cd : ClassData} {env : Env} {c : Code} {fv : Array Value} {mL : Str → Option Value}
theorem run_stores (S : StC K C cd) (sa : findIn K (.ref C) "__setattr__" = some (some (.builtin "object.__setattr__"))) (hk : env.scope.kind = .function) (hL : env.locals = L) (hse : mL "self" = some (.ref e)) (hls : env.kindOf "self" = some .local)
    {Q : Flow → Shared → Prop} : ∀ {ps : List Str} {us : List Value} {rest : List Stmt} {h : Heap} {g : Array GenState} {d : Drawn} {t : Nat} {os : OsState} {fs : List (Str × Value)}, Stores ps rest → ps.length = us.length → K.In h →
    h.get? e = some { cls := .ref C, dict := some dx, data := .fields fv } → h.Ns1 dx (fun y => fs.lookup y) → fs.length + ps.length ≤ 900 → h.Ns L mL → L ≠ dx → e ≠ dx → (∀ b o, K.lookup b = some o → b ≠ dx) →
    (∀ (i : Nat) (p : Str) (u : Value), ps[i]? = some p → us[i]? = some u → mL p = some u ∧ env.kindOf p = some .local ∧ (p == ("__debug__" : Str)) = false ∧ findIn K (.ref C) p = some none) →
    (∀ h' t', (∀ b o, b ≠ dx → h.get? b = some o → h'.get? b = some o) → h'.Ns1 dx (fun y => ((ps.zip us).reverse ++ fs).lookup y) → Q .next ⟨h', g, d, t', os⟩) → _root_.PySem.wpAt (model prog w) A c (execs rest env) Q E ⟨h, g, d, t, os⟩
  | [], us, _, h, g, d, t, os, fs, .nil, hl, X, he, hn, hz, hns, h1, h2, hK, hp, hq => by
    refine wpAt_of_wpAny (wpAny_execs_nil (hq h t (fun b o _ q => q) ?_))
    have : us = [] := by cases us with | nil => rfl | cons _ _ => cases hl
    subst this
    exact hn
  | p :: ps, u :: us, _, h, g, d, t, os, fs, .cons r, hl, X, he, hn, hz, hns, h1, h2, hK, hp, hq => by
    obtain ⟨a1, a2, a3, a4⟩ := hp 0 p u rfl rfl
    refine ks_wpAt_execs_cons (ks_wpAt_Assign_Attr (wpAt_of_wpAny ?_))
    have hns' : h.Ns env.locals mL := by rw [hL]; exact hns
    refine ESX.ldL hns' a1 ?_ hk a2 a3
    refine ESX.ldL hns' hse ?_ hk hls (by decide)
    obtain ⟨oD, esD, epD, hoD, hdD, _⟩ := hn.count (within_look fs)
    refine set_plain X (ox := { cls := .ref C, dict := some dx, data := .fields fv }) (od := some oD) ⟨he, rfl, rfl, hoD⟩ sa ?_
    refine osa_old X he hn (within_look fs) (by rw [List.length_map]; simp at hz; omega) S a4 fun h' tk' k hn' => ?_
    rw [look_put] at hn'
    refine run_stores S sa hk hL hse hls r (by simpa using hl) (fun b o q => k b o (hK b o q) (X b o q)) (k e _ h2 he) hn' (by simp at hz ⊢; omega) ?_ h1 h2 hK (fun i q w x y => hp (i + 1) q w (by simpa using x) (by simpa using y)) fun h'' t'' k' hn'' => hq h'' t'' (fun b o x y => k' b o x (k b o x y)) ?_
    · obtain ⟨o, es, ep, ho, z⟩ := hns
      exact ⟨o, es, ep, k _ _ h1 ho, z⟩
    · rw [List.zip_cons_cons, List.reverse_cons, List.append_assoc]
      exact hn''
end
section
variable {prog : Program} {w : World} {A : Around} {R : Result → Shared → Prop} {h : Heap} {g : Array GenState} {d : Drawn} {t : Nat} {os : OsState} {K : Frag} {mg mb : Str → Option Value} {b : Bk} {cn : Str} {C fI e t0 : Addr} {fd : FuncData} {ps : List Str} {us : List Value}
/-- __init__ of such a class, run at a new exception -/
theorem init_runA {args : Args} (bd : BindsTo ⟨h, g, d, t, os⟩ fd args ((("self" : Str) :: ps).zip (.ref e :: us))) (T : XDef K prog b cn C fI fd ps) (X : K.In h) (hg : h.Ns mainGlobals mg) (hb : h.Ns builtinsNs mb) (hbb : ∀ x : Str, x ≠ "__name__" → mb x = bootBuiltins x) (hlim : h.NoLimit) (he : h.get? e = some (HandSPX.excO C t0))
    (hK : ∀ a o, K.lookup a = some o → a ≠ e) (hGe : mainGlobals ≠ e) (hBe : builtinsNs ≠ e) (hl : us.length = ps.length) (hz : ps.length ≤ 800) (hroom : A.depth < recursionLimit)
    (hq : ∀ h' t' dx tc t1, (∀ a o, a ≠ e → h.get? a = some o → h'.get? a = some o) → h.get? dx = none → h'.get? e = some { cls := .ref C, dict := some dx, data := .fields #[.ref t1, .none, .none, .none, .bool false, .none] } →
      h'.Ns1 dx (fun y => ((ps.zip us).reverse ++ [(("code" : Str), Value.str cn tc)]).lookup y) → R (.ok (.ret .none)) ⟨h', g, d, t', os⟩) :
    codeAny (model prog w) A (.call (.ref fI) args) R ⟨h, g, d, t, os⟩ := by
  obtain ⟨cd, S⟩ := T.st
  obtain ⟨nm, q, N, bs, bm, sn, sub, ab, col, dd, k0, k1, k2, k3, k5, hC, hbm⟩ := T.cls
  obtain ⟨qual, params, body, scope, kV, doc, pm, an, cda, ct, oc, od, osl, cc, ar, hfd, lf, hcode, ⟨ccl, cdd, vs, ccs, file, tf, lcd, hvs, hfile⟩, ⟨cl, cld, csl, lcc⟩, hbody, SC, hpar, har⟩ := T.fn
  subst hfd
  refine ks_codeAny_call_defAt (fd := ksFn "__init__" qual params body scope .none kV doc pm an (.ref cda) ct cc) (body := body) (binds := (("self" : Str) :: ps).zip (.ref e :: us)) hroom (X _ _ lf) rfl hlim (codeRec_of X hcode) rfl bd SC.cell (fun y hy => SC.loc _ (List.of_mem_zip hy).1) (fun h₁ hns hk₁ => ?_) SC.co SC.gen SC.kind
  show _root_.PySem.wpAt _ (A.deeper (ksEnv qual scope h.objs.size fI (.ref cda) cc)) (.func body (ksEnv qual scope h.objs.size fI (.ref cda) cc)) (execs body (ksEnv qual scope h.objs.size fI (.ref cda) cc)) _ _ _
  have zl : ∀ (i : Nat) (p : Str) (u : Value), (("self" : Str) :: ps)[i]? = some p → (Value.ref e :: us)[i]? = some u → ((("self" : Str) :: ps).zip (Value.ref e :: us)).reverse.lookup p = some u := fun i p u => NdefX.zip_look SC.nd
  have hse : ((("self" : Str) :: ps).zip (Value.ref e :: us)).reverse.lookup ("self" : Str) = some (Value.ref e) := zl 0 _ _ rfl rfl
  have lsz : ∀ a o, h.get? a = some o → a ≠ h.objs.size := fun a o q => Nat.ne_of_lt (Heap.lt_size q)
  have X1 : K.In h₁ := X.keeps hk₁
  have he1 := hk₁ _ _ he
  obtain ⟨oD, hD1, hD2⟩ : ∃ oD, h₁.get? C = some oD ∧ oD.data = .cls cd := by
    have z := S.is_
    unfold clsIn at z
    split at z
    · rename_i c1 d1 cd1 sl1 ho
      cases z
      exact ⟨_, X1 _ _ ho, rfl⟩
    · cases z
  have I1 : InstAt h₁ e (HandSPX.excO C t0) C none := ⟨he1, rfl, rfl, trivial⟩
  cases hbody with
  | @mk rest j j2 p0 p1 p2 p3 p4 p5 p6 p7 p8 p9 pl st hint hev =>
    refine ks_wpAt_execs_cons (ks_wpAt_Expr_any (ks_wpAt_MethodCall ?_ (hev _)) (hint _))
    refine ks_wpAt_super_base (env := ksEnv qual scope h.objs.size fI (.ref cda) cc) SC.sup SC.cls rfl rfl (X1 _ _ lf) rfl hpar rfl (X1 _ _ lcd) rfl hvs hfile T.top ?_
    refine ks_loadName_global SC.kind SC.sup (loadGlobal_builtin (env := ksEnv qual scope h.objs.size fI (.ref cda) cc) (hg.keeps hk₁) (mg_none_of X hg T.super) (hb.keeps hk₁) ((hbb _ (by decide)).trans (by rfl)) ⟨rfl, ?_⟩)
    refine wpAny_loadName_free SC.kind SC.cls rfl ⟨_, X1 _ _ lcc, rfl⟩ ?_
    rw [har]
    refine wpAny_loadName_local SC.kind (SC.loc _ List.mem_cons_self) hns hse ?_
    refine ks_wpAny_isType_cls hD1 hD2 ⟨rfl, ?_⟩
    refine ks_wpAny_call_super hD1 hD2 he1 rfl (fun c z => nomatch z) (looks_mroIn X1 T.self) (fun h2 e2 k2 => ?_)
    have X2 := X1.keeps k2
    have he2 := k2 _ _ he1
    have hB : Looks (model prog w) h2 (isInstance (.ref e) (.type b.B)) true := (⟨he2, rfl, rfl, trivial⟩ : InstAt h2 e (HandSPX.excO C t0) C none).type.andThen (looks_subIn X2 T.sub)
    have hsup : alongIn K "__init__" ((cd.mro.dropWhile (· != .ref C)).drop 1) = some (some (.builtin b.i)) := by
      have z := T.sup
      unfold ks_superIn at z
      rw [S.is_] at z
      exact z
    refine kxs_getMethod T.bk.KF e2 (looks_opaque X2 T.opq) (l₀ := cd.mro) (fun A Q E s k q => wpAny_bind ((looks_clsIn X2 S.is_) A _ E s k (wpAny_pure q))) rfl X2 hsup hB (ks_ne X1 I1 S.is_) rfl ?_
    have k3 : ∀ a o, h2.get? a = some o → (h2.push (kxs_mw b.i e)).get? a = some o := fun a o z => Heap.get?_push_of_some _ z
    rw [show starEach [.Constant (.str cn) j p3] (ksEnv qual scope h.objs.size fI (.ref cda) cc) = (false, eval (.Constant (.str cn) j p3) (ksEnv qual scope h.objs.size fI (.ref cda) cc)) :: starEach [] (ksEnv qual scope h.objs.size fI (.ref cda) cc) from rfl]
    refine kxs_callWith (i := b.i) (x := e) rfl (evalArgs_plain (spliced_cons (Constant_str (pos := p3) (k := j) (spliced_nil ⟨(Heap.get?_push_at rfl rfl : (h2.push (kxs_mw b.i e)).get? h2.objs.size = some (kxs_mw b.i e)), ?_⟩))))
    show wpAny _ _ (call (.ref h2.objs.size) [_]) _ _ _
    refine call_mw T.bk.F (k3 _ _ (X2 _ _ hC)) (k3 _ _ he2) (Heap.get?_push_at rfl rfl) (by show 1 ≤ sizeLine; rw [sizeLine_eq]; omega) (fun h4 t4 k4 e4 => ?_)
    have kk : ∀ a o, a ≠ e → h₁.get? a = some o → h4.get? a = some o := fun a o n z => k4 a o n (k3 _ _ (k2 _ _ z))
    have X4 : K.In h4 := fun a o z => kk a o (hK a o z) (X1 a o z)
    obtain ⟨oL, esL, epL, hL, rL⟩ := hns
    have nLe : h.objs.size ≠ e := fun z => lsz _ _ he z.symm
    -- self.code = c
    refine ks_wpAt_execs_cons (ks_wpAt_Assign_Attr (wpAt_of_wpAny (Constant_str ?_)))
    refine ESX.ldL (m := fun x => ((("self" : Str) :: ps).zip (Value.ref e :: us)).reverse.lookup x) (env := ksEnv qual scope h.objs.size fI (.ref cda) cc) ⟨oL, esL, epL, kk _ _ nLe hL, rL⟩ hse ?_ SC.kind (SC.loc _ List.mem_cons_self) (by decide)
    refine set_plain X4 (ox := HandSPX.excO C t4) (od := none) ⟨e4, rfl, rfl, trivial⟩ T.sa ?_
    refine osa_new X4 e4 S (T.na _ List.mem_cons_self) fun h5 t5 dx k5 ndx dxe e5 n5 => ?_
    have up : ∀ a o, a ≠ e → h.get? a = some o → h5.get? a = some o := fun a o n z => k5 a o n (kk a o n (hk₁ a o z))
    have dxn : ∀ a o, h₁.get? a = some o → a ≠ dx := fun a o z q => by
      by_cases ae : a = e
      · rw [ae] at q
        exact dxe q.symm
      · have := Heap.lt_size (kk a o ae z)
        rw [q] at this
        exact Nat.lt_irrefl _ (Nat.lt_of_lt_of_le this ndx)
    have hnone : h.get? dx = none := by
      cases z : h.get? dx with
      | none => rfl
      | some o => exact absurd rfl (dxn _ _ (hk₁ _ _ z))
    refine run_stores (L := h.objs.size) (env := ksEnv qual scope h.objs.size fI (.ref cda) cc) (mL := fun x => (((("self" : Str)) :: ps).zip (Value.ref e :: us)).reverse.lookup x) (us := us) S T.sa SC.kind rfl hse (SC.loc _ List.mem_cons_self) st hl.symm (fun a o z => k5 a o (hK a o z) (X4 a o z)) e5 (ns1_one n5) (by simp; omega) ⟨oL, esL, epL, k5 _ _ nLe (kk _ _ nLe hL), rL⟩ (dxn _ _ hL) (fun z => dxe z.symm)
      (fun a o z => dxn a o (X1 a o z)) (fun i p u h1 h2 => ⟨zl (i + 1) p u (by simpa using h1) (by simpa using h2), SC.loc _ (List.mem_cons_of_mem _ (List.mem_of_getElem? h1)), SC.dbg _ (List.mem_cons_of_mem _ (List.mem_of_getElem? h1)), T.na _ (List.mem_cons_of_mem _ (List.mem_of_getElem? h1))⟩) fun h6 t6 k6 n6 => ?_
    refine hq h6 t6 dx _ _ (fun a o n z => k6 a o (dxn a o (hk₁ a o z)) (up a o n z)) hnone (k6 _ _ (fun z => dxe z.symm) e5) n6
theorem init_run (T : XDef K prog b cn C fI fd ps) (X : K.In h) (hg : h.Ns mainGlobals mg) (hb : h.Ns builtinsNs mb) (hbb : ∀ x : Str, x ≠ "__name__" → mb x = bootBuiltins x) (hlim : h.NoLimit) (he : h.get? e = some (HandSPX.excO C t0))
    (hK : ∀ a o, K.lookup a = some o → a ≠ e) (hGe : mainGlobals ≠ e) (hBe : builtinsNs ≠ e) (hl : us.length = ps.length) (hz : ps.length ≤ 800) (hroom : A.depth < recursionLimit)
    (hq : ∀ h' t' dx tc t1, (∀ a o, a ≠ e → h.get? a = some o → h'.get? a = some o) → h.get? dx = none → h'.get? e = some { cls := .ref C, dict := some dx, data := .fields #[.ref t1, .none, .none, .none, .bool false, .none] } →
      h'.Ns1 dx (fun y => ((ps.zip us).reverse ++ [(("code" : Str), Value.str cn tc)]).lookup y) → R (.ok (.ret .none)) ⟨h', g, d, t', os⟩) :
    codeAny (model prog w) A (.call (.ref fI) ⟨.ref e :: us, []⟩) R ⟨h, g, d, t, os⟩ := by
  have bd := T.bd ⟨h, g, d, t, os⟩ (.ref e :: us) X (by simp [hl])
  rw [List.append_nil] at bd
  exact init_runA bd T X hg hb hbb hlim he hK hGe hBe hl hz hroom hq
end
end PuExc
set_option maxRecDepth 100000
set_option maxHeartbeats 2000000
/-! Own exceptions: raised, caught as e by a tuple of classes -/
namespace Pu
open PySem L2 PySem.Spec PyProof.Rows PuExc
/-! ### an exception's dict -/
def xfs {α : Type} (c : α) (ps : List Str) (vs : List α) : List (Str × α) := (ps.zip vs).reverse ++ [(("code" : Str), c)]
theorem kv_zip : ∀ {ps : List Str} {vs : List V} {us : List Value} {l : List (Str × V)} {m : List (Str × Value)}, Vals vs us → KV l m → KV ((ps.zip vs).reverse ++ l) ((ps.zip us).reverse ++ m)
  | [], _, _, _, _, _, h => by simpa using h
  | _ :: _, [], _, _, _, r, h => by cases r; simpa using h
  | p :: ps, v :: vs, _, l, m, .cons (b := u) r t, h => by
    rw [List.zip_cons_cons, List.zip_cons_cons, List.reverse_cons, List.reverse_cons, List.append_assoc, List.append_assoc]
    exact kv_zip t (.cons ⟨rfl, r⟩ h)
theorem repF_zip {w : Wd} {G : Hp} : ∀ {ps : List Str} {vs : List V} {ds : List D} {l : List (Str × V)} {m : List (Str × D)}, Reps w G vs ds → RepF w G l m → RepF w G ((ps.zip vs).reverse ++ l) ((ps.zip ds).reverse ++ m)
  | [], _, _, _, _, _, h => by simpa using h
  | _ :: _, _, _, _, _, .nil, h => by simpa using h
  | p :: ps, _, _, l, m, .cons r t, h => by
    rw [List.zip_cons_cons, List.zip_cons_cons, List.reverse_cons, List.reverse_cons, List.append_assoc, List.append_assoc]
    exact repF_zip t (.cons r h)
theorem kv_look : ∀ {l : List (Str × V)} {m : List (Str × Value)}, KV l m → ∀ f, RelO (l.lookup f) (m.lookup f)
  | _, _, .nil, f => True.intro
  | _, _, .cons (a := (x, v)) (b := (y, u)) ⟨e, r⟩ t, f => by
    have e : x = y := e
    subst e
    rw [List.lookup_cons, List.lookup_cons]
    cases f == x with
    | true => exact r
    | false => exact kv_look t f
theorem xfs_names {α : Type} (c : α) : ∀ (ps : List Str) (vs : List α), ps.length = vs.length → ∀ n, n ∈ (xfs c ps vs).map (·.1) → n ∈ ("code" : Str) :: ps := fun ps vs h n hn => by
  unfold xfs at hn
  rw [List.map_append, List.mem_append, List.map_reverse, List.mem_reverse] at hn
  rcases hn with hn | hn
  · obtain ⟨p, hp, rfl⟩ := List.mem_map.mp hn
    exact List.mem_cons_of_mem _ (List.of_mem_zip hp).1
  · simp at hn
    rw [hn]
    exact List.mem_cons_self
/-! ### C(..), made to be raised -/
def tMkX (c : Str) (C : Addr) (ps : List Str) (ta : TA) : L2.St → Hp → XK → Prop := fun σ H Q => ta σ H fun vs H1 => vs.length = ps.length ∧ ∀ d, H1 d = none → Q (.ref C) (some d) (upd H1 d (.xd (xfs (.str c) ps vs)))
section
variable {X : Cx} {b : Bk} {c : Str} {C fI : Addr} {fd : FuncData} {ps : List Str} {k : Nat} {p pos : Pos} {e : Expr} {es : List Expr} {ta : TA}
theorem mk_run {pins : List (Addr × Obj)} {σ : L2.St} {H1 : Hp} {Q : XK} {s1 : Shared} {us : List Value} {vs : List V} (T : XDef X.K X.prog b c C fI fd ps) (hr : Room (k + 1) X.A) (hz : ps.length ≤ 800) (I1 : Inv X pins σ H1 s1) (r1 : Vals vs us) (hl : vs.length = ps.length)
    (q1 : ∀ d, H1 d = none → Q (.ref C) (some d) (upd H1 d (.xd (xfs (.str c) ps vs)))) : wpAny (model X.prog X.w) X.A (call (.ref C) us) (MkP X pins σ Q) X.xe s1 := by
  obtain ⟨nm, q, N, bs, bm, sn, sub, ab, col, dd, k0, k1, k2, k3, k5, hC, hbm⟩ := T.cls
  obtain ⟨mb, hb, hbb⟩ := I1.mod.blt
  have KI := I1.kIn
  have g0 := I1.mod.glob.keeps I1.bk
  have b0 := hb.keeps I1.bk
  have n0 := I1.nolimit
  have bare := I1.bare
  obtain ⟨hp, g, dr, tk, os⟩ := s1
  have kk : ∀ b o, hp.get? b = some o → ((hp.push (PySem.W.kdv_tup us)).push (PySem.HandSPX.excO C hp.objs.size)).get? b = some o := fun b o e => Heap.get?_push_of_some _ (Heap.get?_push_of_some _ e)
  have hget : ((hp.push (PySem.W.kdv_tup us)).push (PySem.HandSPX.excO C hp.objs.size)).get? (hp.objs.size + 1) = some (PySem.HandSPX.excO C hp.objs.size) := by heap_get
  have lt : ∀ b o, hp.get? b = some o → b ≠ hp.objs.size + 1 := fun b o z => Nat.ne_of_lt (Nat.lt_succ_of_lt (Heap.lt_size z))
  have hsl : us.length = ps.length := by rw [← hl, r1.length]
  refine wpAny_call (PySem.HandSPX.call_own T.bk.F (fun Y => refsT_contains Y bm hbm) (KI _ _ hC) (PySem.W.looks_findIn KI T.iC) (fun self => PySem.W.bind_fn KI self T.tI) (by rw [hsl, sizeLine_eq]; omega) ?_)
  refine init_run (t0 := hp.objs.size) T (KI.keeps kk) (g0.keeps kk) (b0.keeps kk) hbb (n0.keeps kk) hget (fun a o z => lt a o (KI a o z)) (Nat.ne_of_lt (Nat.lt_succ_of_lt g0.lt)) (Nat.ne_of_lt (Nat.lt_succ_of_lt b0.lt)) hsl hz (hr.make C us []).depth fun h' t' dx tc t1 k' ndx e' n' => ?_
  have nd : hp.get? dx = none := by
    cases z : hp.get? dx with
    | none => rfl
    | some o => rw [kk _ _ z] at ndx; cases ndx
  have dxe : dx ≠ hp.objs.size + 1 := fun z => by rw [z, hget] at ndx; cases ndx
  have k2 : ∀ b o, hp.get? b = some o → h'.get? b = some o := fun b o z => k' b o (lt b o z) (kk b o z)
  obtain ⟨G, g1, g2⟩ := restrict h' fun b => (hp.get? b).isSome || decide (b = dx)
  have gd : ∀ o, h'.get? dx = some o → G.get? dx = some o := fun o z => by rw [g1 dx (by simp)]; exact z
  have gk : ∀ b o, hp.get? b = some o → G.get? b = some o := fun b o z => by rw [g1 b (by simp [z])]; exact k2 b o z
  have ga : G.get? (hp.objs.size + 1) = none := g2 _ (by
    have : hp.get? (hp.objs.size + 1) = none := by
      cases z : hp.get? (hp.objs.size + 1) with
      | none => rfl
      | some o => exact absurd rfl (lt _ _ z)
    rw [this]
    simpa using fun z => dxe z.symm)
  have gs : ∀ b o, G.get? b = some o → h'.get? b = some o := fun b o z => by
    cases q : ((hp.get? b).isSome || decide (b = dx)) with
    | false => rw [g2 b q] at z; cases z
    | true => rw [← g1 b q]; exact z
  have hn : H1 dx = none := I1.hok.gone nd
  have nG : G.Ns1 dx (fun y => ((ps.zip us).reverse ++ [(("code" : Str), Value.str c tc)]).lookup y) := n'.at gd
  have J : Inv X pins σ (upd H1 dx (.xd (xfs (.str c) ps vs))) ⟨G, g, dr, t', os⟩ := I1.laidN (t' := t') gk nd hn ⟨_, nG, kv_look (kv_zip r1 (.cons ⟨rfl, ⟨_, rfl⟩⟩ .nil))⟩
  have na : H1 (hp.objs.size + 1) = none := I1.hok.fresh (Nat.le_succ _)
  exact ⟨rfl, hp.objs.size + 1, _, _, ⟨G, g, dr, t', os⟩, _, .ref C, some dx, rfl, J, gs, ga, e', ⟨rfl, rfl⟩, rfl, rfl, by rw [upd_ne dxe.symm]; exact na, rfl, bare, raises_own T.exC T.tyC, q1 dx hn⟩
theorem pmk_x (T : XDef X.K X.prog b c C fI fd ps) (hr : Room (k + 1) X.A) (hz : ps.length ≤ 800) (hg : Gl X c) (hm : X.mg c = some (.ref C)) (ha : PA X (e :: es) ta)
    (hdb : (c == ("__debug__" : Str)) = false := by decide) (he : starEach (e :: es) X.env = (false, eval e X.env) :: starEach es X.env := by rfl) (hpl : (backTo pos (starEach es X.env)).any (·.1) = false := by rfl) :
    PMk X (.Call (.Name c p) (e :: es) [] pos) (tMkX c C ps ta) := by
  intro pins s σ H Q I h
  refine wpAny_Call_Name_kw (ld_glob I hg hm ?_ hdb)
  exact PySem.W.callWith_K (h₀ := X.base) I.ok.mod.kin T.kC (thn (ha.run pos pins s σ H _ I h) fun us s1 ⟨vs, H1, I1, r1, hl, q1⟩ => ⟨I1.kIn, mk_run T hr hz I1 r1 hl q1⟩) he hpl
theorem pmk_x0 (T : XDef X.K X.prog b c C fI fd []) (hr : Room (k + 1) X.A) (hg : Gl X c) (hm : X.mg c = some (.ref C)) (hdb : (c == ("__debug__" : Str)) = false := by decide) :
    PMk X (.Call (.Name c p) [] [] pos) (tMkX c C [] tNil) := by
  intro pins s σ H Q I h
  refine wpAny_Call_Name_kw (ld_glob I hg hm ?_ hdb)
  exact PySem.W.callWith_K0 I.kIn T.kC (mk_run T hr (by simp) I .nil rfl h.2)
end
/-! ### raise C(..) -/
def dataX (c : Str) (ps : List Str) (ds : List D) : DX := ⟨c, xfs (.str c) ps ds⟩
def wsRaise (c : Str) (ps : List Str) (u : WA) : WS := fun env K => u env (fun ds e => ds.length = ps.length ∧ K.ex (dataX c ps ds) e) K.ex
section
variable {X : Cx} {W : WX} {b : Bk} {c : Str} {C fI : Addr} {fd : FuncData} {ps : List Str} {k : Nat} {p pos pos2 : Pos} {e : Expr} {es : List Expr} {u : WA}
theorem raise_run {F : Fc} {env : En} {σ : L2.St} {G H : Hp} {vs : List V} {ds : List D} {R : QX} (hx : XOk X F) (T : XDef X.K X.prog b c C fI fd ps) (xc : XC X.K C (("code" : Str) :: ps)) (hm : X.mg c = some (.ref C)) (hs : SI F env σ G H) (r : Reps F.wd G vs ds) (hl : ds.length = ps.length)
    (hR : R (dataX c ps ds) env) (hk : XK' F W σ R) : vs.length = ps.length ∧ ∀ d, H d = none → W (.ref C) (some d) σ (upd H d (.xd (xfs (.str c) ps vs))) := by
  have hv : vs.length = ps.length := by rw [r.length, hl]
  refine ⟨hv, fun d hn => ?_⟩
  have po := Post.new1 (o := .xd (xfs (.str c) ps vs)) hs.pre hn
  refine hk (dataX c ps ds) env (.ref C) (some d) _ _ hR (hs.step po) ⟨C, d, xfs (.str c) ps vs, rfl, by rw [hx.m]; exact hm, rfl, ?_, upd_same, repF_zip (r.mono po.ex) (.cons .str .nil)⟩
  rw [hx.k]
  exact ⟨xc.f, xc.e, fun n hn => xc.na n (xfs_names _ _ _ hv.symm n hn)⟩
theorem ps_raiseX (T : XDef X.K X.prog b c C fI fd ps) (xc : XC X.K C (("code" : Str) :: ps)) (hc : X.calm = true) (tk : Takes X W) (hr : Room (k + 1) X.A) (hz : ps.length ≤ 800) (hg : Gl X c) (hm : X.mg c = some (.ref C)) (ha : PXA X W (e :: es) u)
    (hdb : (c == ("__debug__" : Str)) = false := by decide) (he : starEach (e :: es) X.env = (false, eval e X.env) :: starEach es X.env := by rfl) (hpl : (backTo pos (starEach es X.env)).any (·.1) = false := by rfl) :
    PXS X W (.Raise (some (.Call (.Name c p) (e :: es) [] pos)) none pos2) (wsRaise c ps u) := by
  obtain ⟨t, a1, a2⟩ := ha.ex
  exact ⟨⟨_, ps_raise hc tk (pmk_x T hr hz hg hm a1 hdb he hpl), fun F env σ G H P Q hx hs hw hq => a2 F env σ G H _ _ _ hx hs hw (fun ds e1 vs G1 H1 p1 s1 x1 r1 => raise_run hx T xc hm s1 r1 p1.1 p1.2 (hq.ex σ)) (hq.ex σ)⟩⟩
theorem ps_raiseX0 (T : XDef X.K X.prog b c C fI fd []) (xc : XC X.K C [("code" : Str)]) (hc : X.calm = true) (tk : Takes X W) (hr : Room (k + 1) X.A) (hg : Gl X c) (hm : X.mg c = some (.ref C)) (hdb : (c == ("__debug__" : Str)) = false := by decide) :
    PXS X W (.Raise (some (.Call (.Name c p) [] [] pos)) none pos2) (wsRaise c [] wNil) :=
  ⟨⟨_, ps_raise hc tk (pmk_x0 T hr hg hm hdb), fun F env σ G H P Q hx hs hw hq => raise_run hx T xc hm hs .nil hw.1 hw.2 (hq.ex σ)⟩⟩
end
/-! ### the caught exception, tracked -/
section
variable {X : Cx} {pins : List (Addr × Obj)} {σ : L2.St} {H : Hp} {s : Shared} {a : Addr} {o : Obj}
theorem Inv.track (I : Inv X pins σ H s) (ha : s.heap.get? a = some o) (hn : H a = none) (nL : a ≠ X.env.locals) (nC : ∀ v, o.data ≠ .cell v) (n0 : X.s_0.heap.get? a = none) (np : ∀ p ∈ X.pn ++ pins, p.1 ≠ a) :
    Inv X pins σ (upd H a (.frz o (xO a o))) s := by
  have sm : ∀ b u, H b = some u → upd H a (.frz o (xO a o)) b = some u := fun b u q => by rw [upd_ne (ne_of_none q hn)]; exact q
  have n0' : ∀ b u, X.s_0.heap.get? b = some u → b ≠ a := fun b u q z => by rw [z, n0] at q; cases q
  refine ⟨I.ok, I.os, I.bare, ⟨fun b u e n h1 h2 => I.base.keep b u e n h1 h2, fun b u e n h1 => I.base.slot b u e n h1, fun b u e n h1 => ?_, I.base.there, fun b xs e => sm _ _ (I.base.tups b xs e), fun b u v e => sm _ _ (I.base.frzs b u v e), fun b ps e => ?_⟩, I.loc, I.cell, ?_, fun x c e => ?_, fun p hp => ?_, fun b u e => ?_, I.len⟩
  · rw [upd_ne (n0' b u e)]
    exact I.base.free b u e n h1
  · obtain ⟨more, z⟩ := I.base.tbls b ps e
    exact ⟨more, sm _ _ z⟩
  · rw [upd_ne nL.symm]
    exact I.free
  · obtain ⟨v, oc, e1, e2⟩ := I.cell x c e
    rw [upd_ne (fun z => by rw [z, ha] at e1; cases e1; exact nC _ e2)]
    exact I.freeC x c e
  · obtain ⟨e1, e2, e3⟩ := I.pin p hp
    exact ⟨e1, by rw [upd_ne (np p hp)]; exact e2, e3⟩
  · by_cases hb : b = a
    · subst hb
      rw [upd_same] at e
      cases e
      exact ⟨ha, ha, ⟨o, ha⟩, fun h1 h2 x k => k _ x⟩
    · rw [upd_ne hb] at e
      exact (I.hok b u e).stay (fun _ _ _ q => q) (fun c q => sm _ _ q) fun c xs q => sm _ _ q
theorem Inv.suite0 (I : Inv X pins σ H s) : Inv (X.suite a (X.pn ++ pins)) [] σ H s :=
  ⟨I.ok.suite _ _, I.os, I.bare, I.base, I.loc, I.cell, I.free, I.freeC, fun p hp => I.pin p (by rw [List.append_nil] at hp; exact hp), I.hok, I.len⟩
theorem Inv.unsuite0 {pn' : List (Addr × Obj)} (I : Inv (X.suite a (X.pn ++ pins)) pn' σ H s) (ok : X.Ok) : Inv X pins σ H s :=
  ⟨ok, I.os, I.bare, I.base, I.loc, I.cell, I.free, I.freeC, fun p hp => I.pin p (List.mem_append_left _ hp), I.hok, I.len⟩
theorem flying_push {B h : Heap} {l : List Env} {Z : Obj → Prop} {u : Obj} (x : PySem.HandSPX.FlyingZ B l a Z h) : PySem.HandSPX.FlyingZ B l a Z (h.push u) := by
  have k : ∀ b o, h.get? b = some o → (h.push u).get? b = some o := fun b o q => Heap.get?_push_of_some _ q
  obtain ⟨h1, h2, h3, oe, vs, T, oT, ts, a1, a2, a3, a4, a5, a6, a7, a8⟩ := x
  exact ⟨fun b o q => k b o (h1 b o q), h2, Heap.FunFrames.of_keeps (fun b o q _ => ⟨o, k b o q, rfl⟩) h3, oe, vs, T, oT, ts, k _ _ a1, a2, a3, a4, a5, a6, k _ _ a7, a8⟩
end
/-- what 'except (.., ..) as n' wishes of an exception of the body -/
def wAsT (K : PySem.W.Frag) (cs : List Value) (i : Nat) (ts : Addr → TS) (Wout : WX) (D : Ends) : WX := fun cls d σ H =>
  ∃ b, PySem.W.exmAny K cls cs = some b ∧ (b = true → ∀ a oe, H a = none → Zc cls d oe → (∃ vs, oe.data = .fields vs) →
    ts a { nx := fun σ' H' => D.nx (σ'.set i none) H', rt := D.rt, bk := fun σ' H' => D.bk (σ'.set i none) H', ct := fun σ' H' => D.ct (σ'.set i none) H' } (σ.set i (some (.ref a))) (upd H a (.frz oe (xO a oe)))) ∧
    (b = false → Wout cls d σ H)
section
variable {X : Cx} {x1 x2 x3 n : Str} {c1 c2 c3 : Value} {i kk : Nat} {body suite : List Stmt} {b₀ : Stmt} {q1 q2 q3 tp pos pos' : Pos} {tb : WX → TS} {ts : Addr → TS} {Wout : WX}
theorem ps_try_tup (hex : X.ex = []) (hs : X.stack = X.env :: X.outer) (hf : X.env.frame = some X.env.locals) (hN : X.N.Nodup) (hi : X.N[i]? = some n) (hln : X.env.kindOf n = some .local) (hc1 : Names X x1 c1) (hc2 : Names X x2 c2) (hc3 : Names X x3 c3) (tk : Takes X Wout)
    (hb : ∀ (W : WX) (pn : List (Addr × Obj)) (xe : Value → Shared → Prop), Takes (X.tr pn xe) W → PassesOwn (model X.prog X.w) X.A X.env xe → PSs (X.tr pn xe) body (tb W))
    (hsu : ∀ (a : Addr) (pn : List (Addr × Obj)), PSs (X.suite a pn) (b₀ :: suite) (ts a)) :
    PS X (.Try body [.ExceptHandler (some (.Tuple [.Name x1 q1, .Name x2 q2, .Name x3 q3] kk tp)) (some n) (b₀ :: suite) pos'] [] [] pos) (fun D σ H => tb (wAsT X.K [c1, c2, c3] i ts Wout D) D σ H) := by
  refine ⟨fun pins s σ H D I h => ?_⟩
  have ok := I.ok
  have hfr : X.A.frames = some (X.env :: X.outer) := by rw [ok.frames, hs]
  have hloc : Loc X.env.scope n := .inl hln
  refine wpAny_Try_except ?_
  refine wpAny_mono ((hb (wAsT X.K [c1, c2, c3] i ts Wout D) (X.pn ++ pins) (fun e s₁ => wpAny (model X.prog X.w) X.A (noteFrame e X.env) (fun _ s₂ => wpAny (model X.prog X.w) X.A (setFlight e none) (fun _ s₃ =>
    wpAny (model X.prog X.w) X.A (handleBy e X.env [.ExceptHandler (some (.Tuple [.Name x1 q1, .Name x2 q2, .Name x3 q3] kk tp)) (some n) (b₀ :: suite) pos']) (SP X pins D) X.xe s₃) X.xe s₂) X.xe s₁) (fun u s' xx => ?_) PassesOwn.looking).run [] s σ H D (I.toTry _) h) (fun f s1 hsp => ?_) (fun e s1 he => he)
  · -- the catch
    obtain ⟨a, B, sI, pins', σ', H', cls, d, rfl, J', nb, up, sky, na, os, ag, b, hb1, hyes, hno⟩ := xx
    have J : Inv X pins σ' H' sI := J'.ofTry ok
    have sky' : Sky B (X.env :: X.outer) a (Zc cls d) X.env.locals s'.heap := by rw [← hs]; exact sky
    show wpAny (model X.prog X.w) X.A (noteFrame (.ref a) X.env) _ _ _
    refine Sky.land Zc.steady hfr hf sky' fun h3 fl3 up3 => ?_
    have J3 : Inv X pins σ' H' { s' with heap := h3 } := J.landed nb fl3.1 (up.trans up3) os ag
    obtain ⟨oe3, vs3, he3, hz3, hd3⟩ := fl3.there
    have notFr : ∀ {h : Heap} {o : Obj} {vs : Array Value}, h.FunFrames B (X.env :: X.outer) → h.get? a = some o → o.data = .fields vs → a ∉ frs (X.env :: X.outer) := fun {h o vs} ff e dd hm => by
      obtain ⟨_, o', e', hnf⟩ := ff.mem hm
      rw [e] at e'; cases e'
      exact hnf _ dd
    have nfr := notFr fl3.2.2.1 he3 hd3
    have nL : a ≠ X.env.locals := fun z => nfr (List.mem_filterMap.mpr ⟨X.env, List.mem_cons_self, by rw [hf, z]⟩)
    have nF : a ∉ X.fs := fun hm => by
      obtain ⟨e, he, q⟩ := List.mem_filterMap.mp hm
      exact nfr (List.mem_filterMap.mpr ⟨e, List.mem_cons_of_mem _ he, q⟩)
    have nI : sI.heap.get? a = none := by
      cases z : sI.heap.get? a with
      | none => rfl
      | some o =>
        have := nb a o z (by rw [hs]; exact nfr)
        rw [fl3.2.1] at this
        cases this
    have n0 : X.s_0.heap.get? a = none := by
      cases z : X.s_0.heap.get? a with
      | none => rfl
      | some o =>
        obtain ⟨o', z'⟩ := J.base.there a o z (by rw [hex]; exact fun z => nomatch z)
        rw [nI] at z'
        cases z'
    have np : ∀ p ∈ X.pn ++ pins, p.1 ≠ a := fun p hp z => by
      have q := (J.pin p hp).1
      rw [z, nI] at q
      cases q
    have S3 := J3.suite he3 hd3 na nL nF
    refine wpAny_handleBy_cons (codeAny_handlers_test ?_) (by intro q; cases q)
    have test : ∀ {x : Str} {c : Value} {q : Pos} {t : Nat} {Q : Value → Shared → Prop} {E : Value → Shared → Prop}, Names X x c → Q c { s' with heap := h3, toks := t } → wpAny (model X.prog X.w) (X.A.mark (some (.ref a))) (eval (.Name x q) X.env) Q E { s' with heap := h3, toks := t } := fun {x c q t Q E} hc z => by
      obtain ⟨hg, hdbg, hm | ⟨hm, hv, hnn⟩⟩ := hc
      · exact ld_glob (X := X.suite a ((a, oe3) :: (X.pn ++ pins))) (S3.tok t) hg hm z hdbg
      · exact ld_blt (X := X.suite a ((a, oe3) :: (X.pn ++ pins))) (S3.tok t) hg hm hv z hnn hdbg
    refine wpAny_Tuple ?_
    refine wpAny_items_cons (test hc1 ?_)
    refine wpAny_items_cons (test hc2 ?_)
    refine wpAny_items_cons (test hc3 ?_)
    refine wpAny_items_nil ⟨by size_fits, ?_⟩
    have kp : ∀ q o, h3.get? q = some o → (h3.push { cls := .type "tuple", data := .seq [c1, c2, c3].toArray }).get? q = some o := fun _ _ z => Heap.get?_push_of_some _ z
    have LT : PySem.W.Looks (model X.prog X.w) (h3.push { cls := .type "tuple", data := .seq [c1, c2, c3].toArray }) (typeOf (.ref a)) cls := fun A Q E s k q => wpAny_typeOf_ref (k _ _ (kp _ _ he3)) (by rw [hz3.1]; exact q)
    refine (PySem.W.exm_tup3 (J3.kIn.keeps kp) LT (Heap.get?_push_size h3 rfl) hb1).here ?_
    have fl3' := flying_push (u := { cls := .type "tuple", data := .seq [c1, c2, c3].toArray }) fl3
    have up3' : s'.heap.UpToSlots (h3.push { cls := .type "tuple", data := .seq [c1, c2, c3].toArray }) := up3.trans (Heap.UpToSlots.of_keeps kp)
    cases b with
    | true =>
      refine codeAny_handlers_suite_as ?_
      refine HandSPX.lands_againZ fl3' fun h4 fl4 up4 => ?_
      have J4 : Inv X pins σ' H' { s' with heap := h4 } := J.landed nb fl4.1 ((up.trans up3').trans up4) os ag
      obtain ⟨oe4, vs4, he4, hz4, hd4⟩ := fl4.there
      have S4 := Inv.suite0 (a := a) (Inv.track J4 he4 na nL (fun v z => by rw [hd4] at z; cases z) n0 np)
      refine store_ok (X := X.suite a (X.pn ++ pins)) (v := .ref a) S4 hN hi hloc rfl (fun s5 S5 => ?_) (.inr hln)
      refine wpAny_mono ((hsu a (X.pn ++ pins)).run [] s5 _ _ _ S5 (hyes rfl a oe4 na hz4 ⟨_, hd4⟩)) (fun f s6 hsp => ?_) (fun _ _ z => False.elim z)
      have end_ : ∀ {σ6 : L2.St} {H6 : Hp} {Q : Shared → Prop}, Inv (X.suite a (X.pn ++ pins)) [] σ6 H6 s6 → (∀ s7, Inv X pins (σ6.set i none) H6 s7 → Q s7) →
          wpAny (model X.prog X.w) X.A (do bindName X.env n .none; unbindBehindTheSuite X.env n pos') (fun _ s7 => Q s7) X.xe s6 := fun {σ6 H6 Q} S6 hq => gone_ok (Inv.unsuite0 S6 ok) hN hi hln hq
      cases f with
      | next =>
        obtain ⟨σ6, H6, S6, q6⟩ := hsp
        exact end_ S6 fun s7 J7 => ⟨_, _, J7, q6⟩
      | brk =>
        obtain ⟨σ6, H6, S6, q6⟩ := hsp
        exact end_ S6 fun s7 J7 => ⟨_, _, J7, q6⟩
      | cont =>
        obtain ⟨σ6, H6, S6, q6⟩ := hsp
        exact end_ S6 fun s7 J7 => ⟨_, _, J7, q6⟩
      | ret u =>
        obtain ⟨v6, σ6, H6, S6, r6, q6⟩ := hsp
        exact end_ S6 fun s7 J7 => ⟨_, _, _, J7, r6, q6⟩
    | false =>
      show wpAny _ X.A (handleBy (.ref a) X.env []) _ _ _
      refine wpAny_handleBy_nil ?_
      obtain ⟨k1, k2, k3, oe, vs, T, oT, ts', he, hz, hd, h1, hr⟩ := id fl3'
      unfold PySem.passOn
      refine wpAny_bind (wpAny_field he hd h1 ?_)
      rw [if_neg (show ¬ ((Value.ref T == Value.none) = true) from by simp)]
      have fin : wpAny (model X.prog X.w) X.A (setFlight (.ref a) X.env.frame) (fun _ s4 => wpAny (model X.prog X.w) X.A (throw (.ref a) : Sem Flow) (SP X pins D) X.xe s4) X.xe { s' with heap := h3.push { cls := .type "tuple", data := .seq [c1, c2, c3].toArray } } := by
        rw [hf]
        refine HandSPX.setFlight_upZ fl3' fun h4 hh4 up4 => wpAny_throw (tk _ _ ?_)
        exact ⟨a, B, sI, pins, σ', H', cls, d, rfl, J, nb, (up.trans up3').trans up4, .inr (.inr (by rw [hs]; exact hh4)), na, os, ag, hno rfl⟩
      first
        | exact wpAny_bind (wpAny_pure (wpAny_bind fin))
        | exact wpAny_bind fin
  · cases f with
    | next =>
      obtain ⟨σ', H', J', q⟩ := hsp
      exact wpAny_execs_nil ⟨σ', H', J'.ofTry ok, q⟩
    | brk =>
      obtain ⟨σ', H', J', q⟩ := hsp
      exact ⟨σ', H', J'.ofTry ok, q⟩
    | cont =>
      obtain ⟨σ', H', J', q⟩ := hsp
      exact ⟨σ', H', J'.ofTry ok, q⟩
    | ret u =>
      obtain ⟨v, σ', H', J', r, q⟩ := hsp
      exact ⟨v, σ', H', J'.ofTry ok, r, q⟩
end
end Pu
set_option maxRecDepth 100000
set_option maxHeartbeats 2000000
/-! try, except (..) as e; e.f; defs called within a suite -/
namespace Pu
open PySem L2 PySem.Spec PyProof.Rows PuExc
/-! ### try -/
def tB (C : Fc → Prop) (W : WX) (wb : WS) : TS := fun D σ H => ∃ (F : Fc) (env : En) (G : Hp) (Kn : EnD), C F ∧ SI F env σ G H ∧ wb env Kn ∧ EnOk F W G Kn D
theorem PXB.can {X : Cx} {W : WX} {l : List Stmt} {wb : WS} (h : PXB X W l wb) : PSs X l (tB (XOk X) W wb) := by
  obtain ⟨t, h1, h2⟩ := h.ex
  refine ⟨fun pins s σ H D I hq => ?_⟩
  obtain ⟨F, env, G, Kn, hx, hs, hw, hk⟩ := hq
  exact h1.run pins s σ H D I (h2 F env σ G H Kn D hx hs hw hk)
/-- the suite returns -/
def wsTry (cau : List (Str × Bool)) (i : Nat) (wb ws : WS) : WS := fun env K => wb env { K with ex := fun x e => match cau.lookup x.c with
  | some true => ws (e.set i (.v (.exc x.c x.fs))) { nx := fun _ => False, rt := K.rt, ex := fun _ _ => False }
  | some false => K.ex x e
  | none => False }
section
variable {X : Cx} {W : WX} {x1 x2 x3 n : Str} {c1 c2 c3 : Value} {i kk : Nat} {body suite : List Stmt} {b₀ : Stmt} {q1 q2 q3 tp pos pos' : Pos} {wb ws : WS} {cau : List (Str × Bool)}
theorem ps_tryX (hex : X.ex = []) (hs : X.stack = X.env :: X.outer) (hf : X.env.frame = some X.env.locals) (hN : X.N.Nodup) (hi : X.N[i]? = some n) (hln : X.env.kindOf n = some .local) (hc1 : Names X x1 c1) (hc2 : Names X x2 c2) (hc3 : Names X x3 c3) (tk : Takes X W)
    (hcau : ∀ (c : Str) (C : Addr) (b : Bool), X.mg c = some (.ref C) → cau.lookup c = some b → PySem.W.exmAny X.K (.ref C) [c1, c2, c3] = some b)
    (hb : ∀ (W' : WX) (pn : List (Addr × Obj)) (xe : Value → Shared → Prop), Takes (X.tr pn xe) W' → PXB (X.tr pn xe) W' body wb) (hsu : ∀ (a : Addr) (pn : List (Addr × Obj)), PXB (X.suite a pn) W0 (b₀ :: suite) ws) :
    PXS X W (.Try body [.ExceptHandler (some (.Tuple [.Name x1 q1, .Name x2 q2, .Name x3 q3] kk tp)) (some n) (b₀ :: suite) pos'] [] [] pos) (wsTry cau i wb ws) := by
  refine ⟨⟨_, ps_try_tup hex hs hf hN hi hln hc1 hc2 hc3 tk (tb := fun W => tB (XOk X) W wb) (fun W' pn xe t _ => (hb W' pn xe t).can) (ts := fun _ => tB (XOk X) W0 ws) (fun a pn => (hsu a pn).can), fun F env σ G H P Q hx hs' hw hq => ?_⟩⟩
  refine ⟨F, env, G, _, hx, hs', hw, ⟨hq.nx, hq.rt, hq.bk, hq.ct, fun σ' x e1 cls d G1 H1 p s1 rx => ?_⟩⟩
  obtain ⟨C, dd, fv, rfl, hm, rfl, xc, hd, rf⟩ := rx.ex
  have hm' : X.mg x.c = some (.ref C) := by rw [← hx.m]; exact hm
  cases e : cau.lookup x.c with
  | none =>
    dsimp only at p
    rw [e] at p
    exact p.elim
  | some b =>
    dsimp only at p
    rw [e] at p
    refine ⟨b, hcau x.c C b hm' e, fun hb a oe na hz hf => ?_, fun hb => ?_⟩
    · subst hb
      have po := Post.new1 (o := .frz oe (xO a oe)) s1.pre na
      refine ⟨F, e1.set i (.v (.exc x.c x.fs)), upd G1 a (.frz oe (xO a oe)), _, hx, (s1.step po).set (.exc hm xc upd_same hz hf (po.ex _ _ hd) (rf.mono po.ex)), p, ⟨fun _ _ _ _ z => z.elim, fun d v env' σ2 G2 H2 p s2 r => hq.rt d v env' σ2 G2 H2 p s2 r, fun _ _ _ _ z => z.elim, fun _ _ _ _ z => z.elim, fun _ _ _ _ _ _ _ z => z.elim⟩⟩
    · subst hb
      exact hq.ex σ' x e1 _ _ G1 H1 p s1 rx
end
/-! ### e.f -/
def wAttr (f : Str) (w : WE) : WE := fun env P R => w env (fun d e => match d with
  | .exc _ fs => ∃ v, fs.lookup f = some v ∧ P v e
  | _ => False) R
section
variable {X : Cx} {W : WX} {e : Expr} {w : WE} {f : Str} {pos : Pos}
theorem look_name {fs : List (Str × V)} {f : Str} {v : V} (h : fs.lookup f = some v) : f ∈ fs.map (·.1) := List.mem_map.mpr ⟨_, PySem.mem_of_lookup h, rfl⟩
theorem px_attr (he : PX X W e w) (hb : attributeBase e f X.env (eval e X.env) = eval e X.env := by rfl) : PX X W (.Attribute e f pos) (wAttr f w) := by
  obtain ⟨t, a1, a2⟩ := he.ex
  refine ⟨⟨fun σ H Q => t σ H fun x H1 => ∃ a C oe d fv v, x = .ref a ∧ H1 a = some (.frz oe (xO a oe)) ∧ Zc (.ref C) (some d) oe ∧ (∃ vs, oe.data = .fields vs) ∧ XfC X.K C ∧ PySem.W.findIn X.K (.ref C) f = some none ∧ H1 d = some (.xd fv) ∧ fv.lookup f = some v ∧ Q v H1,
    ⟨fun pins s σ H Q I h => ?_⟩, fun Fc' env σ G H P R Q hx hs hw hq hk => a2 Fc' env σ G H _ R _ hx hs hw (fun d e1 vx G1 H1 p s1 x1 r1 => ?_) hk⟩⟩
  · refine attr_of hb (thn (a1.run pins s σ H _ I h) fun u s1 hh => ?_)
    obtain ⟨x, H1, I1, rx, a, C, oe, d, fv, v, rfl, ea, hz, hf, T, hno, ed, l, q⟩ := hh
    obtain rfl : u = Value.ref a := rx
    obtain ⟨ha, _⟩ := I1.hok a _ ea
    obtain ⟨vs, hd⟩ := hf
    have hx : ObjOk X.prog X.w H1 s1.heap d (.xd fv) := I1.hok d _ ed
    obtain ⟨mA, hns, hr⟩ := hx
    obtain ⟨od, ho, hl⟩ := lookIn_ns hns
    obtain ⟨u, hu, ru⟩ := RelO.some_of (v := v) (o := mA f) (by rw [← l]; exact hr f)
    have J : PySem.W.InstAt s1.heap a oe C (some od) := ⟨ha, hz.1, by unfold PySem.W.notCls; rw [hd] <;> rfl, by rw [hz.2]; exact ho⟩
    exact HandSPX.exc_get I1.kIn J T.ga T.gg T.exC (PySem.W.findObj_own T.hdC hno rfl (by rw [hl, hu])) (handed_of ru) ⟨v, H1, I1.tok _, ru, q⟩
  · cases d <;> first | exact p.elim | skip
    obtain ⟨v, hv, p⟩ := p
    cases r1 with
    | exc hm xc ga hz hf gd rf =>
      obtain ⟨vv, h1, h2⟩ := rf.get hv
      rw [hx.k] at xc
      exact ⟨_, _, _, _, _, _, rfl, s1.exG _ _ ga, hz, hf, xc.f, xc.na f (look_name h1), s1.exG _ _ gd, h1, hq v e1 vv G1 H1 p s1 x1 h2⟩
end
/-! ### defs called within a suite, that raise nothing -/
structure FnC (P : Program) (w : World) (K : PySem.W.Frag) (mg : Str → Option Value) (base : Heap) (k : Nat) (f : Addr) (fd : FuncData) (ps : List Str) (sp : Sp) : Prop where
  len : ∀ vs H Q E, sp vs H Q E → vs.length = ps.length
  run : ∀ (A : Around) (outer : List Env) (s : Shared) (H : Hp) (args : Args) (us : List Value) (vs : List V) (Q : VK), L2H.RoomH k A → Env0 P w K mg base A outer s H → BindsTo s fd args (ps.zip us) → Vals vs us → sp vs H Q C8.E0 →
    codeAny (model P w) A (.call (.ref f) args) (CR C8.CX0 outer P w H s Q C8.E0) s
abbrev cxC (P : Program) (w : World) (K : PySem.W.Frag) (mg : Str → Option Value) (base : Heap) (N : List Str) (qual : Str) (scope : Scope) (f : Addr) (cd : Value) (A : Around) (outer : List Env) (s : Shared) (H : Hp) : Cx :=
  { cxOf C8.CX0 P w K mg base N qual scope f cd A outer s H C8.E0 with calm := false }
section
variable {P : Program} {w : World} {K : PySem.W.Frag} {mg : Str → Option Value} {base : Heap}
theorem inv_startC {N ps : List Str} {qual : Str} {scope : Scope} {f : Addr} {cd : Value} {A : Around} {outer : List Env} {s s1 : Shared} {H : Hp} {us : List Value} {vs : List V}
    (S : FnScope N ps scope) (e0 : Env0 P w K mg base A outer s H) (hl : vs.length = ps.length) (r : Vals vs us)
    (x : InCallC s s.heap.objs.size (bindL (envOfC qual scope s.heap.objs.size f cd).kindOf (ps.zip us) fun _ => none) (cellsFrom (s.heap.objs.size + 1) scope.names []) (bindC (envOfC qual scope s.heap.objs.size f cd).kindOf (ps.zip us) fun _ => none) s1) :
    Inv (cxC P w K mg base N qual scope f cd A outer s H) [] (L2.start N vs) H s1 := by
  have hpl : ps.length ≤ N.length := by have := congrArg List.length S.pre; rw [List.length_take] at this; omega
  obtain ⟨h1, tk, rfl, hk⟩ := x.done
  have noA : ∀ b : Addr, b ∉ (cxC P w K mg base N qual scope f cd A outer s H).ex := fun b z => absurd (show b ∈ ([] : List Addr) from z) (by simp)
  refine ⟨⟨e0.mod, S.kind, rfl, rfl, Nat.le_refl _, fun y z c h1 h2 => ?_, fun y hy => ?_, fun y c _ h => ?_, (fun z => Bool.noConfusion (show false = true from z)), Around.frames_deeper e0.frames, .inr ⟨rfl, rfl⟩, fun b z => absurd z (noA b), e0.bs, e0.bsz, fun b _ _ => noA b, fun b z => absurd z (noA b), e0.funs, e0.frf⟩,
    rfl, e0.bare, Un.kept hk, ⟨_, x.toInCall.ns, fun i y v h1 h2 h3 => ?_⟩, fun y c h => ⟨_, x.cell y c h⟩, e0.hok.fresh (Nat.le_refl _), fun y c h => ?_, fun q hq => absurd (show q ∈ ([] : List (Addr × Obj)) ++ [] from hq) (by simp), e0.hok.kept hk, ?_⟩
  · exact name_of_addr x.apart (PySem.mem_of_lookup h1) (PySem.mem_of_lookup h2)
  · have hy : scope.names.lookup y = some .cell ∨ scope.names.lookup y = some .free := hy
    rcases hy with hy | hy
    · exact cell_has hy
    · exact absurd rfl (S.nofree _ (PySem.mem_of_lookup hy))
  · exact Nat.le_of_lt (x.above y c (PySem.mem_of_lookup h))
  · have hi : i < vs.length := by
      unfold L2.start at h2
      by_cases hi : i < vs.length
      · exact hi
      · rw [List.getElem?_append_right (by simpa using hi)] at h2
        rw [List.getElem?_replicate] at h2
        split at h2 <;> cases h2
    have ha : vs[i]? = some v := by
      unfold L2.start at h2
      rw [List.getElem?_append_left (by simpa using hi), List.getElem?_map] at h2
      cases e : vs[i]? with
      | none => rw [e] at h2; cases h2
      | some a => rw [e] at h2; cases h2; rfl
    obtain ⟨u, hu, rv⟩ := r.get ha
    have hp : ps[i]? = some y := by
      rw [← S.pre, List.getElem?_take_of_lt (by omega)]; exact h1
    have ndP : ps.Nodup := by rw [← S.pre]; exact S.nd.sublist (List.take_sublist _ _)
    refine ⟨u, rv, ?_⟩
    rcases S.par y (List.mem_of_getElem? hp) with k | k
    · exact .inl ⟨k, bindL_get ndP hp hu k⟩
    · obtain ⟨c, e⟩ := cell_has (n := s.heap.objs.size + 1) k
      refine .inr ⟨.inl k, c, e, ?_⟩
      have q := x.cell y c e
      rw [bindC_get ndP hp hu (by show scope.names.lookup y ≠ _; rw [k]; decide)] at q
      exact q
  · exact e0.hok.fresh (Nat.le_of_lt (x.above y c (PySem.mem_of_lookup h)))
  · unfold L2.start
    show _ = N.length
    rw [List.length_append, List.length_map, List.length_replicate]
    omega
theorem def_okC {x qual : Str} {st : Stmt} {f : Addr} {fd : FuncData} {N ps : List Str} {k : Nat} {F : FT} (Fn : Fun K x qual st f fd) (S : FnScope N ps (defScope st))
    (body : ∀ (cdv : Value) (A : Around) (outer : List Env) (s : Shared) (H : Hp), L2H.RoomH k (A.deeper (envOfC qual (defScope st) s.heap.objs.size f cdv)) →
      ∃ ws : WS, PXB (cxC P w K mg base N qual (defScope st) f cdv A outer s H) W0 (defBody st) ws ∧
        ∀ (ds : List D) (Pd : D → Prop), ds.length = ps.length → F ds Pd (fun _ => False) → ws (startE N.length ds) { nx := fun _ => Pd .non, rt := Pd, ex := fun _ _ => False }) (hNl : N.contains ("<lambda>" : Str) = false := by decide) :
    FnC P w K mg base (k + 1) f fd ps (spP K mg ps.length fun ds Pd _ => F ds Pd fun _ => False) := by
  obtain ⟨oc, od, kV, doc, pm, an, cdv, ct, osl, rfl, lk, hcd⟩ := Fn.ex
  refine ⟨fun vs H Q E h => spP_len h, fun A outer s H args us vs Q hr e0 hb r hsp => ?_⟩
  have hl : vs.length = ps.length := spP_len hsp
  have KX : K.In s.heap := e0.mod.kin.keeps fun b o e => (e0.bs b o e).1
  have lim : s.heap.NoLimit := e0.mod.nolimit.keeps fun b o e => (e0.bs b o e).1
  have hkind : ∀ y ∈ ps.zip us, (defScope st).names.lookup y.1 = some .local ∨ ((defScope st).names.lookup y.1 = some .cell ∧ ((cellsFrom (s.heap.objs.size + 1) (defScope st).names []).lookup y.1).isSome = true) := fun ⟨n, v⟩ hy => by
    rcases S.par n (List.of_mem_zip hy).1 with q | q
    · exact .inl q
    · exact .inr ⟨q, PySem.W.cellsFrom_some _ _ _ (.inl q)⟩
  refine codeAny_call_function hr.depth (KX _ _ lk) rfl S.co S.gen rfl (PySem.W.codeRec_of KX hcd) (hb _ _ _ _ ?_)
  refine wpAny_newFunctionEnv_cells S.kind hkind fun env he s1 x => ?_
  subst he
  refine ⟨lim.keeps x.toInCall.keep, codeAny_func ?_⟩
  obtain ⟨b, G, ds, Pd, R, hp, rr, hn, hF, h1, h2⟩ := hsp
  obtain ⟨ws, hbd, hw⟩ := body cdv A outer s H (hr.deeper _)
  obtain ⟨t, t1, t2⟩ := hbd.ex
  have I : Inv (cxC P w K mg base N qual (defScope st) f cdv A outer s H) [] (L2.start N vs) H s1 := inv_startC S e0 hl r x
  have ht : t { nx := fun _ H' => Q .non H', rt := Q } (L2.start N vs) H := t2 { wd := ⟨K, mg, b⟩, G0 := G, H0 := H } (startE N.length ds) (L2.start N vs) G H _ _ (XOk.mk' hNl rfl rfl) (start_si N hp rr) (hw ds Pd hn hF)
    ⟨fun e1 σ1 G1 H1 p s1 x1 => h1 .non .non G1 H1 p s1.post .non, fun d v e1 σ1 G1 H1 p s1 r1 => h1 d v G1 H1 p s1.post r1, fun _ _ _ _ z => z.elim, fun _ _ _ _ z => z.elim, fun _ _ _ _ _ _ _ z => z.elim⟩
  refine wpAny_mono (t1.run [] s1 (L2.start N vs) H _ I ht) (fun fl s' hs => ?_) fun e s' hs => hs
  have fin : ∀ {σ' : L2.St} {H' : Hp} {v : V} {u : Value}, Inv (cxC P w K mg base N qual (defScope st) f cdv A outer s H) [] σ' H' s' → RelV v u → Q v H' → CE outer P w H s Q u s' :=
    fun {σ' H' v u} J rv q => ⟨v, H', J.os, J.bare, J.base, J.hok, rv, q⟩
  cases fl with
  | ret u =>
    obtain ⟨v, σ', H', J, rv, q⟩ := hs
    exact fin J rv q
  | next =>
    obtain ⟨σ', H', J, q⟩ := hs
    exact fin (v := V.non) (u := Value.none) J rfl q
  | brk =>
    obtain ⟨_, _, _, q⟩ := hs
    exact False.elim q
  | cont =>
    obtain ⟨_, _, _, q⟩ := hs
    exact False.elim q
end
section
variable {X : Cx} {k n : Nat} {f : Addr} {fd : FuncData} {ps : List Str} {F : FT} {x : Str} {p pos : Pos} {e : Expr} {es : List Expr} {u : WA}
theorem run_fnC {sp : Sp} {pins : List (Addr × Obj)} {σ : L2.St} {H : Hp} {s : Shared} {Q : VK} {us : List Value} {vs : List V} (F : FnC X.prog X.w X.K X.mg X.base k f fd ps sp) (hr : L2H.RoomH k X.A) (hb : Binds X.K fd ps [])
    (I : Inv X pins σ H s) (r : Vals vs us) (h : sp vs H Q C8.E0) : wpAny (model X.prog X.w) X.A (call (.ref f) us) (EP X pins σ Q) X.xe s := by
  have hl : us.length = ps.length := by rw [← r.length]; exact F.len _ _ _ _ h
  have b := hb s us I.kIn (by rw [List.append_nil]; exact hl)
  rw [List.append_nil] at b
  refine wpAny_call (codeAny_mono (F.run X.A X.stack s H ⟨us, []⟩ us vs Q hr I.env0 b r h) fun r s' hq => ?_)
  cases r with
  | error e => exact (show False from hq).elim
  | ok fl =>
    cases fl with
    | ret u => exact I.after hq
    | next => exact False.elim hq
    | brk => exact False.elim hq
    | cont => exact False.elim hq
theorem px_callC {W : WX} (Fn : FnC X.prog X.w X.K X.mg X.base k f fd ps (spP X.K X.mg n fun ds Pd _ => F ds Pd fun _ => False)) (hr : L2H.RoomH k X.A) (hg : Gl X x) (hm : X.mg x = some (.ref f)) (hk : PySem.W.keepIn X.K (.ref f) = true) (hb : Binds X.K fd ps [])
    (ha : PXA X W (e :: es) u) (hn : (e :: es).length = n) (hdb : (x == ("__debug__" : Str)) = false := by decide) (he : starEach (e :: es) X.env = (false, eval e X.env) :: starEach es X.env := by rfl) (hpl : (backTo pos (starEach es X.env)).any (·.1) = false := by rfl) :
    PX X W (.Call (.Name x p) (e :: es) [] pos) (wCall (fun ds P _ => ds.length = n ∧ F ds P fun _ => False) [] u) := by
  obtain ⟨t, a1, a2⟩ := ha.ex
  refine ⟨⟨fun σ H Q => t σ H fun vs H1 => spP X.K X.mg n (fun ds Pd _ => F ds Pd fun _ => False) vs H1 Q C8.E0, ⟨fun pins s σ H Q I h => ?_⟩, fun Fc' env σ G H P R Q hx hs hw hq hk => a2 Fc' env σ G H _ R _ hx hs hw (fun as e1 vs G1 H1 p1 s1 x1 r1 => ?_) hk⟩⟩
  · refine wpAny_Call_Name_kw (ld_glob I hg hm ?_ hdb)
    refine PySem.W.callWith_K (h₀ := X.base) I.ok.mod.kin hk (thn (a1.run pos pins s σ H _ I h) fun us s1 ⟨vs, H1, I1, r, q⟩ => ⟨I1.kIn, run_fnC Fn hr hb I1 r q⟩) he hpl
  · obtain ⟨⟨K, mg, b⟩, G0, H0, pins, self⟩ := Fc'
    obtain ⟨h1, h2, _⟩ := hx
    cases h1
    cases h2
    have p1' := p1.2
    rw [List.append_nil] at p1'
    have p0 := p1.1
    rw [List.append_nil] at p0
    exact ⟨b, G1, as, _, fun _ => False, s1.pre, r1, p0, p1', fun d v G' H' p po r => hq d e1 v G' H' p (s1.step po) (x1.trans po.ex) r, fun x cls dct G' H' p => p.elim⟩
end
end Pu
set_option maxRecDepth 100000
set_option maxHeartbeats 4000000
/-! Own exceptions as values: made, also by keywords; isinstance of them -/
namespace PuExc
open PySem PySem.W PySem.Calls PyProof.Rows PySem.Spec PySem.HandSPX
section
variable {M : Model} {A : Around} {E : Value → Shared → Prop} {h : Heap} {g : Array GenState} {d : Drawn} {t : Nat} {os : OsState}
variable {nm q : Str} {C N : Addr} {bs bm bmB : List Value} {hdct : Bool} {sn : List Str} {sub : List Value} {ab : Bool} {col : Option Bool} {dd : Option Addr} {k0 k1 k2 k3 k5 : Option Value} {B newId initId : String} {kw : List (Str × Value)}
theorem check_new_ownK (F : ExcBaseFacts B newId initId bmB) (hT : ∀ X : String, bm.contains (.type X) = bmB.contains (.type X)) {rest : List Value} {Q : Unit → Shared → Prop}
    (hC : h.get? C = some (excClassObj nm q C N bs bm hdct sn sub ab col dd k0 k1 k2 k3 k5 newId)) (hq : Q () ⟨h, g, d, t, os⟩) : wpAny M A (checkBuiltinCall newId ⟨.ref C :: rest, kw⟩) Q E ⟨h, g, d, t, os⟩ := by
  have hcont : (Value.ref C :: bm).contains (.type B) = true := by rw [List.contains_cons, hT, F.hasB, Bool.or_true]
  have hstar := F.noStar
  simp only [checkBuiltinCall, F.newKind, F.newSplit, F.newRow]
  repeat (first | refine wpAny_loadPart_at hC ?_ | (refine wpAny_isSubtype_exc hC ?_; rw [hcont]) | refine wpAny_staticBase_exc hC ?_ | refine wpAny_madeBy_exc hC ?_ | simp only [bne_self_eq_false, Bool.false_eq_true, if_false] | wp_step)
  exact hq
end
section
variable {prog : Program} {w : World} {A : Around} {E : Value → Shared → Prop} {R : Result → Shared → Prop} {h : Heap} {g : Array GenState} {d : Drawn} {t : Nat} {os : OsState}
variable {nm q : Str} {C N : Addr} {bs bm bmB : List Value} {hdct : Bool} {sn : List Str} {sub : List Value} {ab : Bool} {col : Option Bool} {dd : Option Addr} {k0 k1 k2 k3 k5 : Option Value} {B newId initId : String} {kw : List (Str × Value)}
theorem new_ownK (F : ExcBaseFacts B newId initId bmB) (hT : ∀ X : String, bm.contains (.type X) = bmB.contains (.type X)) {rest : List Value}
    (hC : h.get? C = some (excClassObj nm q C N bs bm hdct sn sub ab col dd k0 k1 k2 k3 k5 newId))
    (hq : R (.ok (.ret (.ref (h.objs.size + 1)))) ⟨(h.push { cls := .type "tuple", data := .seq rest.toArray }).push
      { cls := .ref C, data := .fields #[.ref h.objs.size, .none, .none, .none, .bool false, .none] }, g, d, t, os⟩) (hrest : rest.length ≤ sizeLine) :
    codeAny (model prog w) A (.builtin newId ⟨.ref C :: rest, kw⟩) R ⟨h, g, d, t, os⟩ := by
  have hends := F.ends
  have hcB : (Value.ref C :: bm).contains (.type B) = true := by rw [List.contains_cons, hT, F.hasB, Bool.or_true]
  have hcA : (Value.ref C :: bm).contains (.type "AttributeError") = false := by rw [List.contains_cons, hT, F.noAttr]; rfl
  have hcN : (Value.ref C :: bm).contains (.type "NameError") = false := by rw [List.contains_cons, hT, F.noName]; rfl
  refine codeAny_builtinAt F.entry ?_
  unfold Builtin.«BaseException.__new__»
  refine _root_.PySem.wpAt_bind ?_
  show _root_.PySem.wpAt _ _ _ (stack >>= _) _ _ _
  refine _root_.PySem.wpAt_bind (_root_.PySem.wpAt_stack fun p below => _root_.PySem.wpAt_of_wpAny ?_)
  wp_walk
  refine _root_.PySem.wpAt_of_wpAny ?_
  rw [F.owner]
  repeat (first | with_reducible refine wpAny_madeHere_exc F.canon hC ?_ | with_reducible refine wpAny_loadPart_at hC ?_ | (with_reducible refine wpAny_isSubtype_exc hC ?_; first | rw [hcB] | rw [hcA] | rw [hcN]) | wp_step)
  show R _ _
  rw [Heap.size_push]
  exact hq
theorem type_call_ownK (F : ExcBaseFacts B newId initId bmB) (hT : ∀ X : String, bm.contains (.type X) = bmB.contains (.type X)) {rest : List Value} {fI : Addr} {Q : Fin → Shared → Prop}
    (hC : h.get? C = some (excClassObj nm q C N bs bm hdct sn sub ab col dd k0 k1 k2 k3 k5 newId))
    (hi : Looks (model prog w) h (typeLookup (.ref C) "__init__") (some (.ref fI))) (hb : ∀ self, Looks (model prog w) h (bindSpecial (.ref fI) self) (.ref fI, [self])) (hrest : rest.length ≤ sizeLine)
    (hq : codeAny (model prog w) A (.call (.ref fI) ⟨.ref (h.objs.size + 1) :: rest, kw⟩)
      (fun r s' => match r with | .ok (.ret v) => v = .none ∧ Q (.done (.ret (.ref (h.objs.size + 1)))) s' | .ok _ => False | .error e => E e s')
      ⟨(h.push (kdv_tup rest)).push (excO C h.objs.size), g, d, t, os⟩) :
    wpAny (model prog w) A (Builtin.«type.__call__» ⟨.ref C :: rest, kw⟩) Q E ⟨h, g, d, t, os⟩ := by
  repeat (first | with_reducible refine wpAny_loadPart_at hC ?_ | with_reducible refine wpAny_madeBy_exc hC ?_ | wp_step)
  refine codeAny_call_builtin_code (Code.quiet_builtin _ F.quiet) (check_new_ownK F hT hC ?_)
  refine new_ownK F hT hC ?_ hrest
  show wpAny _ _ _ _ _ _
  have k : ∀ b o, h.get? b = some o → ((h.push (kdv_tup rest)).push (excO C h.objs.size)).get? b = some o := fun b o e => Heap.get?_push_of_some _ (Heap.get?_push_of_some _ e)
  have hC₁ := k _ _ hC
  have hget : ((h.push (kdv_tup rest)).push (excO C h.objs.size)).get? (h.objs.size + 1) = some (excO C h.objs.size) := by heap_get
  have hcC : (Value.ref C :: bm).contains (.ref C) = true := by simp
  have i1 := hi.keeps k
  have b1 := (hb (.ref (h.objs.size + 1))).keeps k
  unfold isInstance
  repeat (first | with_reducible refine wpAny_loadPart_at hget ?_ | (with_reducible refine wpAny_isSubtype_exc hC₁ ?_; rw [hcC]) | wp_step)
  show wpAny _ _ (typeLookup (.ref C) _) _ _ _
  refine i1.at ?_
  refine wpAny_holding (wpAny_bind (b1.at ?_))
  refine wpAny_bind (wpAny_call (codeAny_mono hq fun r s' z => ?_))
  rcases r with e | (v | _ | _ | _) <;> first | exact z | exact z.elim | skip
  obtain ⟨rfl, z⟩ := z
  first
    | exact wpAny_pure (wpAny_pure z)
    | (wp_walk; exact z)
theorem call_ownK (F : ExcBaseFacts B newId initId bmB) (hT : ∀ X : String, bm.contains (.type X) = bmB.contains (.type X)) {rest : List Value} {fI : Addr}
    (hC : h.get? C = some (excClassObj nm q C N bs bm hdct sn sub ab col dd k0 k1 k2 k3 k5 newId))
    (hi : Looks (model prog w) h (typeLookup (.ref C) "__init__") (some (.ref fI))) (hb : ∀ self, Looks (model prog w) h (bindSpecial (.ref fI) self) (.ref fI, [self])) (hrest : rest.length ≤ sizeLine)
    (hq : codeAny (model prog w) (A.under (.builtin "type.__call__" ⟨.ref C :: rest, kw⟩)) (.call (.ref fI) ⟨.ref (h.objs.size + 1) :: rest, kw⟩) (InitBack (h.objs.size + 1) R)
      ⟨(h.push (kdv_tup rest)).push (excO C h.objs.size), g, d, t, os⟩) :
    codeAny (model prog w) A (.call (.ref C) ⟨rest, kw⟩) R ⟨h, g, d, t, os⟩ := by
  have f1 := tc_lookup
  have f2 := tc_bind (.ref C)
  have hTy : (⟨h, g, d, t, os⟩ : Shared).TypeIs (.ref C) "type" := ⟨_, hC, rfl⟩
  refine codeAny_of_tree ?_
  show wpAny _ _ (callAny (.ref C) _) _ _ _
  repeat (any_goals (first | assumption | with_reducible refine wpAny_loadPart_at hC ?_ | wp_step))
  refine ⟨rfl, ?_⟩
  refine codeAny_call_builtin_at (Code.quiet_builtin _ (by decide +kernel)) entry_typeCall (wpAny_check_type_call_sub hC (type_call_ownK F hT hC hi hb hrest ?_))
  refine codeAny_mono hq fun r s' z => ?_
  rcases r with e | (v | _ | _ | _) <;> exact z
end
end PuExc
namespace Pu
open PySem L2 PySem.Spec PyProof.Rows PuExc
section
variable {X : Cx} {W : WX} {b : Bk} {c : Str} {C fI : Addr} {fd : FuncData} {ps : List Str} {k : Nat} {p pos : Pos} {e : Expr} {es : List Expr} {u : WA}
/-- an exception made, as a value -/
theorem pe_mkx {e : Expr} {t : L2.St → Hp → XK → Prop} (h : PMk X e t) : PE X e (fun σ H Q => t σ H fun cls d H' => ∀ a oe, H' a = none → Zc cls d oe → (∃ vs, oe.data = .fields vs) → Q (.ref a) (upd H' a (.frz oe (xO a oe)))) := by
  refine ⟨fun pins s σ H Q I hq => ?_⟩
  refine wpAny_mono (h pins s σ H _ I hq) (fun u s' hu => ?_) fun _ _ x => x
  obtain ⟨a, oe, vs, sI, H', cls, d, rfl, J, k, hne, ha, hz, hd, h1, na, os, ag, r, q⟩ := hu
  have new : ObjOk X.prog X.w (upd H' a (.frz oe (xO a oe))) s'.heap a (.frz oe (xO a oe)) := ⟨ha, ha, ⟨oe, ha⟩, fun h1 h2 x k => k _ x⟩
  exact ⟨.ref a, _, J.call' (ch := []) os (Un.laidN k hne na) (J.hok.laidN k na new) ag (fun b z => absurd z (by simp)), rfl, q a oe na hz ⟨_, hd⟩⟩
/-- the arguments by keywords, in the order of the parameters -/
def KBX (fd : FuncData) (ps : List Str) : Prop := ∀ (s : Shared) (e : Value) (ws : List Value), ws.length = ps.length → BindsTo s fd ⟨[e], ps.zip ws⟩ ((("self" : Str) :: ps).zip (e :: ws))
theorem mk_runK {pins : List (Addr × Obj)} {σ : L2.St} {H1 : Hp} {Q : XK} {s1 : Shared} {us : List Value} {vs : List V} (T : XDef X.K X.prog b c C fI fd ps) (kb : KBX fd ps) (hr : Room (k + 1) X.A) (hz : ps.length ≤ 800) (I1 : Inv X pins σ H1 s1) (r1 : Vals vs us) (hl : vs.length = ps.length)
    (q1 : ∀ d, H1 d = none → Q (.ref C) (some d) (upd H1 d (.xd (xfs (.str c) ps vs)))) : wpAny (model X.prog X.w) X.A (call (.ref C) [] (ps.zip us)) (MkP X pins σ Q) X.xe s1 := by
  obtain ⟨nm, q, N, bs, bm, sn, sub, ab, col, dd, k0, k1, k2, k3, k5, hC, hbm⟩ := T.cls
  obtain ⟨mb, hb, hbb⟩ := I1.mod.blt
  have KI := I1.kIn
  have g0 := I1.mod.glob.keeps I1.bk
  have b0 := hb.keeps I1.bk
  have n0 := I1.nolimit
  have bare := I1.bare
  obtain ⟨hp, g, dr, tk, os⟩ := s1
  have kk : ∀ b o, hp.get? b = some o → ((hp.push (PySem.W.kdv_tup [])).push (PySem.HandSPX.excO C hp.objs.size)).get? b = some o := fun b o e => Heap.get?_push_of_some _ (Heap.get?_push_of_some _ e)
  have hget : ((hp.push (PySem.W.kdv_tup [])).push (PySem.HandSPX.excO C hp.objs.size)).get? (hp.objs.size + 1) = some (PySem.HandSPX.excO C hp.objs.size) := by heap_get
  have lt : ∀ b o, hp.get? b = some o → b ≠ hp.objs.size + 1 := fun b o z => Nat.ne_of_lt (Nat.lt_succ_of_lt (Heap.lt_size z))
  have hsl : us.length = ps.length := by rw [← hl, r1.length]
  refine wpAny_call (call_ownK T.bk.F (fun Y => refsT_contains Y bm hbm) (KI _ _ hC) (PySem.W.looks_findIn KI T.iC) (fun self => PySem.W.bind_fn KI self T.tI) (by simp) ?_)
  refine init_runA (t0 := hp.objs.size) (us := us) (kb _ _ us hsl) T (KI.keeps kk) (g0.keeps kk) (b0.keeps kk) hbb (n0.keeps kk) hget (fun a o z => lt a o (KI a o z)) (Nat.ne_of_lt (Nat.lt_succ_of_lt g0.lt)) (Nat.ne_of_lt (Nat.lt_succ_of_lt b0.lt)) hsl hz (hr.make C [] (ps.zip us)).depth fun h' t' dx tc t1 k' ndx e' n' => ?_
  have nd : hp.get? dx = none := by
    cases z : hp.get? dx with
    | none => rfl
    | some o => rw [kk _ _ z] at ndx; cases ndx
  have dxe : dx ≠ hp.objs.size + 1 := fun z => by rw [z, hget] at ndx; cases ndx
  have k2 : ∀ b o, hp.get? b = some o → h'.get? b = some o := fun b o z => k' b o (lt b o z) (kk b o z)
  obtain ⟨G, g1, g2⟩ := restrict h' fun b => (hp.get? b).isSome || decide (b = dx)
  have gd : ∀ o, h'.get? dx = some o → G.get? dx = some o := fun o z => by rw [g1 dx (by simp)]; exact z
  have gk : ∀ b o, hp.get? b = some o → G.get? b = some o := fun b o z => by rw [g1 b (by simp [z])]; exact k2 b o z
  have ga : G.get? (hp.objs.size + 1) = none := g2 _ (by
    have : hp.get? (hp.objs.size + 1) = none := by
      cases z : hp.get? (hp.objs.size + 1) with
      | none => rfl
      | some o => exact absurd rfl (lt _ _ z)
    rw [this]
    simpa using fun z => dxe z.symm)
  have gs : ∀ b o, G.get? b = some o → h'.get? b = some o := fun b o z => by
    cases q : ((hp.get? b).isSome || decide (b = dx)) with
    | false => rw [g2 b q] at z; cases z
    | true => rw [← g1 b q]; exact z
  have hn : H1 dx = none := I1.hok.gone nd
  have nG : G.Ns1 dx (fun y => ((ps.zip us).reverse ++ [(("code" : Str), Value.str c tc)]).lookup y) := n'.at gd
  have J : Inv X pins σ (upd H1 dx (.xd (xfs (.str c) ps vs))) ⟨G, g, dr, t', os⟩ := I1.laidN (t' := t') gk nd hn ⟨_, nG, kv_look (kv_zip r1 (.cons ⟨rfl, ⟨_, rfl⟩⟩ .nil))⟩
  have na : H1 (hp.objs.size + 1) = none := I1.hok.fresh (Nat.le_succ _)
  exact ⟨rfl, hp.objs.size + 1, _, _, ⟨G, g, dr, t', os⟩, _, .ref C, some dx, rfl, J, gs, ga, e', ⟨rfl, rfl⟩, rfl, rfl, by rw [upd_ne dxe.symm]; exact na, rfl, bare, raises_own T.exC T.tyC, q1 dx hn⟩
theorem pmk_xK {kws : List Keyword} {tk : TA} (T : XDef X.K X.prog b c C fI fd ps) (kb : KBX fd ps) (hr : Room (k + 1) X.A) (hz : ps.length ≤ 800) (hg : Gl X c) (hm : X.mg c = some (.ref C)) (hkw : PK X kws tk)
    (hall : (backToKw pos (keywordEach kws X.env)).all (·.1.isSome) = true := by rfl) (hks : (backToKw pos (keywordEach kws X.env)).filterMap (·.1) = ps := by rfl) (hdb : (c == ("__debug__" : Str)) = false := by decide)
    (hpl : ((backTo pos (starEach [] X.env)).any (·.1) || (backToKw pos (keywordEach kws X.env)).any (·.1.isNone)) = false := by rfl) :
    PMk X (.Call (.Name c p) [] kws pos) (tMkX c C ps tk) := by
  intro pins s σ H Q I h
  refine wpAny_Call_Name_kw (ld_glob I hg hm ?_ hdb)
  refine PySem.W.callWith_KW0 (h₀ := X.base) I.ok.mod.kin T.kC hall ?_ hpl
  refine thn (hkw.run pos pins s σ H _ I h) fun ws s2 ⟨zs, H2, I2, rz, hl, q2⟩ => ⟨I2.kIn, ?_⟩
  rw [hks]
  exact mk_runK T kb hr hz I2 rz hl q2
/-- C(..): an exception, as a value -/
def wMkX (c : Str) (ps : List Str) (u : WA) : WE := fun env P R => u env (fun ds e => ds.length = ps.length ∧ P (.exc c (xfs (.str c) ps ds)) e) R
theorem mkx_run {F : Fc} {env : En} {σ : L2.St} {G H : Hp} {vs : List V} {ds : List D} {P : D → En → Prop} {Q : VK} (hx : XOk X F) (xc : XC X.K C (("code" : Str) :: ps)) (hm : X.mg c = some (.ref C)) (hs : SI F env σ G H) (r : Reps F.wd G vs ds) (hl : ds.length = ps.length)
    (hP : P (.exc c (xfs (.str c) ps ds)) env) (hq : ∀ d env' v G' H', P d env' → SI F env' σ G' H' → Ex G G' → Rep F.wd G' v d → Q v H') :
    vs.length = ps.length ∧ ∀ d, H d = none → ∀ a oe, upd H d (.xd (xfs (.str c) ps vs)) a = none → Zc (.ref C) (some d) oe → (∃ vs, oe.data = .fields vs) → Q (.ref a) (upd (upd H d (.xd (xfs (.str c) ps vs))) a (.frz oe (xO a oe))) := by
  have hv : vs.length = ps.length := by rw [r.length, hl]
  refine ⟨hv, fun d hn a oe na hz hf => ?_⟩
  have po := Post.new1 (o := .xd (xfs (.str c) ps vs)) hs.pre hn
  have s2 := hs.step po
  have po2 := Post.new1 (o := .frz oe (xO a oe)) s2.pre na
  refine hq _ env _ _ _ hP (s2.step po2) (po.ex.trans po2.ex) (.exc (by rw [hx.m]; exact hm) ?_ upd_same hz hf (po2.ex _ _ upd_same) (repF_zip (r.mono (po.ex.trans po2.ex)) (.cons .str .nil)))
  rw [hx.k]
  exact ⟨xc.f, xc.e, fun n hn => xc.na n (xfs_names _ _ _ hv.symm n hn)⟩
theorem px_mkx (T : XDef X.K X.prog b c C fI fd ps) (xc : XC X.K C (("code" : Str) :: ps)) (hr : Room (k + 1) X.A) (hz : ps.length ≤ 800) (hg : Gl X c) (hm : X.mg c = some (.ref C)) (ha : PXA X W (e :: es) u)
    (hdb : (c == ("__debug__" : Str)) = false := by decide) (he : starEach (e :: es) X.env = (false, eval e X.env) :: starEach es X.env := by rfl) (hpl : (backTo pos (starEach es X.env)).any (·.1) = false := by rfl) :
    PX X W (.Call (.Name c p) (e :: es) [] pos) (wMkX c ps u) := by
  obtain ⟨t, a1, a2⟩ := ha.ex
  exact ⟨⟨_, pe_mkx (pmk_x T hr hz hg hm a1 hdb he hpl), fun F env σ G H P R Q hx hs hw hq hk => a2 F env σ G H _ R _ hx hs hw (fun ds e1 vs G1 H1 p1 s1 x1 r1 => mkx_run hx xc hm s1 r1 p1.1 p1.2 (fun d e' v G' H' p s x r => hq d e' v G' H' p s (x1.trans x) r)) hk⟩⟩
theorem px_mkxK {kws : List Keyword} (T : XDef X.K X.prog b c C fI fd ps) (kb : KBX fd ps) (xc : XC X.K C (("code" : Str) :: ps)) (hr : Room (k + 1) X.A) (hz : ps.length ≤ 800) (hg : Gl X c) (hm : X.mg c = some (.ref C)) (hkw : PXK X W kws u)
    (hall : (backToKw pos (keywordEach kws X.env)).all (·.1.isSome) = true := by rfl) (hks : (backToKw pos (keywordEach kws X.env)).filterMap (·.1) = ps := by rfl) (hdb : (c == ("__debug__" : Str)) = false := by decide)
    (hpl : ((backTo pos (starEach [] X.env)).any (·.1) || (backToKw pos (keywordEach kws X.env)).any (·.1.isNone)) = false := by rfl) :
    PX X W (.Call (.Name c p) [] kws pos) (wMkX c ps u) := by
  obtain ⟨t, a1, a2⟩ := hkw.ex
  exact ⟨⟨_, pe_mkx (pmk_xK T kb hr hz hg hm a1 hall hks hdb hpl), fun F env σ G H P R Q hx hs hw hq hk => a2 F env σ G H _ R _ hx hs hw (fun ds e1 vs G1 H1 p1 s1 x1 r1 => mkx_run hx xc hm s1 r1 p1.1 p1.2 (fun d e' v G' H' p s x r => hq d e' v G' H' p s (x1.trans x) r)) hk⟩⟩
theorem px_mkx0 (T : XDef X.K X.prog b c C fI fd []) (xc : XC X.K C [("code" : Str)]) (hr : Room (k + 1) X.A) (hg : Gl X c) (hm : X.mg c = some (.ref C)) (hdb : (c == ("__debug__" : Str)) = false := by decide) :
    PX X W (.Call (.Name c p) [] [] pos) (wMkX c [] wNil) :=
  ⟨⟨_, pe_mkx (pmk_x0 T hr hg hm hdb), fun F env σ G H P R Q hx hs hw hq hk => mkx_run hx xc hm hs .nil hw.1 hw.2 (fun d e' v G' H' p s x r => hq d e' v G' H' p s x r)⟩⟩
end
/-! ### isinstance(e, C) -/
def wIsiX (tab : List (Str × Bool)) (w : WE) : WE := fun env P R => w env (fun d e => match d with
  | .exc c _ => (match tab.lookup c with
    | some b => P (.bl b) e
    | none => False)
  | _ => False) R
section
variable {X : Cx} {W : WX} {a : Expr} {w : WE} {pos p p2 : Pos} {T : Str} {cv : V} {cw : Value}
theorem cls_some {K : PySem.W.Frag} {C : Addr} (h : PySem.W.hasDictIn K C = true) : (PySem.W.clsIn K C).isSome = true := by
  unfold PySem.W.hasDictIn at h
  cases e : PySem.W.clsIn K C with
  | some _ => rfl
  | none => rw [e] at h; cases h
theorem px_isiX {tT : TE} (hT : PE X (.Name T p2) (tC cv)) (kv : ClsV cv cw) {tab : List (Str × Bool)} (htab : ∀ (c : Str) (C : Addr) (b : Bool), X.mg c = some (.ref C) → tab.lookup c = some b → PySem.W.kitOne X.K (.ref C) cw = some b)
    (hg : Gl X "isinstance") (hm : X.mg "isinstance" = none) (ha : PX X W a w)
    (he : starEach (a :: [.Name T p2]) X.env = (false, eval a X.env) :: starEach [.Name T p2] X.env := by rfl) (hpl : (backTo pos (starEach [.Name T p2] X.env)).any (·.1) = false := by rfl) (he2 : starEach [.Name T p2] X.env = (false, eval (.Name T p2) X.env) :: starEach [] X.env := by rfl) :
    PX X W (.Call (.Name "isinstance" p) [a, .Name T p2] [] pos) (wIsiX tab w) := by
  obtain ⟨t, a1, a2⟩ := ha.ex
  have call_ : CallR X (.builtin "isinstance") (fun xs H Q => ∃ (a C : Addr) (d : Addr) (oe : Obj) (fv : List (Str × V)) (b : Bool), xs = [.ref a, cv] ∧ H a = some (.frz oe (xO a oe)) ∧ Zc (.ref C) (some d) oe ∧ (∃ vs, oe.data = .fields vs) ∧ ExcC X.K C ∧ H d = some (.xd fv) ∧ PySem.W.kitOne X.K (.ref C) cw = some b ∧ Q (.bl b) H) := by
    intro pins s σ H xs us Q I r h
    obtain ⟨a, C, d, oe, fv, b, rfl, ea, hz, hf, E, ed, e, q⟩ := h
    cases r with
    | cons rx rr =>
      cases rr with
      | cons rt rr =>
        cases rr
        cases rx
        have ec := kv.eq rt
        subst ec
        obtain ⟨ha, _⟩ := I.hok a _ ea
        have hx : ObjOk X.prog X.w H s.heap d (.xd fv) := I.hok d _ ed
        obtain ⟨mA, hns, hr⟩ := hx
        obtain ⟨od, ho, hl⟩ := lookIn_ns hns
        obtain ⟨vs, hd⟩ := hf
        have J : PySem.W.InstAt s.heap a oe C (some od) := ⟨ha, hz.1, by unfold PySem.W.notCls; rw [hd] <;> rfl, by rw [hz.2]; exact ho⟩
        exact PySem.W.kia_one (PySem.W.kitx_exc (cls_some E.hd) E.hg E.hk E.hs E.ha E.hn E.ht E.hm) I.kIn J e (fun z => nomatch z) fun tk => ⟨.bl b, H, I.kept (t' := tk) fun _ _ z => z, rfl, q⟩
  refine ⟨⟨_, pe_callB call_ hg hm (by decide +kernel) (pa_cons a1 (pa_cons hT pa_nil he2) he) (by decide) (by decide) he hpl, fun F env σ G H P R Q hx hs hw hq hk => a2 F env σ G H _ R _ hx hs hw (fun d e1 v G1 H1 p s1 x1 r1 => ?_) hk⟩⟩
  cases d <;> first | exact p.elim | skip
  rename_i c fs
  cases e0 : tab.lookup c with
  | none =>
    dsimp only at p
    rw [e0] at p
    exact p.elim
  | some bb =>
    dsimp only at p
    rw [e0] at p
    cases r1 with
    | exc h1 xc ga hz hf gd rf =>
      rw [hx.m] at h1
      rw [hx.k] at xc
      exact ⟨_, _, _, _, _, bb, rfl, s1.exG _ _ ga, hz, hf, xc.e, s1.exG _ _ gd, htab c _ bb h1 e0, hq _ e1 _ G1 H1 p s1 x1 .bl⟩
end
/-! ### isinstance of exceptions: the answers for one class -/
def ktab (K : PySem.W.Frag) (cv : Value) (l : List (Str × Addr × Bool)) : Bool := l.all fun p => decide (PySem.W.kitOne K (.ref p.2.1) cv = some p.2.2)
theorem kt_of {K : PySem.W.Frag} {mg : Str → Option Value} {cv : Value} (l : List (Str × Addr × Bool)) (hg : ∀ p ∈ l, mg p.1 = some (.ref p.2.1)) (h : ktab K cv l = true) :
    ∀ (c : Str) (C : Addr) (b : Bool), mg c = some (.ref C) → (l.map fun p => (p.1, p.2.2)).lookup c = some b → PySem.W.kitOne K (.ref C) cv = some b := by
  intro c C b hm hl
  obtain ⟨p, hp, e⟩ := List.mem_map.mp (PySem.mem_of_lookup hl)
  cases e
  have e1 := hg p hp
  rw [hm] at e1
  cases e1
  exact of_decide_eq_true (List.all_eq_true.mp h p hp)
def tNever : TE := fun _ _ _ => False
/-! ### what an exception class's text and K tell -/
structure XText (c q : Str) (st : Stmt) (ps : List Str) : Prop where
  body : ∀ (fX cda cel : Addr), BodyX c ps (fun L => PySem.W.ksEnv q (defScope st) L fX (.ref cda) cel) (defBody st)
  sc : ScopeX ps (defScope st)
  ar : ∃ ar, ((defArgs st).posonlyargs ++ (defArgs st).args).head? = some ar ∧ ar.arg = "self"
  bd : ∀ (kV doc pm : Value) (an : Option Addr) (cdv ct : Value) (cc : Addr) (us : List Value), us.length = (("self" : Str) :: ps).length → bindArgs (PySem.W.ksFn "__init__" q (defArgs st) (defBody st) (defScope st) .none kV doc pm an cdv ct cc) ⟨us, []⟩ = pure ((("self" : Str) :: ps).zip us)
  kb : ∀ (kV doc pm : Value) (an : Option Addr) (cdv ct : Value) (cc : Addr) (e : Value) (ws : List Value), ws.length = ps.length → bindArgs (PySem.W.ksFn "__init__" q (defArgs st) (defBody st) (defScope st) .none kV doc pm an cdv ct cc) ⟨[e], ps.zip ws⟩ = pure ((("self" : Str) :: ps).zip (e :: ws))
def XH (K : PySem.W.Frag) (P : Program) (b : Bk) (c : Str) (C : Addr) (ps : List Str) : Prop := ∃ fX fd, XDef K P b c C fX fd ps ∧ XC K C (("code" : Str) :: ps) ∧ KBX fd ps
theorem xh_mk {K : PySem.W.Frag} {P : Program} {b : Bk} (ok : b.Ok) {c q : Str} {st : Stmt} {ps : List Str} (tx : XText c q st ps) {C fX cda cel N : Addr} {nm qn file : Str} {bs bm sub : List Value} {sn : List Str} {ab : Bool} {col : Option Bool} {dd od an cdd cld : Option Addr} {k0 k1 k2 k3 k5 : Option Value}
    {oc kV doc pm ct ccl cl : Value} {osl ccs csl : Array (Option Value)} {vs : Array Value} {tf : Tok}
    (lC : K.lookup C = some (excClassObj nm qn C N bs bm true sn sub ab col dd k0 k1 k2 k3 k5 b.n)) (rf : refsT b.tl bm = true) (su : PySem.W.ks_superIn K C C "__init__" = some (some (.builtin b.i)))
    (sb : PySem.W.subIn K (.ref C) (.type b.B) = some true) (se : PySem.W.mroIn K C (.ref C) = some true) (sa : PySem.W.findIn K (.ref C) "__setattr__" = some (some (.builtin "object.__setattr__")))
    (na : ∀ f ∈ ("code" : Str) :: ps, PySem.W.findIn K (.ref C) f = some none) (eb : PySem.W.subIn K (.ref C) (.type "BaseException") = some true) (ty : PySem.W.typeIn K (.ref C) = some (.type "type")) (kC : PySem.W.keepIn K (.ref C) = true)
    (iC : PySem.W.findIn K (.ref C) "__init__" = some (some (.ref fX))) (tI : PySem.W.typeIn K (.ref fX) = some (.type "function"))
    (lf : K.lookup fX = some ⟨oc, od, .func (PySem.W.ksFn "__init__" q (defArgs st) (defBody st) (defScope st) .none kV doc pm an (.ref cda) ct cel), osl⟩) (cf : PySem.W.codeIn K (.ref cda) q = true)
    (lc : K.lookup cda = some ⟨ccl, cdd, .fields vs, ccs⟩) (vf : vs[2]? = some (.str file tf)) (ff : ((P.main.file : Str) == file) = true) (lx : K.lookup cel = some ⟨cl, cld, .cell (some (.ref C)), csl⟩)
    (ga : PySem.W.findIn K (.ref C) "__getattribute__" = some (some (.builtin "BaseException.__getattribute__"))) (gg : PySem.W.findIn K (.ref C) "__getattr__" = some none) (hd : PySem.W.hasDictIn K C = true)
    (hc : PySem.W.findIn K (.ref C) "__class__" = some (some (.builtin "object.__class__"))) (hm : PySem.W.mroIn K C (.type "object") = some true)
    (sup : PySem.W.nsIn K mainGlobals "super" = some none) (top : (P.main.scope.names.lookup ("super" : Str)).isSome = false) (opq : PySem.W.nsIn K cStatics "thirdparty.any" = some none)
    (hn : PySem.W.specialIn K (.builtin "object.__class__") "__get__" = some (some (.builtin "getset_descriptor.__get__"))) (ht : PySem.W.takesIn K (.builtin "object.__class__") = some true) : XH K P b c C ps := by
  obtain ⟨ar, ha1, ha2⟩ := tx.ar
  exact ⟨fX, _, ⟨ok, ⟨_, _, _, _, _, _, _, _, _, _, _, _, _, _, _, lC, rf⟩, su, sb, se, sa, na, eb, ty, kC, iC, tI, ⟨_, _, _, _, _, _, _, _, _, _, _, _, _, _, _, rfl, lf, cf, ⟨_, _, _, _, _, _, lc, vf, ff⟩, ⟨_, _, _, lx⟩, tx.body _ _ _, tx.sc, ha1, ha2⟩, .all (fun us hl => tx.bd _ _ _ _ _ _ _ us hl), sup, top, opq⟩,
    ⟨⟨ga, gg, eb, hd⟩, ⟨ga, gg, eb, hd, hc, hn, ht, hm⟩, na⟩, fun s e ws hl => .of_eq (tx.kb _ _ _ _ _ _ _ e ws hl)⟩
end Pu
set_option maxRecDepth 100000
set_option maxHeartbeats 2000000
/-! Objects frozen for a call, thawed behind it -/
namespace Pu
open PySem L2 PySem.Spec PyProof.Rows
def frzS (H : Hp) (S : List (Addr × Obj)) : Hp := fun b => match S.lookup b with
  | some o => some (.frz o (xO b o))
  | none => H b
def delS (H : Hp) (S : List (Addr × Obj)) : Hp := fun b => match S.lookup b with
  | some _ => none
  | none => H b
/-- what S tells stands in the heap, untracked -/
def FzOk (S : List (Addr × Obj)) (H : Hp) (h : Heap) : Prop := ∀ b o, S.lookup b = some o → H b = none ∧ h.get? b = some o
theorem frzS_in {H : Hp} {S : List (Addr × Obj)} {b : Addr} {o : Obj} (q : S.lookup b = some o) : frzS H S b = some (.frz o (xO b o)) := by unfold frzS; rw [q]
theorem frzS_out {H : Hp} {S : List (Addr × Obj)} {b : Addr} (q : S.lookup b = none) : frzS H S b = H b := by unfold frzS; rw [q]
theorem delS_in {H : Hp} {S : List (Addr × Obj)} {b : Addr} {o : Obj} (q : S.lookup b = some o) : delS H S b = none := by unfold delS; rw [q]
theorem delS_out {H : Hp} {S : List (Addr × Obj)} {b : Addr} (q : S.lookup b = none) : delS H S b = H b := by unfold delS; rw [q]
section
variable {P : Program} {w : World} {H H' : Hp} {S : List (Addr × Obj)} {h h' : Heap} {fs : List Addr}
theorem FzOk.out (z : FzOk S H h) {b : Addr} {u : HO} (e : H b = some u) : S.lookup b = none := by
  cases q : S.lookup b with
  | none => rfl
  | some o =>
    rw [(z b o q).1] at e
    cases e
theorem FzOk.keep (z : FzOk S H h) {b : Addr} {u : HO} (e : H b = some u) : frzS H S b = some u := by
  rw [frzS_out (z.out e)]
  exact e
theorem hok_frzS (x : HOk P w H h) (z : FzOk S H h) : HOk P w (frzS H S) h := fun b u e => by
  cases q : S.lookup b with
  | none =>
    rw [frzS_out q] at e
    exact (x b u e).stay (fun _ _ _ y => y) (fun c y => z.keep y) fun c xs y => z.keep y
  | some o =>
    rw [frzS_in q] at e
    cases e
    have g := (z b o q).2
    exact ⟨g, g, ⟨o, g⟩, fun h1 h2 x k => k _ x⟩
theorem un_thaw (u : Un fs [] (frzS H S) H' h h') (hok : HOk P w H' h') (z : FzOk S H h) (nf : ∀ b o, S.lookup b = some o → b ∉ fs) : Un fs [] H (delS H' S) h h' where
  keep := fun b o e n hf hx => by
    cases q : S.lookup b with
    | none => exact u.keep b o e (by rw [frzS_out q]; exact n) hf hx
    | some o1 =>
      have g := (z b o1 q).2
      rw [e] at g
      cases g
      exact (hok b _ (u.frzs b o _ (frzS_in q))).1
  slot := fun b o e n hf hx => by
    cases q : S.lookup b with
    | none => exact u.slot b o e (by rw [frzS_out q]; exact n) hf hx
    | some o1 => exact absurd hf (nf b o1 q)
  free := fun b o e n hx => by
    cases q : S.lookup b with
    | none =>
      rw [delS_out q]
      exact u.free b o e (by rw [frzS_out q]; exact n) hx
    | some o1 => exact delS_in q
  there := u.there
  tups := fun b xs e => by
    rw [delS_out (z.out e)]
    exact u.tups b xs (z.keep e)
  frzs := fun b o v e => by
    rw [delS_out (z.out e)]
    exact u.frzs b o v (z.keep e)
  tbls := fun b ps e => by
    rw [delS_out (z.out e)]
    exact u.tbls b ps (z.keep e)
theorem hok_delS (x : HOk P w H' h') (z : ∀ b o, S.lookup b = some o → H' b = some (.frz o (xO b o))) : HOk P w (delS H' S) h' := fun b u e => by
  have out : ∀ {c : Addr} {v : HO}, H' c = some v → (∀ o, v ≠ .frz o (xO c o)) → delS H' S c = some v := fun {c v} y n => by
    cases q : S.lookup c with
    | none => rw [delS_out q]; exact y
    | some o =>
      rw [z c o q] at y
      exact absurd (Option.some.inj y).symm (n o)
  cases q : S.lookup b with
  | some o =>
    rw [delS_in q] at e
    cases e
  | none =>
    rw [delS_out q] at e
    exact (x b u e).stay (fun _ _ _ y => y) (fun c y => out y (fun o z => nomatch z)) fun c xs y => out y (fun o z => nomatch z)
theorem ce_thaw {outer : List Env} {s s' : Shared} {Q Q' : VK} {u : Value} (c : CE outer P w (frzS H S) s Q u s') (z : FzOk S H s.heap) (nf : ∀ b o, S.lookup b = some o → b ∉ frs outer)
    (hQ : ∀ v H', (∀ b o, S.lookup b = some o → H' b = some (.frz o (xO b o))) → Q v H' → Q' v (delS H' S)) : CE outer P w H s Q' u s' := by
  obtain ⟨v, H', os, bare, un, hok, r, q⟩ := c
  have fz : ∀ b o, S.lookup b = some o → H' b = some (.frz o (xO b o)) := fun b o e => un.frzs b o _ (frzS_in e)
  exact ⟨v, delS H' S, os, bare, un_thaw un hok z nf, hok_delS hok fz, r, hQ v H' fz q⟩
end
/-! ### data without lambdas -/
mutual
def noFn : D → Bool
  | .fn _ _ => false
  | .lst l => noFns l
  | .tup l => noFns l
  | .ins _ fs => noFnF fs
  | .exc _ fs => noFnF fs
  | .dk l => noFnK l
  | .dt l => noFnT l
  | _ => true
def noFns : List D → Bool
  | [] => true
  | d :: l => noFn d && noFns l
def noFnF : List (Str × D) → Bool
  | [] => true
  | (_, d) :: l => noFn d && noFnF l
def noFnK : List (Key × D) → Bool
  | [] => true
  | (_, d) :: l => noFn d && noFnK l
def noFnT : List (List Key × D) → Bool
  | [] => true
  | (_, d) :: l => noFn d && noFnT l
end
/-- G' without what was frozen for a call -/
structure Thaw (G G' : Hp) : Prop where
  a : ∀ a o, G a = some o → (∀ ob, o ≠ .frz ob (xO a ob)) → G' a = some o
  b : ∀ a o, G a = some (.frz o (xO a o)) → (∃ vs, o.data = .fields vs) → G' a = some (.frz o (xO a o))
theorem Thaw.rd {G G' : Hp} (t : Thaw G G') {a : Addr} {u : HO} (h : Rd G a u) (h1 : ∀ o, u ≠ .frz o (xO a o)) (h2 : ∀ o, u ≠ xO a o) : Rd G' a u := by
  rcases h with h | ⟨o, h⟩
  · exact .inl (t.a _ _ h h1)
  · exact .inr ⟨o, t.a _ _ h (fun ob z => h2 ob (by injection z with z1 z2))⟩
theorem Thaw.tup {K : PySem.W.Frag} {G G' : Hp} (t : Thaw G G') {a : Addr} {xs : List V} (h : SqT K G a xs) : SqT K G' a xs := by
  rcases h with h | h
  · exact .inl (t.rd h (fun o z => nomatch z) (fun o z => by unfold xO at z; cases z))
  · exact .inr h
mutual
theorem Rep.thaw {w : Wd} {G G' : Hp} (t : Thaw G G') : ∀ {v : V} {d : D}, Rep w G v d → noFn d = true → Rep w G' v d
  | _, _, .non, _ => .non
  | _, _, .bl, _ => .bl
  | _, _, .int, _ => .int
  | _, _, .str, _ => .str
  | _, _, .lst h r, n => .lst (t.a _ _ h (fun o z => nomatch z)) (Reps.thaw t r n)
  | _, _, .tup h r, n => .tup (t.a _ _ h (fun o z => nomatch z)) (Reps.thaw t r n)
  | _, _, .bag h, _ => .bag h
  | _, _, .ins h1 hc h2 r, n => .ins h1 hc (t.a _ _ h2 (fun o z => nomatch z)) (RepF.thaw t r n)
  | _, _, .dk h r, n => .dk (t.a _ _ h (fun o z => by injection z with _ z; unfold xO at z; cases z)) (RepK.thaw t r n)
  | _, _, .dt h r, n => .dt (t.a _ _ h (fun o z => by injection z with _ z; unfold xO at z; cases z)) (RepT.thaw t r n)
  | _, _, .exc h1 h2 h3 h4 h5 h6 r, n => .exc h1 h2 (t.b _ _ h3 h5) h4 h5 (t.a _ _ h6 (fun o z => nomatch z)) (RepF.thaw t r n)
  | _, _, .fn _ _, n => by cases n
  | _, _, .typ h, _ => .typ h
theorem Reps.thaw {w : Wd} {G G' : Hp} (t : Thaw G G') : ∀ {v : List V} {d : List D}, Reps w G v d → noFns d = true → Reps w G' v d
  | _, _, .nil, _ => .nil
  | _, _, .cons h r, n => .cons (Rep.thaw t h (Bool.and_eq_true_iff.mp n).1) (Reps.thaw t r (Bool.and_eq_true_iff.mp n).2)
theorem RepF.thaw {w : Wd} {G G' : Hp} (t : Thaw G G') : ∀ {v : List (Str × V)} {d : List (Str × D)}, RepF w G v d → noFnF d = true → RepF w G' v d
  | _, _, .nil, _ => .nil
  | _, _, .cons h r, n => .cons (Rep.thaw t h (Bool.and_eq_true_iff.mp n).1) (RepF.thaw t r (Bool.and_eq_true_iff.mp n).2)
theorem RepK.thaw {w : Wd} {G G' : Hp} (t : Thaw G G') : ∀ {v : List (Key × V)} {d : List (Key × D)}, RepK w G v d → noFnK d = true → RepK w G' v d
  | _, _, .nil, _ => .nil
  | _, _, .cons h r, n => .cons (Rep.thaw t h (Bool.and_eq_true_iff.mp n).1) (RepK.thaw t r (Bool.and_eq_true_iff.mp n).2)
theorem RepT.thaw {w : Wd} {G G' : Hp} (t : Thaw G G') : ∀ {v : List (List Key × V)} {d : List (List Key × D)}, RepT w G v d → noFnT d = true → RepT w G' v d
  | _, _, .nil, _ => .nil
  | _, _, .cons h r, n => .cons (Rep.thaw t h (Bool.and_eq_true_iff.mp n).1) (RepT.thaw t r (Bool.and_eq_true_iff.mp n).2)
end
/-! ### a promise kept over the frozen heap -/
section
variable {w : Wd} {G H G' H' : Hp} {S : List (Addr × Obj)} {h : Heap}
theorem pre_frz (p : Pre w G H) (z : FzOk S H h) : Pre w (frzS G S) (frzS H S) := by
  refine ⟨fun a o e => ?_, fun β hβ => ?_⟩
  · cases q : S.lookup a with
    | none =>
      rw [frzS_out q] at e ⊢
      exact p.exG _ _ e
    | some ob =>
      rw [frzS_in q] at e ⊢
      exact e
  · obtain ⟨h1, h2, h3⟩ := p.bag β hβ
    have q : S.lookup β = none := by
      cases e : H β with
      | none => exact absurd e h2
      | some u => exact z.out e
    rw [frzS_out q, frzS_out q]
    refine ⟨h1, h2, ?_⟩
    obtain ⟨c, ns, i, r, m, n, e1, e2, e3⟩ := h3.ex
    refine ⟨c, ns, i, r, m, n, by rw [frzS_out q]; exact e1, ?_, e3⟩
    have ex : Ex G (frzS G S) := fun a o e => by
      rw [frzS_out (z.out (p.exG _ _ e))]
      exact e
    exact ex.l e2
theorem ex_frz (p : Pre w G H) (z : FzOk S H h) : Ex G (frzS G S) := fun a o e => by
  rw [frzS_out (z.out (p.exG _ _ e))]
  exact e
theorem thaw_del (fz : ∀ b o, S.lookup b = some o → G' b = some (.frz o (xO b o))) (nf : ∀ b o, S.lookup b = some o → ∀ vs, o.data ≠ .fields vs) : Thaw G' (delS G' S) := by
  refine ⟨fun a o e n => ?_, fun a o e hf => ?_⟩
  · cases q : S.lookup a with
    | none => rw [delS_out q]; exact e
    | some ob =>
      rw [fz a ob q] at e
      exact absurd (Option.some.inj e).symm (n ob)
  · cases q : S.lookup a with
    | none => rw [delS_out q]; exact e
    | some ob =>
      rw [fz a ob q] at e
      injection e with e
      injection e with e _
      subst e
      obtain ⟨vs, hv⟩ := hf
      exact absurd hv (nf a ob q vs)
theorem post_thaw (pre : Pre w G H) (z : FzOk S H h) (nf : ∀ b o, S.lookup b = some o → ∀ vs, o.data ≠ .fields vs) (p : Post w (frzS G S) (frzS H S) G' H') : Post w G H (delS G' S) (delS H' S) ∧ Thaw G' (delS G' S) := by
  have fz : ∀ b o, S.lookup b = some o → G' b = some (.frz o (xO b o)) := fun b o q => p.ex _ _ (frzS_in q)
  have t := thaw_del fz nf
  refine ⟨⟨fun a o e => ?_, fun a o e => ?_, fun a o n e => ?_, fun a e => ?_, fun β hβ => ?_⟩, t⟩
  · have q := z.out (pre.exG _ _ e)
    rw [delS_out q]
    exact p.ex _ _ (by rw [frzS_out q]; exact e)
  · cases q : S.lookup a with
    | none =>
      rw [delS_out q] at e ⊢
      exact p.exG _ _ e
    | some ob =>
      rw [delS_in q] at e
      cases e
  · have q := z.out e
    rw [delS_out q]
    exact p.keep a o n (by rw [frzS_out q]; exact e)
  · cases q : S.lookup a with
    | none =>
      rw [delS_out q] at e
      have x := p.new a e
      rw [frzS_out q, frzS_out q] at x
      exact x
    | some ob => exact absurd (delS_in q) e
  · obtain ⟨h1, h2, h3⟩ := p.bag β hβ
    have q : S.lookup β = none := by
      cases e : H β with
      | none => exact absurd e (pre.bag β hβ).2.1
      | some u => exact z.out e
    rw [delS_out q, delS_out q]
    refine ⟨h1, h2, ?_⟩
    obtain ⟨c, ns, i, r, m, n, e1, e2, e3⟩ := h3.ex
    refine ⟨c, ns, i, r, m, n, by rw [delS_out q]; exact e1, ?_, e3⟩
    rcases e2 with e2 | e2
    · exact .inl (t.rd e2 (fun o z => nomatch z) (fun o z => by unfold xO at z; cases z))
    · exact .inr e2
end
end Pu
set_option maxRecDepth 100000
set_option maxHeartbeats 2000000
/-! A run over the thawed heap, told over the frozen one -/
namespace Pu
open PySem L2 PySem.Spec PyProof.Rows
section
variable {P : Program} {w : World} {H H0 H' : Hp} {S : List (Addr × Obj)} {h h' : Heap} {fs : List Addr}
/-- H is H0 with S frozen -/
structure FzBy (S : List (Addr × Obj)) (H H0 : Hp) (h : Heap) : Prop where
  ok : FzOk S H0 h
  eq : H = frzS H0 S
theorem FzBy.of {h : Heap} (hok : HOk P w H h) (z : ∀ b o, S.lookup b = some o → H b = some (.frz o (xO b o))) : FzBy S H (delS H S) h := by
  refine ⟨fun b o q => ⟨delS_in q, (hok b _ (z b o q)).1⟩, funext fun b => ?_⟩
  cases q : S.lookup b with
  | none => rw [frzS_out q, delS_out q]
  | some o => rw [frzS_in q, z b o q]
theorem FzBy.out (z : FzBy S H H0 h) {b : Addr} (n : H b = none) : S.lookup b = none ∧ H0 b = none := by
  cases q : S.lookup b with
  | some o =>
    rw [z.eq, frzS_in q] at n
    cases n
  | none =>
    rw [z.eq, frzS_out q] at n
    exact ⟨rfl, n⟩
theorem FzBy.cases (z : FzBy S H H0 h) {b : Addr} {u : HO} (e : H b = some u) : (∃ o, S.lookup b = some o ∧ u = .frz o (xO b o)) ∨ (S.lookup b = none ∧ H0 b = some u) := by
  cases q : S.lookup b with
  | some o =>
    rw [z.eq, frzS_in q] at e
    exact .inl ⟨o, rfl, (Option.some.inj e).symm⟩
  | none =>
    rw [z.eq, frzS_out q] at e
    exact .inr ⟨rfl, e⟩
theorem un_back (u : Un fs [] H0 H' h h') (z : FzBy S H H0 h) (nf : ∀ b o, S.lookup b = some o → b ∉ fs) : Un fs [] H (frzS H' S) h h' where
  keep := fun b o e n hf hx => u.keep b o e (z.out n).2 hf hx
  slot := fun b o e n hf hx => u.slot b o e (z.out n).2 hf hx
  free := fun b o e n hx => by
    rw [frzS_out (z.out n).1]
    exact u.free b o e (z.out n).2 hx
  there := u.there
  tups := fun b xs e => by
    rcases z.cases e with ⟨o, q, y⟩ | ⟨q, y⟩
    · cases y
    · rw [frzS_out q]
      exact u.tups b xs y
  frzs := fun b o v e => by
    rcases z.cases e with ⟨o', q, y⟩ | ⟨q, y⟩
    · rw [frzS_in q, y]
    · rw [frzS_out q]
      exact u.frzs b o v y
  tbls := fun b ps e => by
    rcases z.cases e with ⟨o, q, y⟩ | ⟨q, y⟩
    · cases y
    · rw [frzS_out q]
      exact u.tbls b ps y
theorem fz_back (u : Un fs [] H0 H' h h') (z : FzBy S H H0 h) (nf : ∀ b o, S.lookup b = some o → b ∉ fs) : FzOk S H' h' := fun b o q => by
  obtain ⟨n, g⟩ := z.ok b o q
  exact ⟨u.free b o g n (fun y => nomatch y), u.keep b o g n (nf b o q) (fun y => nomatch y)⟩
theorem ce_back {outer : List Env} {s s' : Shared} {Q Q' : VK} {u : Value} (c : CE outer P w H0 s Q u s') (z : FzBy S H H0 s.heap) (nf : ∀ b o, S.lookup b = some o → b ∉ frs outer)
    (hQ : ∀ v H', FzOk S H' s'.heap → Q v H' → Q' v (frzS H' S)) : CE outer P w H s Q' u s' := by
  obtain ⟨v, H', os, bare, un, hok, r, q⟩ := c
  have f := fz_back un z nf
  exact ⟨v, frzS H' S, os, bare, un_back un z nf, hok_frzS hok f, r, hQ v H' f q⟩
theorem cx_back {outer : List Env} {s s' : Shared} {E E' : XK} {u : Value} (c : L2.CX P w outer H0 s E u s') (z : FzBy S H H0 s.heap) (nf : ∀ b o, S.lookup b = some o → b ∉ frs outer)
    (hE : ∀ cls d H' B, FzOk S H' B → HOk P w H' B → E cls d H' → E' cls d (frzS H' S)) : L2.CX P w outer H s E' u s' := by
  obtain ⟨a, B, H', cls, d, rfl, fl, hok, ub, na, os, ag, he⟩ := c
  have f : FzOk S H' B := fun b o q => by
    obtain ⟨n, g⟩ := z.ok b o q
    exact ⟨ub.free b o g n, ub.keep b o g n (nf b o q)⟩
  have nS : S.lookup a = none := by
    cases q : S.lookup a with
    | none => rfl
    | some o =>
      have g := (f a o q).2
      rw [fl.2.1] at g
      cases g
  refine ⟨a, B, frzS H' S, cls, d, rfl, fl, hok_frzS hok f, ⟨fun b o e n hf => ub.keep b o e (z.out n).2 hf, ub.slot, fun b o e n => ?_, ub.there, fun b xs e => ?_, fun b o v e => ?_, fun b ps e => ?_⟩, by rw [frzS_out nS]; exact na, os, ag, hE cls d H' B f hok he⟩
  · rw [frzS_out (z.out n).1]
    exact ub.free b o e (z.out n).2
  · rcases z.cases e with ⟨o, q, y⟩ | ⟨q, y⟩
    · cases y
    · rw [frzS_out q]
      exact ub.tups b xs y
  · rcases z.cases e with ⟨o', q, y⟩ | ⟨q, y⟩
    · rw [frzS_in q, y]
    · rw [frzS_out q]
      exact ub.frzs b o v y
  · rcases z.cases e with ⟨o, q, y⟩ | ⟨q, y⟩
    · cases y
    · rw [frzS_out q]
      exact ub.tbls b ps y
theorem env0_thaw {K : PySem.W.Frag} {mg : Str → Option Value} {base : Heap} {A : Around} {outer : List Env} {s : Shared} (e : Env0 P w K mg base A outer s H) (z : FzBy S H H0 s.heap) (e0 : HOk P w H0 s.heap) : Env0 P w K mg base A outer s H0 :=
  ⟨e.frames, e.mod, fun b o q => ⟨(e.bs b o q).1, (z.out (e.bs b o q).2).2⟩, e.bsz, e.funs, fun b hb => (z.out (e.frf b hb)).2, e0, e.bare⟩
theorem env0_frz {K : PySem.W.Frag} {mg : Str → Option Value} {base : Heap} {A : Around} {outer : List Env} {s : Shared} (e : Env0 P w K mg base A outer s H0) (z : FzOk S H0 s.heap) (nb : ∀ b o, S.lookup b = some o → base.get? b = none) (nf : ∀ b o, S.lookup b = some o → b ∉ frs outer) : Env0 P w K mg base A outer s (frzS H0 S) :=
  ⟨e.frames, e.mod, fun b o q => ⟨(e.bs b o q).1, by
    have n : S.lookup b = none := by
      cases y : S.lookup b with
      | none => rfl
      | some o' => rw [nb b o' y] at q; cases q
    rw [frzS_out n]
    exact (e.bs b o q).2⟩, e.bsz, e.funs, fun b hb => by
    have n : S.lookup b = none := by
      cases y : S.lookup b with
      | none => rfl
      | some o' => exact absurd hb (nf b o' y)
    rw [frzS_out n]
    exact e.frf b hb, hok_frzS e.hok z, e.bare⟩
end
end Pu
set_option maxRecDepth 100000
set_option maxHeartbeats 2000000
/-! Lambdas handed on: called -/
namespace Pu
open PySem L2 PySem.Spec PyProof.Rows
section
variable {w : Wd} {G H G' H' : Hp} {S : List (Addr × Obj)} {h h' : Heap}
/-- S is frozen in G -/
def InS (G : Hp) (S : List (Addr × Obj)) : Prop := ∀ b o, S.lookup b = some o → G b = some (.frz o (xO b o))
theorem pre_del (p : Pre w G H) (z : InS G S) (nf : ∀ b o, S.lookup b = some o → ∀ vs, o.data ≠ .fields vs) : Pre w (delS G S) (delS H S) := by
  refine ⟨fun a o e => ?_, fun β hβ => ?_⟩
  · cases q : S.lookup a with
    | none => rw [delS_out q] at e ⊢; exact p.exG _ _ e
    | some ob => rw [delS_in q] at e; cases e
  · obtain ⟨h1, h2, h3⟩ := p.bag β hβ
    have q : S.lookup β = none := by
      cases e : S.lookup β with
      | none => rfl
      | some o => rw [z β o e] at h1; cases h1
    rw [delS_out q, delS_out q]
    refine ⟨h1, h2, ?_⟩
    obtain ⟨c, ns, i, r, m, n, e1, e2, e3⟩ := h3.ex
    refine ⟨c, ns, i, r, m, n, by rw [delS_out q]; exact e1, ?_, e3⟩
    rcases e2 with e2 | e2
    · exact .inl ((thaw_del z nf).rd e2 (fun o z => nomatch z) (fun o z => by unfold xO at z; cases z))
    · exact .inr e2
theorem ex_back (p : Pre w G' H') (f : FzOk S H' h') : Ex G' (frzS G' S) := fun a o e => by
  rw [frzS_out (f.out (p.exG _ _ e))]
  exact e
theorem post_back (pre : Pre w G H) (z : InS G S) (f : FzOk S H' h') (p : Post w (delS G S) (delS H S) G' H') : Post w G H (frzS G' S) (frzS H' S) := by
  have zH : InS H S := fun b o q => pre.exG _ _ (z b o q)
  have eg := ex_back p.pre f
  refine ⟨fun a o e => ?_, fun a o e => ?_, fun a o n e => ?_, fun a e => ?_, fun β hβ => ?_⟩
  · cases q : S.lookup a with
    | some ob => rw [z a ob q] at e; rw [frzS_in q]; exact e
    | none => rw [frzS_out q]; exact p.ex _ _ (by rw [delS_out q]; exact e)
  · cases q : S.lookup a with
    | some ob => rw [frzS_in q] at e ⊢; exact e
    | none => rw [frzS_out q] at e ⊢; exact p.exG _ _ e
  · cases q : S.lookup a with
    | some ob => rw [zH a ob q] at e; rw [frzS_in q]; exact e
    | none => rw [frzS_out q]; exact p.keep a o n (by rw [delS_out q]; exact e)
  · cases q : S.lookup a with
    | some ob => exact .inl (by rw [z a ob q]; simp)
    | none =>
      rw [frzS_out q] at e
      have x := p.new a e
      rw [delS_out q, delS_out q] at x
      exact x
  · obtain ⟨h1, h2, h3⟩ := p.bag β hβ
    have q : S.lookup β = none := by
      cases e : H' β with
      | none => exact absurd e h2
      | some u => exact f.out e
    rw [frzS_out q, frzS_out q]
    refine ⟨h1, h2, ?_⟩
    obtain ⟨c, ns, i, r, m, n, e1, e2, e3⟩ := h3.ex
    exact ⟨c, ns, i, r, m, n, by rw [frzS_out q]; exact e1, eg.l e2, e3⟩
end
/-! ### what lambdas keep -/
abbrev LT := Lam → List (Str × D) → (D → Prop) → (DX → Prop) → Prop
def LamKeeps (P : Program) (w : World) (K : PySem.W.Frag) (mg : Str → Option Value) (base : Heap) (k : Nat) (L : LT) : Prop :=
  ∀ (l : Lam) (cs : List (Str × D)) (Pd : D → Prop) (R : DX → Prop), L l cs Pd R →
    ∀ (A : Around) (outer : List Env) (s : Shared) (H G : Hp) (b : Option Addr) (f : Addr) (cv : List (Str × V)) (Q : VK) (E : XK), Room k A → Env0 P w K mg base A outer s H → Pre ⟨K, mg, b⟩ G H → LamAt G f l cv → RepF ⟨K, mg, b⟩ G cv cs →
      (∀ d v G' H', Pd d → Post ⟨K, mg, b⟩ G H G' H' → Rep ⟨K, mg, b⟩ G' v d → Q v H') → (∀ x cls dct G' H', R x → Post ⟨K, mg, b⟩ G H G' H' → RX ⟨K, mg, b⟩ G' x cls dct → E cls dct H') →
      codeAny (model P w) A (.call (.ref f) ⟨[], []⟩) (CR (L2.CX P w) outer P w H s Q E) s
/-! ### a() , a a lambda -/
def wCallFn (L : LT) (i : Nat) : WE := fun env P R => match env[i]? with
  | some (.v (.fn l cs)) => L l cs (fun d => P d env) (fun x => R x env)
  | _ => False
section
variable {X : Cx} {W : WX} {k i : Nat} {L : LT} {a : Str} {p1 p2 : Pos}
theorem px_callFn (HL : LamKeeps X.prog X.w X.K X.mg X.base k L) (hr : Room k X.A) (tk : Takes X W) (hN : X.N[i]? = some a) (hv : Vis X.env.scope a) (hd : (a == ("__debug__" : Str)) = false := by decide) (hcd : (a == ("__classdict__" : Str)) = false := by decide) :
    PX X W (.Call (.Name a p1) [] [] p2) (wCallFn L i) := by
  refine ⟨⟨fun σ H Q => ∃ (f : Addr) (l : Lam) (cs : List (Str × D)) (Pd : D → Prop) (R : DX → Prop) (G : Hp) (b : Option Addr) (cv : List (Str × V)), σ[i]? = some (some (.ref f)) ∧ L l cs Pd R ∧ Pre ⟨X.K, X.mg, b⟩ G H ∧ LamAt G f l cv ∧ RepF ⟨X.K, X.mg, b⟩ G cv cs ∧
      (∀ d v G' H', Pd d → Post ⟨X.K, X.mg, b⟩ G H G' H' → Rep ⟨X.K, X.mg, b⟩ G' v d → Q v H') ∧ (∀ x cls dct G' H', R x → Post ⟨X.K, X.mg, b⟩ G H G' H' → RX ⟨X.K, X.mg, b⟩ G' x cls dct → W cls dct σ H'),
    ⟨fun pins s σ H Q I h => ?_⟩, fun Fc' env σ G H P R Q hx hs hw hq hk => ?_⟩⟩
  · obtain ⟨f, l, cs, Pd, R, G, b, cv, hσ, hL, pre, la, rf, h1, h2⟩ := h
    refine wpAny_Call_Name_kw (thn ((pe_var (pos := p1) (i := i) hN hv hd hcd).run pins s σ H (fun v H1 => v = .ref f ∧ H1 = H) I ⟨.ref f, hσ, rfl, rfl⟩) fun u s1 ⟨v, H1, I1, r1, ev, eH⟩ => ?_)
    subst ev
    subst eH
    obtain rfl : u = Value.ref f := r1
    obtain ⟨pm, doc, dV, c', ctv, o, ho, gf, _⟩ := id la
    have of1 := (I1.hok f _ (pre.exG _ _ gf)).1
    rw [ho] at of1
    refine PySem.W.callWith_F0 ⟨_, _, _, _, of1⟩ ?_
    refine wpAny_call (codeAny_mono (HL l cs Pd R hL X.A X.stack s1 H1 G b f cv Q (L2.WE W σ) hr I1.env0 pre la rf h1 h2) fun r s' hq => ?_)
    cases r with
    | error e => exact passAt tk σ pins H1 s1 e s' I1 hq
    | ok fl =>
      cases fl with
      | ret u => exact I1.after hq
      | next => exact False.elim hq
      | brk => exact False.elim hq
      | cont => exact False.elim hq
  · unfold wCallFn at hw
    cases e : env[i]? with
    | none => rw [e] at hw; exact hw.elim
    | some sl =>
      rw [e] at hw
      cases sl with
      | v d =>
        cases d <;> first | exact hw.elim | skip
        rename_i l cs
        obtain ⟨v, h1, h2⟩ := hs.sl i _ e
        cases h2 with
        | fn la rf =>
          obtain ⟨⟨K, mg, b⟩, G0, H0, pins, self, tabs⟩ := Fc'
          obtain ⟨x1, x2, _⟩ := hx
          cases x1
          cases x2
          exact ⟨_, l, cs, _, _, G, b, _, h1, hw, hs.pre, la, rf, fun d v G' H' p po r => hq d env v G' H' p (hs.step po) po.ex r, fun x cls dct G' H' p po r => hk x env cls dct G' H' p (hs.step po) r⟩
      | no => exact hw.elim
      | ol l => exact hw.elim
      | fz d => exact hw.elim
end
/-! ### a lambda's body, run -/
abbrev lamE (l : Lam) (L f c' : Addr) : Env := PySem.W.envX l.q l.scope L f (.ref c') l.cl
def lamCxL (P : Program) (w : World) (K : PySem.W.Frag) (mg : Str → Option Value) (base : Heap) (l : Lam) (f c' : Addr) (A : Around) (outer : List Env) (s : Shared) (H : Hp) (E : XK) : Cx where
  prog := P
  w := w
  K := K
  mg := mg
  base := base
  A := A.deeper (lamE l s.heap.objs.size f c')
  N := l.cl.map (·.1)
  s_0 := s
  H_0 := H
  env := lamE l s.heap.objs.size f c'
  outer := outer
  stack := lamE l s.heap.objs.size f c' :: outer
  ex := []
  fn := fun _ => false
  calm := true
  pn := []
  xe := fun e s' => wpAny (model P w) (A.deeper (lamE l s.heap.objs.size f c')) (leaving (lamE l s.heap.objs.size f c') e) (fun _ s'' => L2.CX P w outer H s E e s'') (fun e' s'' => L2.CX P w outer H s E e' s'') s'
structure LamSc (l : Lam) : Prop where
  kind : l.scope.kind = .function
  co : l.scope.isCoroutine = false
  gen : l.scope.isGenerator = false
  own : ∀ y ∈ l.scope.names, y.2 ≠ .cell
  vis : ∀ y ∈ l.cl, l.scope.names.lookup y.1 = some .free
  free : ∀ y ∈ l.scope.names, y.2 = .free → ∃ c, l.cl.lookup y.1 = some c
  nd : (l.cl.map (·.1)).Nodup
  nl : (l.cl.map (·.1)).contains ("<lambda>" : Str) = false
/-- a call without arguments binds -/
def LamBd (l : Lam) : Prop := ∀ (s : Shared) (pm doc dV cv ctv : Value), (l.params.defaults = [] ∧ dV = .none) ∨ (∃ (t : Addr) (u : Value), dV = .ref t ∧ RelV (.int 0) u ∧ l.params.defaults.length = 1 ∧ s.heap.get? t = some (PySem.W.kdv_tup [u])) →
  ∃ binds, BindsTo s (PySem.W.kdv_fn "<lambda>" l.q l.params (.expr l.body) l.scope l.cl dV doc pm cv ctv) ⟨[], []⟩ binds ∧ ∀ y ∈ binds, l.scope.names.lookup y.1 = some .local
theorem repF_reps {w : Wd} {G : Hp} : ∀ {cv : List (Str × V)} {cs : List (Str × D)}, RepF w G cv cs → Reps w G (cv.map (·.2)) (cs.map (·.2))
  | _, _, .nil => .nil
  | _, _, .cons r t => .cons r (repF_reps t)
theorem repF_names {w : Wd} {G : Hp} : ∀ {cv : List (Str × V)} {cs : List (Str × D)}, RepF w G cv cs → cv.map (·.1) = cs.map (·.1)
  | _, _, .nil => rfl
  | _, _, .cons r t => by rw [List.map_cons, List.map_cons, repF_names t]
theorem look_nd : ∀ {cl : List (Str × Addr)} {x : Str} {c : Addr}, (cl.map (·.1)).Nodup → (x, c) ∈ cl → cl.lookup x = some c
  | (y, d) :: cl, x, c, nd, h => by
    rw [List.lookup_cons]
    rcases List.mem_cons.mp h with h | h
    · cases h
      simp
    · have n := List.nodup_cons.mp nd
      have ne : x ≠ y := fun z => n.1 (by rw [← z]; exact List.mem_map.mpr ⟨_, h, rfl⟩)
      have e : (x == y) = false := by simpa using ne
      rw [e]
      exact look_nd n.2 h
theorem memA : ∀ {l : List (Addr × Obj)} {b : Addr} {o : Obj}, l.lookup b = some o → (b, o) ∈ l
  | [], _, _, h => by simp at h
  | (y, d) :: l, b, o, h => by
    rw [List.lookup_cons] at h
    cases e : b == y with
    | true =>
      rw [e] at h
      cases h
      rw [eq_of_beq e]
      exact List.mem_cons_self ..
    | false =>
      rw [e] at h
      exact List.mem_cons_of_mem _ (memA h)
theorem lookA : ∀ {l : List (Addr × Obj)} {b : Addr} {o : Obj}, (b, o) ∈ l → ∃ o', l.lookup b = some o'
  | [], _, _, h => by simp at h
  | (y, d) :: l, b, o, h => by
    rw [List.lookup_cons]
    cases e : b == y with
    | true => exact ⟨_, rfl⟩
    | false =>
      rcases List.mem_cons.mp h with h | h
      · cases h
        simp at e
      · exact lookA h
/-- the cells' objects -/
def cellS (cl : List (Str × Addr)) (h : Heap) : List (Addr × Obj) := cl.filterMap fun q => (h.get? q.2).map fun o => (q.2, o)
theorem cellS_mem {cl : List (Str × Addr)} {h : Heap} {b : Addr} {o : Obj} (e : (cellS cl h).lookup b = some o) : (∃ x, (x, b) ∈ cl) ∧ h.get? b = some o := by
  have m := memA e
  unfold cellS at m
  obtain ⟨q, hq, e2⟩ := List.mem_filterMap.mp m
  obtain ⟨o', e3, e4⟩ := Option.map_eq_some_iff.mp e2
  cases e4
  exact ⟨⟨q.1, hq⟩, e3⟩
theorem cellS_has : ∀ {cl : List (Str × Addr)} {h : Heap} {x : Str} {b : Addr} {o : Obj}, (x, b) ∈ cl → h.get? b = some o → ∃ o', (cellS cl h).lookup b = some o' := fun {cl h x b o} hm e => by
  have m : (b, o) ∈ cellS cl h := List.mem_filterMap.mpr ⟨(x, b), hm, by rw [e]; rfl⟩
  exact lookA m
section
variable {P : Program} {w : World} {K : PySem.W.Frag} {mg : Str → Option Value} {base : Heap} {k : Nat} {l : Lam} {Lc : List (Str × D) → (D → Prop) → (DX → Prop) → Prop}
theorem lam_run (LS : LamSc l) (hbind : LamBd l)
    (hbody : ∀ (A : Around) (outer : List Env) (s : Shared) (H : Hp) (E : XK) (f c' : Addr), Room k (A.deeper (lamE l s.heap.objs.size f c')) → ∃ wb : WE, PX (lamCxL P w K mg base l f c' A outer s H E) (WDef E) l.body wb ∧
      ∀ cs Pd R, Lc cs Pd R → wb (cs.map fun p => .v p.2) (fun d _ => Pd d) (fun x _ => R x))
    {cs : List (Str × D)} {Pd : D → Prop} {R : DX → Prop} (hL : Lc cs Pd R) (hn : cs.map (·.1) = l.cl.map (·.1)) (hno : noFnF cs = true)
    {A : Around} {outer : List Env} {s : Shared} {H G : Hp} {b : Option Addr} {f : Addr} {cv : List (Str × V)} {Q : VK} {E : XK} (hr : Room (k + 1) A) (e0 : Env0 P w K mg base A outer s H) (pre : Pre ⟨K, mg, b⟩ G H) (la : LamAt G f l cv) (rf : RepF ⟨K, mg, b⟩ G cv cs)
    (h1 : ∀ d v G' H', Pd d → Post ⟨K, mg, b⟩ G H G' H' → Rep ⟨K, mg, b⟩ G' v d → Q v H') (h2 : ∀ x cls dct G' H', R x → Post ⟨K, mg, b⟩ G H G' H' → RX ⟨K, mg, b⟩ G' x cls dct → E cls dct H') :
    codeAny (model P w) A (.call (.ref f) ⟨[], []⟩) (CR (L2.CX P w) outer P w H s Q E) s := by
  obtain ⟨pm, doc, dV, c', ctv, o, ho, gf, gc, inj, df, cells⟩ := id la
  have of1 := (e0.hok f _ (pre.exG _ _ gf)).1
  rw [ho] at of1
  obtain ⟨⟨oc, vs, t, hoc, hdc, hvc⟩, _, _⟩ := e0.hok c' _ (pre.exG _ _ gc)
  have nv : cv.map (·.1) = l.cl.map (·.1) := (repF_names rf).trans hn
  have cell : ∀ {x : Str} {c : Addr}, (x, c) ∈ l.cl → ∃ (v : V) (oc : Obj) (u : Value), (x, v) ∈ cv ∧ G c = some (.frz oc (xO c oc)) ∧ oc.data = .cell (some u) ∧ RelV v u := fun {x c} hm => by
    have hx : x ∈ cv.map (·.1) := by rw [nv]; exact List.mem_map.mpr ⟨_, hm, rfl⟩
    obtain ⟨p, hp, e⟩ := List.mem_map.mp hx
    obtain ⟨y, v⟩ := p
    cases e
    obtain ⟨c2, oc, u, a1, a2, a3, a4⟩ := cells _ hp
    rw [look_nd LS.nd hm] at a1
    cases a1
    exact ⟨v, oc, u, hp, a2, a3, a4⟩
  have zG : InS G (cellS l.cl s.heap) := fun b o e => by
    obtain ⟨⟨x, hm⟩, g⟩ := cellS_mem e
    obtain ⟨v, oc, u, _, a2, _, _⟩ := cell hm
    have := (e0.hok b _ (pre.exG _ _ a2)).1
    rw [g] at this
    cases this
    exact a2
  have zD : ∀ b o, (cellS l.cl s.heap).lookup b = some o → ∃ v, o.data = .cell v := fun b o e => by
    obtain ⟨⟨x, hm⟩, g⟩ := cellS_mem e
    obtain ⟨v, oc, u, _, a2, a3, _⟩ := cell hm
    have := (e0.hok b _ (pre.exG _ _ a2)).1
    rw [g] at this
    cases this
    exact ⟨_, a3⟩
  have nfd : ∀ b o, (cellS l.cl s.heap).lookup b = some o → ∀ vs, o.data ≠ .fields vs := fun b o e vs z => by
    obtain ⟨v, h⟩ := zD b o e
    rw [z] at h
    cases h
  have zH : ∀ b o, (cellS l.cl s.heap).lookup b = some o → H b = some (.frz o (xO b o)) := fun b o e => pre.exG _ _ (zG b o e)
  have by_ := FzBy.of e0.hok zH
  have nfr : ∀ b o, (cellS l.cl s.heap).lookup b = some o → b ∉ frs outer := fun b o e hm => by
    have := e0.frf b hm
    rw [zH b o e] at this
    cases this
  have e1 : Env0 P w K mg base A outer s (delS H (cellS l.cl s.heap)) := env0_thaw e0 by_ (hok_delS e0.hok zH)
  have pre0 := pre_del pre zG nfd
  have th : Thaw G (delS G (cellS l.cl s.heap)) := thaw_del zG nfd
  have rf0 := RepF.thaw th rf hno
  have hlen : (cv.map (·.2)).length = (l.cl.map (·.1)).length := by
    have := congrArg List.length nv
    simpa using this
  have main : codeAny (model P w) A (.call (.ref f) ⟨[], []⟩) (CR (L2.CX P w) outer P w (delS H (cellS l.cl s.heap)) s (fun v H' => ∀ B, FzOk (cellS l.cl s.heap) H' B → Q v (frzS H' (cellS l.cl s.heap)))
      (fun cls d H' => ∀ B, FzOk (cellS l.cl s.heap) H' B → E cls d (frzS H' (cellS l.cl s.heap)))) s := by
    have lim : s.heap.NoLimit := e0.mod.nolimit.keeps fun b o q => (e0.bs b o q).1
    refine PySem.W.kla_callFunE hr.depth of1 rfl LS.co LS.gen rfl ⟨c', oc, vs, t, rfl, hoc, hdc, hvc⟩ ?_
    obtain ⟨binds, hb1, hb2⟩ := hbind s pm doc dV (.ref c') ctv (by
      rcases df with z | ⟨t, u, z1, z2, z3, z4⟩
      · exact .inl z
      · exact .inr ⟨t, u, z1, z2, z3, (e0.hok t _ (pre.exG _ _ z4)).1⟩)
    refine hb1 _ _ _ _ (wpAny_newFunctionEnv LS.own hb2 (fun h₁ hns hsb => ⟨lim.fresh _ hsb, ?_⟩) LS.kind)
    show codeAny _ _ (.expr l.body (lamE l s.heap.objs.size f c')) _ _
    have kp : ∀ b o, s.heap.get? b = some o → h₁.get? b = some o := fun b o e => hsb.extBut b o (Nat.ne_of_lt (Heap.lt_size e)) (Heap.get?_push_of_some _ e)
    obtain ⟨wb, hb, hw⟩ := hbody A outer s (delS H (cellS l.cl s.heap)) (fun cls d H' => ∀ B, FzOk (cellS l.cl s.heap) H' B → E cls d (frzS H' (cellS l.cl s.heap))) f c' (hr.deeper _)
    obtain ⟨tt, t1, t2⟩ := hb.ex
    have noA : ∀ b : Addr, b ∉ ([] : List Addr) := fun b z => nomatch z
    have J : Inv (lamCxL P w K mg base l f c' A outer s (delS H (cellS l.cl s.heap)) (fun cls d H' => ∀ B, FzOk (cellS l.cl s.heap) H' B → E cls d (frzS H' (cellS l.cl s.heap)))) [] (L2.start (l.cl.map (·.1)) (cv.map (·.2))) (delS H (cellS l.cl s.heap)) { s with heap := h₁, toks := s.toks + binds.length } := by
      refine ⟨⟨e1.mod, LS.kind, rfl, rfl, Nat.le_refl _, fun y z c a1 a2 => inj y z c a1 a2, fun y hy => ?_, fun y c z _ => ?_, fun _ => hr.hd, Around.frames_deeper e1.frames, .inr ⟨rfl, rfl⟩, fun b z => absurd z (noA b), e1.bs, e1.bsz, fun b _ _ => noA b, fun b z => absurd z (noA b), e1.funs, e1.frf⟩,
        rfl, e1.bare, Un.kept kp, ⟨_, hns, fun i y v a1 a2 a3 => ?_⟩, fun y c e => ?_, e1.hok.fresh (Nat.le_refl _), fun y c e => ?_, fun q hq => absurd (show q ∈ ([] : List (Addr × Obj)) ++ [] from hq) (by simp), e1.hok.kept kp, ?_⟩
      · have hy : l.scope.names.lookup y = some .cell ∨ l.scope.names.lookup y = some .free := hy
        rcases hy with hy | hy
        · exact absurd rfl (LS.own _ (PySem.mem_of_lookup hy))
        · exact LS.free _ (PySem.mem_of_lookup hy) rfl
      · have z : false = true := z
        cases z
      · have a3 : Vis l.scope y := a3
        have hf : l.scope.names.lookup y = some .free := by
          obtain ⟨q, hq, e⟩ := List.mem_map.mp (List.mem_of_getElem? (show (l.cl.map (·.1))[i]? = some y from a1))
          rw [← e]
          exact LS.vis q hq
        have a1 : (l.cl.map (·.1))[i]? = some y := a1
        rw [← nv, List.getElem?_map] at a1
        obtain ⟨p, hp, e⟩ := Option.map_eq_some_iff.mp a1
        have hv : p.2 = v := by
          unfold L2.start at a2
          have hi : i < ((cv.map (·.2)).map some).length := by
            have := (List.getElem?_eq_some_iff.mp hp).1
            simpa using this
          rw [List.getElem?_append_left hi, List.getElem?_map, List.getElem?_map, hp] at a2
          have a2 : some (some p.2) = some (some v) := a2
          injection a2 with a2
          injection a2
        obtain ⟨c, oc, u, b1, b2, b3, b4⟩ := cells p (List.mem_of_getElem? hp)
        rw [e] at b1
        rw [hv] at b4
        exact ⟨u, b4, .inr ⟨.inr hf, c, b1, oc, kp _ _ (e0.hok c _ (pre.exG _ _ b2)).1, b3⟩⟩
      · obtain ⟨v, oc, u, _, b2, b3, _⟩ := cell (PySem.mem_of_lookup e)
        exact ⟨_, oc, kp _ _ (e0.hok c _ (pre.exG _ _ b2)).1, b3⟩
      · obtain ⟨v, oc, u, _, b2, b3, _⟩ := cell (PySem.mem_of_lookup e)
        obtain ⟨o', h'⟩ := cellS_has (PySem.mem_of_lookup e) (e0.hok c _ (pre.exG _ _ b2)).1
        exact delS_in h'
      · unfold L2.start
        show _ = (l.cl.map (·.1)).length
        rw [List.length_append, List.length_map, List.length_replicate, hlen]
        omega
    have es : startE (l.cl.map (·.1)).length (cs.map (·.2)) = cs.map fun p => .v p.2 := by
      unfold startE
      have : (cs.map (·.2)).length = (l.cl.map (·.1)).length := by
        have := congrArg List.length hn
        simpa using this
      rw [this, Nat.sub_self]
      simp
    have ht := t2 { wd := ⟨K, mg, b⟩, G0 := delS G (cellS l.cl s.heap), H0 := delS H (cellS l.cl s.heap) } (startE (l.cl.map (·.1)).length (cs.map (·.2))) (L2.start (l.cl.map (·.1)) (cv.map (·.2))) (delS G (cellS l.cl s.heap)) (delS H (cellS l.cl s.heap)) (fun d _ => Pd d) (fun x _ => R x)
      (fun v H' => ∀ B, FzOk (cellS l.cl s.heap) H' B → Q v (frzS H' (cellS l.cl s.heap))) (XOk.mk' LS.nl rfl rfl) (start_si _ pre0 (repF_reps rf0)) (by rw [es]; exact hw cs Pd R hL)
      (fun d e' v G' H' p s1 x r B fz => h1 d v _ _ p (post_back pre zG fz s1.post) (r.mono (ex_back s1.pre fz)))
      (fun x e' cls d G' H' p s1 rx B fz => h2 x cls d _ _ p (post_back pre zG fz s1.post) (by
        obtain ⟨C, a, fv, q1, q2, q3, q4, q5, q6⟩ := rx.ex
        have ex := ex_back s1.pre fz
        exact ⟨C, a, fv, q1, q2, q3, q4, ex _ _ q5, q6.mono ex⟩))
    refine PySem.W.kla_codeExpr (wpAny_mono (t1.run [] _ _ _ _ J ht) (fun v s' hq => ?_) fun e s' hq => hq)
    obtain ⟨w', H', J', rv, q⟩ := hq
    exact ⟨w', H', J'.os, J'.bare, J'.base, J'.hok, rv, q⟩
  refine codeAny_mono main fun r s' hq => ?_
  cases r with
  | error e => exact cx_back hq by_ nfr fun cls d H' B fz _ he => he B fz
  | ok fl =>
    cases fl with
    | ret u => exact ce_back hq by_ nfr fun v H' fz h => h _ fz
    | next => exact False.elim hq
    | brk => exact False.elim hq
    | cont => exact False.elim hq
end
end Pu
set_option maxRecDepth 100000
set_option maxHeartbeats 2000000
/-! Lambdas: made -/
namespace Pu
open PySem L2 PySem.Spec PyProof.Rows PuExc
section
variable {X : Cx} {pins : List (Addr × Obj)} {σ : L2.St} {H : Hp} {s : Shared}
abbrev lamQ (X : Cx) : Str := X.env.qual ++ "<lambda>"
/-- the object at f is new -/
theorem fresh_fr (I : Inv X pins σ H s) {f : Addr} (hf : s.heap.objs.size ≤ f) : f ≠ X.env.locals ∧ X.s_0.heap.get? f = none ∧ (∀ p ∈ X.pn ++ pins, p.1 ≠ f) ∧ H f = none := by
  refine ⟨Nat.ne_of_gt (Nat.lt_of_lt_of_le I.lt hf), Heap.get?_none_of_le (Nat.le_trans I.sz hf), fun p hp z => ?_, I.hok.fresh hf⟩
  have := Heap.lt_size (I.pin p hp).1
  rw [z] at this
  exact Nat.lt_irrefl _ (Nat.lt_of_lt_of_le this hf)
theorem lam_tail {c P : Addr} {params : Arguments} {body : Expr} {scope : Scope} {pos : Pos} {dV : Value} {fl : Nat} {ps : Array Value} {E : Value → Shared → Prop} {Q : Value → Shared → Prop} (I : Inv X pins σ H s) (TB : LamX.TabB X.base X.mg c P) (hcode : X.env.code = .ref c)
    (hP : H P = some (.tbl ps)) (ht : TriplesOk ps.toList) (hfree : ∀ y ∈ scope.names, y.2 = .free → ∃ c, X.env.cells.lookup y.1 = some c)
    (hit : ∀ (cv : Value) (f : Addr) (pm doc ctv : Value) (s' : Shared), codeAmong pos ps.toList = some cv → Inv X pins σ H s' → s.heap.objs.size ≤ f →
      s'.heap.get? f = some { cls := .type "function", data := .func (PySem.W.kdv_fn "<lambda>" (lamQ X) params (.expr body) scope (cloFrom X.env.cells scope.names []) dV doc pm cv ctv) } → Q (.ref f) s')
    (new : ∀ (f c' : Addr) (pm doc ctv : Value) (s' : Shared), Inv X pins σ (upd (upd H P (.tbl (ps ++ #[rawInt pos.line, rawInt pos.col, .ref c']))) c' (LamX.CodeO c' (lamQ X))) s' → s.heap.objs.size ≤ c' → c' < f →
      s'.heap.get? f = some { cls := .type "function", data := .func (PySem.W.kdv_fn "<lambda>" (lamQ X) params (.expr body) scope (cloFrom X.env.cells scope.names []) dV doc pm (.ref c') ctv) } → Q (.ref f) s') :
    wpAny (model X.prog X.w) X.A (makeTail "<lambda>" (lamQ X) params (.expr body) scope X.env dV .none none pos fl) Q E s := by
  have hB := TB.bm.keeps I.bk
  have hPo : s.heap.get? P = some { cls := .none, data := .fields ps } := I.hok P _ hP
  cases hc : codeAmong pos ps.toList with
  | some cv =>
    refine PySem.W.kdv_makeTailHit (mg := X.mg) (c := c) (P := P) (ps := ps) (closure_ok hfree) I.ok.glob (I.mod.glob.keeps I.bk) hcode (TB.code.keeps I.bk) hPo ht hc hB ?_
    intro ctv doc h' tk hx hsz
    refine hit cv h'.objs.size _ doc ctv _ hc (I.kept ?_) hsz (Heap.get?_push_size _ rfl)
    intro b o e
    exact Heap.get?_push_of_some _ (hx b o e)
  | none =>
    refine PySem.W.kdv_makeTail (mg := X.mg) (c := c) (P := P) (ps := ps) (closure_ok hfree) I.ok.glob (I.mod.glob.keeps I.bk) hcode (TB.code.keeps I.bk) hPo ht hc TB.gP hB ?_
    intro c' ctv doc h' tk hx hge hlt hrec htb
    obtain ⟨c2, oc, vs, t, e2, hoc, hd, hv⟩ := hrec
    cases e2
    refine new h'.objs.size c' _ doc ctv _ (LamX.inv_table (more := #[rawInt pos.line, rawInt pos.col, .ref c']) I hP ?_ (Heap.get?_push_of_some _ htb) hge ⟨oc, vs, t, Heap.get?_push_of_some _ hoc, hd, hv⟩) hge hlt (Heap.get?_push_size _ rfl)
    intro b o hb e
    exact Heap.get?_push_of_some _ (hx b o hb e)
end
/-! ### the frame behind it -/
section
variable {F : Fc} {env : En} {σ : L2.St} {G H : Hp}
theorem SI.tabs0 (h : SI F env σ G H) : SI { F with tabs := [] } env σ G H := ⟨h.pre0, h.post, h.len, h.sl, h.ap, h.pin, tabs_nil, h.pt⟩
theorem SI.tabsOf (h : SI { F with tabs := [] } env σ G H) (t : TabG F.tabs G H) : SI F env σ G H := ⟨h.pre0, h.post, h.len, h.sl, h.ap, h.pin, t, h.pt⟩
/-- the table is written -/
theorem SI.tblUp {P : Addr} {ps ps' : Array Value} (h : SI F env σ G H) (hP : H P = some (.tbl ps)) (h0 : F.H0 P = none) (hG : G P = none) (hpn : ∀ p ∈ F.pins, ∀ q, p.2 ≠ .tbl q) : SI { F with tabs := [] } env σ G (upd H P (.tbl ps')) := by
  have ne : ∀ {a : Addr} {o : HO}, H a = some o → (∀ q, o ≠ .tbl q) → a ≠ P := fun {a o} e n z => by
    rw [z, hP] at e
    exact n ps (Option.some.inj e).symm
  refine ⟨h.pre0, ⟨h.post.ex, fun x u hx => ?_, fun x u nb hx => ?_, h.post.new, fun β hβ => ?_⟩, h.len, fun i s e => ?_, h.ap, fun p hp => ?_, tabs_nil, h.pt⟩
  · rw [upd_ne (ne_of_none hx hG)]
    exact h.exG _ _ hx
  · rw [upd_ne (ne_of_none hx h0)]
    exact h.post.keep x u nb hx
  · obtain ⟨h1, h2, h3⟩ := h.post.bag β hβ
    obtain ⟨_, _, _, _, _, _, hb, _⟩ := id h3.ex
    have hn : β ≠ P := ne hb (fun q z => nomatch z)
    exact ⟨h1, by rw [upd_ne hn]; exact h2, h3.mono (Ex.refl _) (upd_ne hn)⟩
  · have q := h.sl i s e
    cases s with
    | no => trivial
    | v d => exact q
    | ol l =>
      obtain ⟨a, vs, h1, h2, h3, h4, h5, h6⟩ := q
      exact ⟨a, vs, h1, h2, h3, by rw [upd_ne (ne h4 (repO_tab h5).1)]; exact h4, h5, h6⟩
    | fz d => exact q
  · obtain ⟨q1, q2, q3, q4⟩ := h.pin p hp
    exact ⟨by rw [upd_ne (ne q1 (hpn p hp))]; exact q1, q2, q3, q4⟩
end
section
variable {X : Cx} {pins : List (Addr × Obj)} {σ : L2.St} {F : Fc} {env : En} {G H : Hp} {s : Shared} {W : WX}
abbrev lamL (X : Cx) (params : Arguments) (body : Expr) (scope : Scope) : Lam := ⟨lamQ X, params, body, scope, cloFrom X.env.cells scope.names []⟩
theorem clo_inj (I : Inv X pins σ H s) {scope : Scope} (hfree : ∀ y ∈ scope.names, y.2 = .free → ∃ c, X.env.cells.lookup y.1 = some c) {x : Str} {c : Addr} (e : (cloFrom X.env.cells scope.names []).lookup x = some c) : X.env.cells.lookup x = some c := by
  rcases cloFrom_mem (PySem.mem_of_lookup e) with z | ⟨z, e2⟩
  · cases z
  · obtain ⟨c1, h⟩ := hfree _ z rfl
    rw [show X.env.cells.lookup x = some c1 from h] at e2
    rw [e2]
    exact h
theorem lam_core {c P : Addr} {params : Arguments} {body : Expr} {scope : Scope} {pos : Pos} {dV : Value} {fl : Nat} {E : Value → Shared → Prop} {K : VK} (hl : X.N.contains ("<lambda>" : Str) = true) (I : Inv X pins σ H s) (TB : LamX.TabB X.base X.mg c P) (hcode : X.env.code = .ref c) (hx : XOk X F) (h : SI F env σ G H)
    (hfree : ∀ y ∈ scope.names, y.2 = .free → ∃ c, X.env.cells.lookup y.1 = some c) (df : DfAt G (lamL X params body scope) dV)
    (hK : ∀ v G' H', SI F env σ G' H' → Ex G G' → Rep F.wd G' v (.fn (lamL X params body scope) []) → K v H') :
    wpAny (model X.prog X.w) X.A (makeTail "<lambda>" (lamQ X) params (.expr body) scope X.env dV .none none pos fl) (fun u s' => ∃ v H', Inv X pins σ H' s' ∧ RelV v u ∧ K v H') E s := by
  obtain ⟨hm, hu, h0, hpn⟩ := hx.t P (lamQ X) ⟨hl, rfl, c, hcode, TB⟩
  obtain ⟨hG, ps, hP, ht, hc⟩ := h.tab _ hm
  have hinj : ∀ x y c, (cloFrom X.env.cells scope.names []).lookup x = some c → (cloFrom X.env.cells scope.names []).lookup y = some c → x = y := fun x y c e1 e2 => I.ok.inj x y c (clo_inj I hfree e1) (clo_inj I hfree e2)
  have fin : ∀ (f c' : Addr) (pm doc ctv : Value) (s' : Shared) (G1 H1 : Hp), Ex G G1 → SI F env σ G1 H1 → Inv X pins σ H1 s' → s.heap.objs.size ≤ f → H1 f = none → G1 c' = some (LamX.CodeO c' (lamQ X)) →
      s'.heap.get? f = some (lamO (lamL X params body scope) dV doc pm c' ctv) → ∃ v H', Inv X pins σ H' s' ∧ RelV v (.ref f) ∧ K v H' := by
    intro f c' pm doc ctv s' G1 H1 ex si I1 hf nf gc ho
    obtain ⟨k1, k2, k3, _⟩ := fresh_fr I hf
    have I2 := Inv.track I1 ho nf k1 (fun v z => nomatch z) k2 k3
    have po := Post.new1 (o := .frz (lamO (lamL X params body scope) dV doc pm c' ctv) (xO f (lamO (lamL X params body scope) dV doc pm c' ctv))) si.pre nf
    refine ⟨.ref f, _, I2, rfl, hK _ _ _ (si.step po) (ex.trans po.ex) (.fn (cv := []) ⟨pm, doc, dV, c', ctv, _, rfl, upd_same, po.ex _ _ gc, hinj, df.mono (ex.trans po.ex), fun p hp => nomatch hp⟩ .nil)⟩
  refine lam_tail I TB hcode hP ht hfree (fun cv f pm doc ctv s' e I1 hf ho => ?_) (fun f c' pm doc ctv s' I1 hge hlt ho => ?_)
  · obtain ⟨c', rfl, gc⟩ := hc pos cv e
    exact fin f c' pm doc ctv s' G H (Ex.refl _) h I1 hf (fresh_fr I hf).2.2.2 gc ho
  · have nC : H c' = none := I.hok.fresh hge
    have nPc : P ≠ c' := ne_of_none hP nC
    have nC1 : upd H P (.tbl (ps ++ #[rawInt pos.line, rawInt pos.col, .ref c'])) c' = none := by rw [upd_ne nPc.symm]; exact nC
    have s1 := h.tblUp (ps' := ps ++ #[rawInt pos.line, rawInt pos.col, .ref c']) hP h0 hG hpn
    have po := Post.new1 (o := LamX.CodeO c' (lamQ X)) s1.pre nC1
    have eL : (ps ++ #[rawInt pos.line, rawInt pos.col, .ref c']).toList = ps.toList ++ [rawInt pos.line, rawInt pos.col, .ref c'] := by simp
    have s2 : SI F env σ (upd G c' (LamX.CodeO c' (lamQ X))) (upd (upd H P (.tbl (ps ++ #[rawInt pos.line, rawInt pos.col, .ref c']))) c' (LamX.CodeO c' (lamQ X))) := (s1.step po).tabsOf fun p hp => by
      by_cases hb : p.1 = P
      · rw [hu p hp hb, hb]
        refine ⟨by rw [upd_ne nPc]; exact hG, _, by rw [upd_ne nPc, upd_same], by rw [eL]; exact PySem.TriplesOk_snoc _ _ _ _ ht, fun p' cv hcv => ?_⟩
        rw [eL] at hcv
        rcases LamX.among_app _ ht hcv with z | z
        · obtain ⟨c0, e1, e2⟩ := hc p' cv z
          exact ⟨c0, e1, po.ex _ _ e2⟩
        · exact ⟨c', z, upd_same⟩
      · obtain ⟨a0, ps', a1, a2, a3⟩ := h.tab p hp
        have n1 : p.1 ≠ c' := ne_of_none a1 nC
        refine ⟨by rw [upd_ne n1]; exact a0, ps', by rw [upd_ne n1, upd_ne hb]; exact a1, a2, fun p' cv hcv => ?_⟩
        obtain ⟨c0, e1, e2⟩ := a3 p' cv hcv
        exact ⟨c0, e1, po.ex _ _ e2⟩
    have hf : s.heap.objs.size ≤ f := Nat.le_trans hge (Nat.le_of_lt hlt)
    refine fin f c' pm doc ctv s' _ _ po.ex s2 I1 hf ?_ upd_same ho
    have n1 : f ≠ c' := Nat.ne_of_gt hlt
    have n2 : f ≠ P := (ne_of_none hP (fresh_fr I hf).2.2.2).symm
    rw [upd_ne n1, upd_ne n2]
    exact (fresh_fr I hf).2.2.2
/-- a lambda is made -/
def wLam (l : Lam) : WE := fun env P _ => P (.fn l []) env
def tLamP (X : Cx) (l : Lam) : TE := fun σ H Q => ∃ (F : Fc) (env : En) (G : Hp), XOk X F ∧ SI F env σ G H ∧ ∀ v G' H', SI F env σ G' H' → Ex G G' → Rep F.wd G' v (.fn l []) → Q v H'
theorem px_lam0 {c P : Addr} {params : Arguments} {body : Expr} {scope : Scope} {pos : Pos} (TB : LamX.TabB X.base X.mg c P) (hcode : X.env.code = .ref c) (hl : X.N.contains ("<lambda>" : Str) = true)
    (hfree : ∀ y ∈ scope.names, y.2 = .free → X.env.scope.names.lookup y.1 = some .cell ∨ X.env.scope.names.lookup y.1 = some .free) (hd : params.defaults = []) (hdef : defaultsOf params X.env = ([], [])) :
    PX X W (.Lambda params body scope pos) (wLam (lamL X params body scope)) := by
  refine ⟨⟨tLamP X (lamL X params body scope), ⟨fun pins s σ H Q I h => ?_⟩, fun F env σ G H P R Q hx hs hw hq _ => ⟨F, env, G, hx, hs, fun v G' H' s1 x1 r => hq _ _ v G' H' hw s1 x1 r⟩⟩⟩
  obtain ⟨F, env, G, hx, si, hk⟩ := h
  have hfr : ∀ y ∈ scope.names, y.2 = .free → ∃ c, X.env.cells.lookup y.1 = some c := fun y hy e => (hfree y hy e).elim (fun z => I.ok.has _ (.inl z)) fun z => I.ok.has _ (.inr z)
  refine PySem.W.kla_eval hdef ?_
  rw [makeFunction_eq]
  simp only [List.zip_nil_right, List.filterMap_nil, List.isEmpty_nil, if_true, pure_bind]
  exact lam_core hl I TB hcode hx si hfr (.inl ⟨hd, rfl⟩) hk
theorem px_lam1 {c P : Addr} {params : Arguments} {body : Expr} {scope : Scope} {pos p1 : Pos} {j : Nat} (TB : LamX.TabB X.base X.mg c P) (hcode : X.env.code = .ref c) (hl : X.N.contains ("<lambda>" : Str) = true)
    (hfree : ∀ y ∈ scope.names, y.2 = .free → X.env.scope.names.lookup y.1 = some .cell ∨ X.env.scope.names.lookup y.1 = some .free) (hd : params.defaults = [.Constant (.int 0) j p1]) (hk0 : params.kw_defaults = []) :
    PX X W (.Lambda params body scope pos) (wLam (lamL X params body scope)) := by
  refine ⟨⟨tLamP X (lamL X params body scope), ⟨fun pins s σ H Q I h => ?_⟩, fun F env σ G H P R Q hx hs hw hq _ => ⟨F, env, G, hx, hs, fun v G' H' s1 x1 r => hq _ _ v G' H' hw s1 x1 r⟩⟩⟩
  obtain ⟨F, env, G, hx, si, hk⟩ := h
  have hfr : ∀ y ∈ scope.names, y.2 = .free → ∃ c, X.env.cells.lookup y.1 = some c := fun y hy e => (hfree y hy e).elim (fun z => I.ok.has _ (.inl z)) fun z => I.ok.has _ (.inr z)
  refine PySem.W.kdv_lam (by rw [hd]; rfl) hk0 ?_
  rw [hd]
  refine PySem.W.kdv_all1 (thn (pe_int.run pins s σ H (fun v H1 => v = .int 0 ∧ H1 = H) I ⟨rfl, rfl⟩) fun u s1 q => ?_)
  obtain ⟨v, H1, I1, r1, rfl, rfl⟩ := q
  refine PySem.W.kdv_all0 ?_
  rw [makeFunction_eq]
  simp only [List.zip_nil_right, List.filterMap_nil, List.isEmpty_nil, List.isEmpty_cons, if_true, pure_bind, Bool.false_eq_true, if_false]
  refine wpAny_bind (wpAny_newTextTuple ?_)
  have I2 : Inv X pins σ H1 { s1 with heap := s1.heap.push (PySem.W.kdv_tup [u]) } := I1.kept fun b o e => Heap.get?_push_of_some _ e
  obtain ⟨k1, k2, k3, k4⟩ := fresh_fr I1 (Nat.le_refl _)
  have I3 := Inv.track I2 (Heap.get?_push_size _ rfl) k4 k1 (fun v z => nomatch z) k2 k3
  have po := Post.new1 (o := .frz (PySem.W.kdv_tup [u]) (xO s1.heap.objs.size (PySem.W.kdv_tup [u]))) si.pre k4
  exact lam_core hl I3 TB hcode hx (si.step po) hfr (.inr ⟨_, u, rfl, r1, by rw [hd]; rfl, upd_same⟩) fun v G' H' s2 x2 r => hk v G' H' s2 (po.ex.trans x2) r
end
end Pu
set_option maxRecDepth 100000
set_option maxHeartbeats 2000000
/-! Lambdas: handed on -/
namespace Pu
open PySem L2 PySem.Spec PyProof.Rows PuExc
/-! ### a lambda and what its cells hold -/
mutual
def lnkD (g : List (Str × Addr) → List (Str × D)) : D → D
  | .fn l _ => .fn l (g l.cl)
  | .lst l => .lst (lnkDs g l)
  | .tup l => .tup (lnkDs g l)
  | d => d
def lnkDs (g : List (Str × Addr) → List (Str × D)) : List D → List D
  | [] => []
  | d :: l => lnkD g d :: lnkDs g l
end
mutual
def lamOk (ce : List (Str × Addr)) : D → Prop
  | .fn l _ => l.cl = cloFrom ce l.scope.names []
  | .lst l => lamOks ce l
  | .tup l => lamOks ce l
  | _ => True
def lamOks (ce : List (Str × Addr)) : List D → Prop
  | [] => True
  | d :: l => lamOk ce d ∧ lamOks ce l
end
/-- what the frame's slots hold of the captured names -/
def captE (cap : List (Str × Nat)) (env : En) (cl : List (Str × Addr)) : List (Str × D) := cl.filterMap fun q => match cap.lookup q.1 with
  | some i => match env[i]? with
    | some (.v d) => some (q.1, d)
    | _ => none
  | none => none
def cellsL (X : Cx) : List (Str × Addr) := X.env.scope.names.filterMap fun y => (X.env.cells.lookup y.1).map fun c => (y.1, c)
theorem cellsL_mem {X : Cx} {x : Str} {c : Addr} (h : (x, c) ∈ cellsL X) : X.env.cells.lookup x = some c := by
  unfold cellsL at h
  obtain ⟨y, _, e⟩ := List.mem_filterMap.mp h
  obtain ⟨c', e1, e2⟩ := Option.map_eq_some_iff.mp e
  cases e2
  exact e1
theorem cellsL_has {X : Cx} {x : Str} {k : NameKind} {c : Addr} (h : X.env.scope.names.lookup x = some k) (e : X.env.cells.lookup x = some c) : (x, c) ∈ cellsL X :=
  List.mem_filterMap.mpr ⟨(x, k), PySem.mem_of_lookup h, by rw [show X.env.cells.lookup ((x, k) : Str × NameKind).1 = some c from e]; rfl⟩
section
variable {X : Cx} {pins : List (Addr × Obj)} {σ : L2.St} {F : Fc} {env : En} {G H : Hp} {s : Shared} {W : WX}
theorem cells_fz (I : Inv X pins σ H s) : FzOk (cellS (cellsL X) s.heap) H s.heap := fun b o e => by
  obtain ⟨⟨x, hm⟩, g⟩ := cellS_mem e
  exact ⟨I.freeC x b (cellsL_mem hm), g⟩
theorem cells_nf (I : Inv X pins σ H s) : ∀ b o, (cellS (cellsL X) s.heap).lookup b = some o → ∀ vs, o.data ≠ .fields vs := fun b o e vs z => by
  obtain ⟨⟨x, hm⟩, g⟩ := cellS_mem e
  obtain ⟨v, o', h1, h2⟩ := I.cell x b (cellsL_mem hm)
  rw [g] at h1
  cases h1
  rw [z] at h2
  cases h2
theorem cells_ge (I : Inv X pins σ H s) (hfn : ∀ x, X.fn x = true) {b : Addr} {o : Obj} (e : (cellS (cellsL X) s.heap).lookup b = some o) : X.s_0.heap.objs.size ≤ b ∧ b ≠ X.env.locals := by
  obtain ⟨⟨x, hm⟩, g⟩ := cellS_mem e
  exact ⟨I.ok.cab x b (hfn x) (cellsL_mem hm), I.cne x b (cellsL_mem hm)⟩
theorem cells_fr (I : Inv X pins σ H s) (hfn : ∀ x, X.fn x = true) : ∀ b o, (cellS (cellsL X) s.heap).lookup b = some o → b ∉ frs X.stack := fun b o e hb => by
  obtain ⟨h1, h2⟩ := cells_ge I hfn e
  rcases List.mem_cons.mp (I.stkSub b hb) with z | z
  · exact h2 z
  · obtain ⟨_, o', ho, _⟩ := I.ok.funs.mem z
    exact Nat.lt_irrefl _ (Nat.lt_of_lt_of_le (Heap.lt_size ho) h1)
theorem cells_bs (I : Inv X pins σ H s) (hfn : ∀ x, X.fn x = true) : ∀ b o, (cellS (cellsL X) s.heap).lookup b = some o → X.base.get? b = none := fun b o e =>
  Heap.get?_none_of_le (Nat.le_trans I.ok.bsz (cells_ge I hfn e).1)
/-- what cap tells of the frame's names -/
def CapOk (X : Cx) (cap : List (Str × Nat)) : Prop := ∀ x i, cap.lookup x = some i → X.N[i]? = some x ∧ X.env.scope.names.lookup x = some .cell
theorem clo_val {ce : List (Str × Addr)} {names : List (Str × NameKind)} {x : Str} {c : Addr} (h : (x, c) ∈ cloFrom ce names []) : c = (ce.lookup x).getD 0 := by
  rcases cloFrom_mem h with z | ⟨_, z⟩
  · cases z
  · exact z
theorem clo_look {ce : List (Str × Addr)} {names : List (Str × NameKind)} {x : Str} {c : Addr} (h : (x, c) ∈ cloFrom ce names []) : (cloFrom ce names []).lookup x = some c := by
  obtain ⟨c', e⟩ := mem_lookup h
  rw [e, clo_val h, clo_val (PySem.mem_of_lookup e)]
theorem capt_rep (I : Inv X pins σ H s) (si : SI F env σ G H) {cap : List (Str × Nat)} (hcap : CapOk X cap) {cl0 : List (Str × Addr)} {names : List (Str × NameKind)} (e0 : cl0 = cloFrom X.env.cells names []) :
    ∀ (cl : List (Str × Addr)), (∀ q ∈ cl, q ∈ cl0) → ∃ cv, RepF F.wd (frzS G (cellS (cellsL X) s.heap)) cv (captE cap env cl) ∧
      ∀ p ∈ cv, ∃ (c : Addr) (oc : Obj) (u : Value), cl0.lookup p.1 = some c ∧ frzS G (cellS (cellsL X) s.heap) c = some (.frz oc (xO c oc)) ∧ oc.data = .cell (some u) ∧ RelV p.2 u
  | [], _ => ⟨[], .nil, fun p hp => nomatch hp⟩
  | q :: cl, hcl => by
    obtain ⟨cv, r, h⟩ := capt_rep I si hcap e0 cl fun q hq => hcl q (List.mem_cons_of_mem _ hq)
    have ex := ex_frz si.pre (cells_fz I)
    unfold captE
    rw [List.filterMap_cons]
    cases e1 : cap.lookup q.1 with
    | none =>
      simp only [e1]
      exact ⟨cv, r, h⟩
    | some i =>
      cases e2 : env[i]? with
      | none =>
        simp only [e1, e2]
        exact ⟨cv, r, h⟩
      | some sl =>
        cases sl with
        | no => simp only [e1, e2]; exact ⟨cv, r, h⟩
        | ol l => simp only [e1, e2]; exact ⟨cv, r, h⟩
        | fz l => simp only [e1, e2]; exact ⟨cv, r, h⟩
        | v d =>
          simp only [e1, e2]
          obtain ⟨v, h1, h2⟩ := si.sl i _ e2
          obtain ⟨hN, hk⟩ := hcap q.1 i e1
          obtain ⟨m, _, hl⟩ := I.loc
          obtain ⟨u, rv, lk⟩ := hl i q.1 v hN h1 (.inr (.inl hk))
          rcases lk with ⟨k1, _⟩ | ⟨_, c, hc, oc, ho, hd⟩
          · have k1 : X.env.scope.names.lookup q.1 = some .local := k1
            rw [hk] at k1
            cases k1
          · have hq : q ∈ cl0 := hcl q List.mem_cons_self
            have eq : q.2 = c := by
              have := clo_val (show (q.1, q.2) ∈ cloFrom X.env.cells names [] by rw [← e0]; exact hq)
              rw [this, hc]
              rfl
            obtain ⟨o', hS⟩ := cellS_has (cellsL_has hk hc) ho
            have ho' : o' = oc := by
              have := (cellS_mem hS).2
              rw [ho] at this
              exact (Option.some.inj this).symm
            subst ho'
            refine ⟨(q.1, v) :: cv, .cons (h2.mono ex) r, fun p hp => ?_⟩
            rcases List.mem_cons.mp hp with z | z
            · rw [z]
              refine ⟨c, o', u, ?_, frzS_in hS, hd, rv⟩
              show cl0.lookup q.1 = some c
              rw [← eq, e0]
              exact clo_look (by rw [← e0]; exact hq)
            · exact h p z
mutual
theorem lnk_rep (I : Inv X pins σ H s) (si : SI F env σ G H) {cap : List (Str × Nat)} (hcap : CapOk X cap) : ∀ {v : V} {d : D}, Rep F.wd G v d → lamOk X.env.cells d → Rep F.wd (frzS G (cellS (cellsL X) s.heap)) v (lnkD (captE cap env) d)
  | _, _, .non, _ => .non
  | _, _, .bl, _ => .bl
  | _, _, .int, _ => .int
  | _, _, .str, _ => .str
  | _, _, .bag h, _ => .bag h
  | _, _, .lst h r, ok => .lst (ex_frz si.pre (cells_fz I) _ _ h) (lnk_reps I si hcap r ok)
  | _, _, .tup h r, ok => .tup (ex_frz si.pre (cells_fz I) _ _ h) (lnk_reps I si hcap r ok)
  | _, _, .ins h1 hc h2 r, _ => Rep.mono (ex_frz si.pre (cells_fz I)) (.ins h1 hc h2 r)
  | _, _, .dk h r, _ => Rep.mono (ex_frz si.pre (cells_fz I)) (.dk h r)
  | _, _, .dt h r, _ => Rep.mono (ex_frz si.pre (cells_fz I)) (.dt h r)
  | _, _, .exc h1 h2 h3 h4 h5 h6 r, _ => Rep.mono (ex_frz si.pre (cells_fz I)) (.exc h1 h2 h3 h4 h5 h6 r)
  | _, _, .typ h, _ => .typ h
  | _, _, @Rep.fn _ _ f l cv cs la r, ok => by
    obtain ⟨cv', r', h'⟩ := capt_rep I si hcap ok l.cl fun q hq => hq
    obtain ⟨pm, doc, dV, c', ctv, o, h1, h2, h3, hi, hd, _⟩ := la
    have ex := ex_frz si.pre (cells_fz I)
    exact .fn ⟨pm, doc, dV, c', ctv, o, h1, ex _ _ h2, ex _ _ h3, hi, hd.mono ex, h'⟩ r'
theorem lnk_reps (I : Inv X pins σ H s) (si : SI F env σ G H) {cap : List (Str × Nat)} (hcap : CapOk X cap) : ∀ {v : List V} {d : List D}, Reps F.wd G v d → lamOks X.env.cells d → Reps F.wd (frzS G (cellS (cellsL X) s.heap)) v (lnkDs (captE cap env) d)
  | _, _, .nil, _ => .nil
  | _, _, .cons h r, ok => .cons (lnk_rep I si hcap h ok.1) (lnk_reps I si hcap r ok.2)
end
/-! ### the call -/
def wCallL (ce : List (Str × Addr)) (cap : List (Str × Nat)) (F : FT) (u : WA) : WE := fun env P R => u env (fun ds e => lamOks ce ds ∧ F (lnkDs (captE cap e) ds) (fun d => noFn d = true ∧ P d e) fun _ => False) R
theorem cx_false {P : Program} {w : World} {outer : List Env} {H : Hp} {s : Shared} {e : Value} {s' : Shared} : L2.CX P w outer H s (fun _ _ _ => False) e s' → False := fun c => by
  obtain ⟨_, _, _, _, _, _, _, _, _, _, _, _, z⟩ := c
  exact z.elim
theorem px_callL {k n : Nat} {f : Addr} {fd : FuncData} {ps : List Str} {Ft : FT} {x : Str} {p pos : Pos} {e : Expr} {es : List Expr} {u : WA} {cap : List (Str × Nat)} (Fn : FnOk X.prog X.w X.K X.mg X.base (L2.CX X.prog X.w) k f fd ps (spP X.K X.mg n Ft)) (hr : Room k X.A) (hg : Gl X x) (hm : X.mg x = some (.ref f)) (hk : PySem.W.keepIn X.K (.ref f) = true) (hb : Binds X.K fd ps [])
    (hfn : ∀ x, X.fn x = true) (hcap : CapOk X cap) (ha : PXA X W (e :: es) u) (hn : (e :: es).length = n) (hdb : (x == ("__debug__" : Str)) = false := by decide) (he : starEach (e :: es) X.env = (false, eval e X.env) :: starEach es X.env := by rfl) (hpl : (backTo pos (starEach es X.env)).any (·.1) = false := by rfl) :
    PX X W (.Call (.Name x p) (e :: es) [] pos) (wCallL X.env.cells cap (fun ds P R => ds.length = n ∧ Ft ds P R) u) := by
  obtain ⟨t, a1, a2⟩ := ha.ex
  refine ⟨⟨fun σ H Q => t σ H fun vs H1 => ∃ (F : Fc) (env : En) (G : Hp) (ds : List D) (Pd : D → Prop), XOk X F ∧ SI F env σ G H1 ∧ Reps F.wd G vs ds ∧ lamOks X.env.cells ds ∧ (lnkDs (captE cap env) ds).length = n ∧ Ft (lnkDs (captE cap env) ds) (fun d => noFn d = true ∧ Pd d) (fun _ => False) ∧
      ∀ d v G' H', Pd d → SI F env σ G' H' → Ex G G' → Rep F.wd G' v d → Q v H', ⟨fun pins s σ H Q I h => ?_⟩, fun F env σ G H P R Q hx hs hw hq hk => ?_⟩⟩
  · refine wpAny_Call_Name_kw (ld_glob I hg hm ?_ hdb)
    refine PySem.W.callWith_K (h₀ := X.base) I.ok.mod.kin hk (thn (a1.run pos pins s σ H _ I h) fun us s1 ⟨vs, H1, I1, r, q⟩ => ⟨I1.kIn, ?_⟩) he hpl
    obtain ⟨F, env, G, ds, Pd, hx, si, rr, ok, hl, hF, hQ⟩ := q
    have zf := cells_fz I1
    have nfr := cells_fr I1 hfn
    have e0 := env0_frz I1.env0 zf (cells_bs I1 hfn) nfr
    have r2 := lnk_reps I1 si hcap rr ok
    have pre := pre_frz si.pre zf
    obtain ⟨⟨K, mg, b⟩, G0, H0, pns, self, tabs⟩ := F
    obtain ⟨x1, x2, x3⟩ := id hx
    cases x1
    cases x2
    have hsp : spP X.K X.mg n Ft vs (frzS H1 (cellS (cellsL X) s1.heap)) (fun v H' => ∃ d G', (noFn d = true ∧ Pd d) ∧ Post ⟨X.K, X.mg, b⟩ (frzS G (cellS (cellsL X) s1.heap)) (frzS H1 (cellS (cellsL X) s1.heap)) G' H' ∧ Rep ⟨X.K, X.mg, b⟩ G' v d) (fun _ _ _ => False) :=
      ⟨b, _, _, _, _, pre, r2, hl, hF, fun d v G' H' p po rv => ⟨d, G', p, po, rv⟩, fun _ _ _ _ _ z => z.elim⟩
    have hul : us.length = ps.length := by rw [← r.length]; exact Fn.len _ _ _ _ hsp
    refine wpAny_call (codeAny_mono (Fn.run X.A X.stack s1 _ ⟨us, []⟩ us vs _ _ hr e0 (by have := hb s1 us I1.kIn (by simpa using hul); simpa using this) r hsp) fun r s' hc => ?_)
    cases r with
    | error e => exact (cx_false hc).elim
    | ok fl =>
      cases fl with
      | ret u =>
        refine I1.after (ce_thaw hc zf nfr fun v H' fz hq => ?_)
        obtain ⟨d, G', ⟨hno, hp⟩, po, rv⟩ := hq
        obtain ⟨po', th⟩ := post_thaw si.pre zf (cells_nf I1) po
        exact hQ d v _ _ hp (si.step po') po'.ex (rv.thaw th hno)
      | next => exact False.elim hc
      | brk => exact False.elim hc
      | cont => exact False.elim hc
  · refine a2 F env σ G H _ R _ hx hs hw (fun ds e1 vs G1 H1 p1 s1 x1 r1 => ?_) hk
    exact ⟨F, e1, G1, ds, fun d => P d e1, hx, s1, r1, p1.1, p1.2.1, p1.2.2, fun d v G' H' p s2 x2 r => hq d e1 v G' H' p s2 (x1.trans x2) r⟩
end
end Pu
set_option maxRecDepth 100000
set_option maxHeartbeats 2000000
/-! The law's def, its table aside -/
namespace Pu
open PySem L2 PySem.Spec PyProof.Rows PuExc
def spLawT (K : PySem.W.Frag) (PT : Addr) : Sp := fun vs H Q _ => ∃ (a : Addr) (ns : List Int), vs = [.ref a] ∧ SqL K H a (ns.map V.int) ∧ H PT = some (.tbl #[]) ∧ ∀ H', Q (.bl true) H'
theorem codeHd_one {h : Heap} {c P P' : Addr} (a : PySem.W.CodeHd h c P) (b : PySem.W.CodeHd h c P') : P' = P := by
  obtain ⟨o, us, _, _, _, _, _, _, _, e1, _, e2, e3, _⟩ := a
  obtain ⟨o', us', _, _, _, _, _, _, _, f1, _, f2, f3, _⟩ := b
  rw [e1] at f1
  cases f1
  rw [e2] at f2
  cases f2
  rw [e3] at f3
  cases f3
  rfl
section
variable {P : Program} {w : World} {K : PySem.W.Frag} {mg : Str → Option Value} {base : Heap}
theorem law_okT {x qual : Str} {st : Stmt} {f cT PT : Addr} {fd : FuncData} {N ps : List Str} {k : Nat} (Fn : Fun K x qual st f fd) (S : FnScope N ps (defScope st)) (hps : ps.length = 1) (hN : 2 ≤ N.length) (hcT : fd.code = .ref cT) (TB : LamX.TabB base mg cT PT)
    (body : ∀ (A : Around) (outer : List Env) (s : Shared) (H : Hp) (E : XK), Room k (A.deeper (envOfC qual (defScope st) s.heap.objs.size f (.ref cT))) →
      ∃ (s0 : Stmt) (rest : List Stmt) (ws : WS), defBody st = s0 :: rest ∧ PS (cxOf (L2.CX P w) P w K mg base N qual (defScope st) f (.ref cT) A outer s H E) s0 (tAsg (tCall (spBag K) [] E0 (tCons (tVar 0) tNil)) (gName 1)) ∧
        PXB (cxOf (L2.CX P w) P w K mg base N qual (defScope st) f (.ref cT) A outer s H E) (WDef E) rest ws ∧ ws (lawE N.length) { nx := fun _ => False, rt := fun d => d = .bl true, ex := fun _ _ => False }) :
    FnOk P w K mg base (L2.CX P w) (k + 1) f fd ps (spLawT K PT) := by
  obtain ⟨oc, od, kV, doc, pm, an, cdv, ct, osl, rfl, lk, hcd⟩ := Fn.ex
  have ecd : cdv = .ref cT := hcT
  subst ecd
  refine fn_of lk hcd S (fun vs H Q E h => ?_) (fun A outer s H vs Q E hr h => ?_)
  · obtain ⟨a, ns, rfl, _⟩ := h
    rw [hps]
    rfl
  obtain ⟨a, ns, rfl, hS, hT, hQ⟩ := h
  obtain ⟨s0, rest, ws, hb, h0, h1, hw⟩ := body A outer s H E hr
  obtain ⟨t, t1, t2⟩ := h1.ex
  have hb' : defBody st = s0 :: rest := hb
  rw [hb']
  refine ⟨_, pss_cons h0 t1, ?_⟩
  have hσ : L2.start N [.ref a] = some (.ref a) :: none :: List.replicate (N.length - 2) none := by
    unfold L2.start
    obtain ⟨n, e⟩ : ∃ n, N.length = n + 2 := ⟨N.length - 2, by omega⟩
    rw [e]
    show [some (V.ref a)] ++ List.replicate (n + 1) none = _
    rw [List.replicate_succ]
    rfl
  rw [hσ]
  refine ⟨_, rfl, a, ns, rfl, hS, fun c b ms m H' hex cb hc hb' m1 m2 => ?_⟩
  have hT' : H' PT = some (.tbl #[]) := hex _ _ hT
  have cP : c ≠ PT := fun z => by rw [z, hT'] at hc; cases hc
  have bP : b ≠ PT := fun z => by rw [z, hT'] at hb'; cases hb'
  have hG : Ex (fun x => if x = c then some (HO.lst (ms.map V.int)) else none) H' := fun x o hx => by
    have hx' : (if x = c then some (HO.lst (ms.map V.int)) else none) = some o := hx
    by_cases z : x = c
    · rw [if_pos z] at hx'
      cases hx'
      rw [z]
      exact hc
    · rw [if_neg z] at hx'
      cases hx'
  have del : ∀ {y : Addr} {o : HO}, H' y = some o → y ≠ PT → (fun z => if z = PT then none else H' z) y = some o := fun {y o} e n => (if_neg n).trans e
  have pre : Pre ⟨K, mg, some b⟩ (fun x => if x = c then some (HO.lst (ms.map V.int)) else none) (fun z => if z = PT then none else H' z) := by
    refine ⟨fun x o hx => del (hG x o hx) ?_, fun β hβ => ?_⟩
    · intro z
      have hx' : (if x = c then some (HO.lst (ms.map V.int)) else none) = some o := hx
      rw [if_neg (fun y => cP (y.symm.trans z))] at hx'
      cases hx'
    · have e : b = β := Option.some.inj hβ
      subst e
      exact ⟨if_neg (fun z => cb z.symm), (fun z => nomatch (show (some _ : Option HO) = none from (del hb' bP).symm.trans z)), ⟨c, ms, 0, 0, m, 0, del hb' bP, SqL.of (if_pos rfl), by decide, by decide, m1, m2⟩⟩
  have si : SI { wd := ⟨K, mg, some b⟩, G0 := (fun x => if x = c then some (HO.lst (ms.map V.int)) else none), H0 := (fun z => if z = PT then none else H' z), tabs := [(PT, (envOfC qual (defScope st) 0 f (.ref cT)).qual ++ "<lambda>")] } (lawE N.length) (some (.ref a) :: some (.ref b) :: List.replicate (N.length - 2) none) (fun x => if x = c then some (HO.lst (ms.map V.int)) else none) H' := by
    have hno : ∀ (j : Nat) (l : OD), (lawE N.length)[j]? ≠ some (.ol l) := fun j l e => by
      unfold lawE at e
      match j, e with
      | 0, e => cases e
      | 1, e => cases e
      | j + 2, e =>
        simp only [List.getElem?_cons_succ] at e
        rw [List.getElem?_replicate] at e
        split at e <;> cases e
    refine ⟨pre, ⟨Ex.refl _, hG, fun x o _ e => ?_, fun _ h => .inl h, fun β hβ => ?_⟩, ?_, fun i s e => ?_, fun i j l l' a _ e _ _ => absurd e (hno i l), (fun q hq => by cases hq), fun p hp => ?_, fun q hq => by cases hq⟩
    · have e' : (if x = PT then none else H' x) = some o := e
      by_cases z : x = PT
      · rw [if_pos z] at e'
        cases e'
      · rw [if_neg z] at e'
        exact e'
    · have e : b = β := Option.some.inj hβ
      subst e
      exact ⟨if_neg (fun z => cb z.symm), by rw [hb']; simp, ⟨c, ms, 0, 0, m, 0, hb', SqL.of (if_pos rfl), by decide, by decide, m1, m2⟩⟩
    · unfold lawE
      simp
    · unfold lawE at e
      match i, e with
      | 0, e => cases e; trivial
      | 1, e => cases e; exact ⟨_, rfl, .bag rfl⟩
      | j + 2, e =>
        simp only [List.getElem?_cons_succ] at e
        rw [List.getElem?_replicate] at e
        split at e
        · cases e; trivial
        · cases e
    · rcases List.mem_cons.mp hp with z | z
      · rw [z]
        exact ⟨if_neg (fun y => cP y.symm), #[], hT', True.intro, fun pos cv hc => by
          have hc' : codeAmong pos [] = some cv := hc
          simp [codeAmong] at hc'⟩
      · cases z
  refine t2 _ (lawE N.length) _ _ H' _ _ ⟨rfl, rfl, fun P1 q hM => ?_⟩ si hw ?_
  · obtain ⟨_, e, c1, e1, TB1⟩ := hM
    have e1 : Value.ref cT = .ref c1 := e1
    cases e1
    have eP := codeHd_one TB.code TB1.code
    subst eP
    subst e
    refine ⟨List.mem_cons_self, fun p hp _ => ?_, if_pos rfl, fun p hp => nomatch hp⟩
    rcases List.mem_cons.mp hp with z | z
    · rw [z]
      rfl
    · cases z
  refine ⟨fun _ _ _ _ z => z.elim, fun d v e1 σ1 G1 H1 p s1 r1 => ?_, fun _ _ _ _ z => z.elim, fun _ _ _ _ z => z.elim, fun _ _ _ _ _ _ _ z => z.elim⟩
  have p' : d = .bl true := p
  subst p'
  cases r1
  exact hQ H1
end
end Pu
set_option maxRecDepth 100000
set_option maxHeartbeats 2000000
/-! Lambdas of a text by their places; a method called by keywords -/
namespace Pu
open PySem L2 PySem.Spec PyProof.Rows PuExc
/-! ### places in a text -/
def nilE : Expr := .Constant .none 0 ⟨0, 0, 0, 0⟩
def nilS : Stmt := .Pass ⟨0, 0, 0, 0⟩
def sBody (s : Stmt) (i : Nat) : Stmt := match s with
  | .For _ _ b _ _ => b.getD i nilS
  | .While _ b _ _ => b.getD i nilS
  | .If _ b _ _ => b.getD i nilS
  | .FunctionDef _ _ b _ _ _ _ _ _ _ => b.getD i nilS
  | _ => nilS
def sElse (s : Stmt) (i : Nat) : Stmt := match s with
  | .For _ _ _ b _ => b.getD i nilS
  | .If _ _ b _ => b.getD i nilS
  | _ => nilS
def sExpr (s : Stmt) : Expr := match s with
  | .If e _ _ _ => e
  | .While e _ _ _ => e
  | .Assign _ e _ => e
  | .Return (some e) _ => e
  | .Expr e _ => e
  | _ => nilE
def eArg (e : Expr) (i : Nat) : Expr := match e with
  | .Call _ as _ _ => as.getD i nilE
  | .List es _ => es.getD i nilE
  | .Tuple es _ _ => es.getD i nilE
  | .BoolOp _ es _ => es.getD i nilE
  | .UnaryOp _ e _ => e
  | .Compare l _ rs _ => (l :: rs).getD i nilE
  | .BinOp a _ b _ => [a, b].getD i nilE
  | .Attribute e _ _ => e
  | .Subscript e _ _ => e
  | _ => nilE
/-- what a callee is called on -/
def eFun (e : Expr) : Expr := match e with
  | .Call f _ _ _ => f
  | _ => nilE
def lamOf (q : Str) (cl : List (Str × Addr)) (e : Expr) : Lam := match e with
  | .Lambda ps b sc _ => ⟨q, ps, b, sc, cl⟩
  | _ => ⟨q, ⟨[], [], none, [], [], none, []⟩, nilE, { kind := .function, names := [], isGenerator := false, isCoroutine := false }, cl⟩
def lamSc (e : Expr) : Scope := match e with
  | .Lambda _ _ sc _ => sc
  | _ => { kind := .function, names := [], isGenerator := false, isCoroutine := false }
/-! ### a lambda's scope -/
def lamB (ns : List Str) (sc : Scope) : Bool := decide (sc.kind = .function) && !sc.isCoroutine && !sc.isGenerator && sc.names.all (fun y => !decide (y.2 = .cell)) && ns.all (fun x => decide (sc.names.lookup x = some .free)) && sc.names.all (fun y => !decide (y.2 = .free) || decide (y.1 ∈ ns)) && decide ns.Nodup && !ns.contains ("<lambda>" : Str)
theorem mem_look {α : Type} : ∀ {l : List (Str × α)} {x : Str}, x ∈ l.map (·.1) → ∃ c, l.lookup x = some c := fun {l x} h => by
  obtain ⟨p, hp, e⟩ := List.mem_map.mp h
  obtain ⟨y, c⟩ := p
  cases e
  exact mem_lookup hp
theorem lamSc_of {l : Lam} {ns : List Str} (hn : l.cl.map (·.1) = ns) (h : lamB ns l.scope = true) : LamSc l := by
  unfold lamB at h
  simp only [Bool.and_eq_true, Bool.or_eq_true, Bool.not_eq_true', decide_eq_true_eq, decide_eq_false_iff_not, List.all_eq_true] at h
  obtain ⟨⟨⟨⟨⟨⟨⟨h1, h2⟩, h3⟩, h4⟩, h5⟩, h6⟩, h7⟩, h8⟩ := h
  refine ⟨h1, h2, h3, h4, fun y hy => h5 _ (by rw [← hn]; exact List.mem_map.mpr ⟨y, hy, rfl⟩), fun y hy e => ?_, by rw [hn]; exact h7, by rw [hn]; exact h8⟩
  rcases h6 y hy with z | z
  · exact absurd e z
  · rw [← hn] at z
    exact mem_look z
/-! ### o.m(k = e, ..) -/
section
variable {X : Cx} {W : WX} {e : Expr} {es : List Expr} {pos apos : Pos}
def wMethK (c m : Str) (n : Nat) (F : FT) (wo : WE) (u : WA) : WE := fun env P R => wo env (fun o e1 => match o with
  | .ins c' fs => c' = c ∧ fs.lookup m = none ∧ u e1 (fun ds e => (D.ins c' fs :: ds).length = n ∧ F (D.ins c' fs :: ds) (fun d => P d e) fun x => R x e) R
  | _ => False) R
theorem px_methK {k n : Nat} {f C : Addr} {fd : FuncData} {ps ks : List Str} {F : FT} {c m : Str} {u : WA} {o : Expr} {wo : WE} {kws : List Keyword} {pl : Sem Bool} (cl : Cls X.K C) (hmg : X.mg c = some (.ref C)) (hm : Meth X.K C m f) (Fn : FnOk X.prog X.w X.K X.mg X.base (L2.CX X.prog X.w) k f fd ps (spP X.K X.mg n F)) (hr : Room k X.A)
    (hb : ∀ (s : Shared) (a : Value) (ws : List Value), (a :: ws).length = ps.length → BindsTo s fd ⟨[a], ks.zip ws⟩ (ps.zip (a :: ws))) (tk : Takes X W) (ho : PX X W o wo) (hkw : PXK X W kws u) (hall : (backToKw pos (keywordEach kws X.env)).all (·.1.isSome) = true := by rfl) (hks : (backToKw pos (keywordEach kws X.env)).filterMap (·.1) = ks := by rfl)
    (hpl : ((backTo pos (starEach [] X.env)).any (·.1) || (backToKw pos (keywordEach kws X.env)).any (·.1.isNone)) = false := by rfl)
    (ht : eval (.Call (.Attribute o m apos) [] kws pos) X.env = (do
      let ov ← eval o X.env
      standAt apos.atName
      let (f, first) ← holding [ov] (getMethod ov m pl)
      callWith pos f first (backTo pos (starEach [] X.env)) (backToKw pos (keywordEach kws X.env))) := by rfl) :
    PX X W (.Call (.Attribute o m apos) [] kws pos) (wMethK c m n F wo u) := by
  obtain ⟨t, a1, a2⟩ := ho.ex
  obtain ⟨t', b1, b2⟩ := hkw.ex
  refine ⟨⟨fun σ H Q => t σ H fun x H1 => ∃ a dx fs, x = .ref a ∧ H1 a = some (.ins C dx fs) ∧ fs.lookup m = none ∧ t' σ H1 fun vs H2 => spP X.K X.mg n F (.ref a :: vs) H2 Q (L2.WE W σ), ⟨fun pins s σ H Q I h => ?_⟩, fun Fc' env σ G H P R Q hx hs hw hq hk => a2 Fc' env σ G H _ R _ hx hs hw (fun d e1 v G1 H1 p1 s1 x1 r1 => ?_) hk⟩⟩
  · refine PySem.W.methodCall_KW (pl := pl) (thn (a1.run pins s σ H _ I h) fun u s1 ⟨x, H1, I1, rx, a, dx, fs, ex, ea, l, q⟩ => ?_) ht
    subst ex
    obtain rfl : u = Value.ref a := rx
    refine getmeth_ok I1 ea cl hm l ?_
    refine PySem.W.callWith_KW0 (first := [.ref a]) (h₀ := X.base) I.ok.mod.kin hm.kp hall ?_ hpl
    refine thn (b1.run pos pins s1 σ H1 _ I1 q) fun ws s2 ⟨vs, H2, I2, r, q2⟩ => ⟨I2.kIn, ?_⟩
    rw [hks]
    have hl : (Value.ref a :: ws).length = ps.length := by
      have := Fn.len _ _ _ _ q2
      rw [← this]
      simp only [List.length_cons, r.length]
    refine wpAny_call (codeAny_mono (Fn.run X.A X.stack s2 H2 ⟨[.ref a], ks.zip ws⟩ (.ref a :: ws) (.ref a :: vs) Q (L2.WE W σ) hr I2.env0 (hb s2 _ ws hl) (.cons rfl r) q2) fun r s' hq => ?_)
    cases r with
    | error e => exact passAt tk σ pins H2 s2 e s' I2 hq
    | ok fl =>
      cases fl with
      | ret u => exact I2.after hq
      | next => exact False.elim hq
      | brk => exact False.elim hq
      | cont => exact False.elim hq
  · cases d <;> first | exact p1.elim | skip
    rename_i c0 fs0
    obtain ⟨rfl, hl, p1⟩ := p1
    obtain ⟨a, dx, fv, rfl, ci, g1, rf⟩ := ins_at hx r1 hmg
    refine ⟨a, dx, fv, rfl, s1.exG _ _ g1, rf.none hl, b2 Fc' e1 σ G1 H1 _ R _ hx s1 p1 (fun as e2 vs G2 H2 p2 s2 x2 r2 => ?_) hk⟩
    have pp : ((D.ins c0 fs0 :: as) ++ ([] : List D)).length = n ∧ F ((D.ins c0 fs0 :: as) ++ []) (fun d => P d e2) fun x => R x e2 := by rw [List.append_nil]; exact p2
    have := call_run (dd := []) (dvs := []) (vs := .ref a :: vs) (n := n) hx pp.1 (fun _ _ => .nil) s2 (.cons (r1.mono x2) r2) pp.2 (fun d e' v G' H' p s x r => hq d e' v G' H' p s ((x1.trans x2).trans x) r) hk
    rw [List.append_nil] at this
    exact this
end
end Pu
set_option maxRecDepth 100000
/-! _law_field, _law_got, _law_why, _law_whys -/
namespace Pu
open PySem L2 PySem.Spec PyProof.Rows
theorem roomH_units {k : Nat} {A : Around} (r : L2H.RoomH k A) : A.units + 64 < cLine := by
  have := r.un
  omega
theorem roomH_mk {k : Nat} {A : Around} (r : Room k A) (h : Option Value) : L2H.RoomH k (A.mark h) := ⟨r.dp, r.un⟩
theorem cap_ok {X : Cx} {cap : List (Str × Nat)} (h : cap.all (fun p => decide (X.N[p.2]? = some p.1) && decide (X.env.scope.names.lookup p.1 = some .cell)) = true) : CapOk X cap := fun x i e => by
  have := List.all_eq_true.mp h _ (PySem.mem_of_lookup e)
  simp only [Bool.and_eq_true, decide_eq_true_eq] at this
  exact this
def kcaB (K : PySem.W.Frag) (cs : List Value) (l : List (Str × Addr × Bool)) : Bool := l.all fun p => decide (PySem.W.exmAny K (.ref p.2.1) cs = some p.2.2)
theorem kca_of {K : PySem.W.Frag} {mg : Str → Option Value} {cs : List Value} (l : List (Str × Addr × Bool)) (hg : ∀ p ∈ l, mg p.1 = some (.ref p.2.1)) (h : kcaB K cs l = true) :
    ∀ (c : Str) (C : Addr) (b : Bool), mg c = some (.ref C) → (l.map fun p => (p.1, p.2.2)).lookup c = some b → PySem.W.exmAny K (.ref C) cs = some b := by
  intro c C b hm hl
  obtain ⟨p, hp, e⟩ := List.mem_map.mp (PySem.mem_of_lookup hl)
  cases e
  have e1 := hg p hp
  rw [hm] at e1
  cases e1
  exact of_decide_eq_true (List.all_eq_true.mp h p hp)
def w_law_field : WS :=
    (wsSeq (wsIf (wTest (wOp (rdIn false) (wAttr "code" (wVar 0)) (wLst (wCons (wC (.str "InvalidStrength")) (wCons (wC (.str "Taken")) (wCons (wC (.str "UnknownName")) wNil)))))) (wsRet (wAttr "name" (wVar 0))) wsNext)
    (wsSeq (wsIf (wTest (wOp (rdIn false) (wAttr "code" (wVar 0)) (wLst (wCons (wC (.str "TooMany")) (wCons (wC (.str "Full")) wNil))))) (wsRet (wAttr "most" (wVar 0))) wsNext)
    (wsSeq (wsIf (wTest (wOp rdEq (wAttr "code" (wVar 0)) (wC (.str "Overlap")))) (wsRet (wAttr "letter" (wVar 0))) wsNext)
    (wsSeq (wsIf (wTest (wOp rdEq (wAttr "code" (wVar 0)) (wC (.str "InvalidCommand")))) (wsRet (wAttr "at" (wVar 0))) wsNext)
    (wsSeq (wsIf (wTest (wOp rdEq (wAttr "code" (wVar 0)) (wC (.str "InvalidPage")))) (wsRet (wAttr "line" (wVar 0))) wsNext)
    (wsSeq (wsIf (wTest (wOp (rdIn false) (wAttr "code" (wVar 0)) (wLst (wCons (wC (.str "ZeroDivisor")) (wCons (wC (.str "ZeroSum")) (wCons (wC (.str "Unbalanced")) (wCons (wC (.str "NothingLeft")) (wCons (wC (.str "Unsound")) (wCons (wC (.str "Wavers")) (wCons (wC (.str "Unsure")) wNil)))))))))) (wsRet (wC .non)) wsNext)
    (wsRet (wAttr "given" (wVar 0)))))))))
/-- try: return ('told', a()) except .. -/
def w_law_got (cau : List (Str × Bool)) (L : LT) (F_law_field : FT) : WS :=
  wsTry cau 1 (wsRet (wTup (wCons (wC (.str "told")) (wCons (wCallFn L 0) wNil))))
    (wsRet (wTup (wCons (wAttr "code" (wVar 1)) (wCons (wCall (fun ds P _ => ds.length = 1 ∧ F_law_field ds P fun _ => False) [] (wCons (wVar 1) wNil)) wNil))))
def w_law_why (F_law_got : FT) : WS :=
    (wsSeq (wsSet 1 (wCall (fun ds P R => ds.length = 1 ∧ F_law_got ds P R) [] (wCons (wVar 0) wNil)))
    (wsRet (wIf (wTest (wOp rdNe (wOp rdIx (wVar 1) (wC (.int 0))) (wC (.str "told")))) (wVar 1) (wTup (wCons (wC (.str "told")) (wCons (wC .non) wNil))))))
/-! ### fields -/
def l1 : List D := [.str "InvalidStrength", .str "Taken", .str "UnknownName"]
def l2 : List D := [.str "TooMany", .str "Full"]
def l3 : List D := [.str "ZeroDivisor", .str "ZeroSum", .str "Unbalanced", .str "NothingLeft", .str "Unsound", .str "Wavers", .str "Unsure"]
def fieldK (c : Str) : Nat := if inD (.str c) l1 = true then 0 else if inD (.str c) l2 = true then 1 else if decide (c = "Overlap") = true then 2 else if decide (c = "InvalidCommand") = true then 3 else if decide (c = "InvalidPage") = true then 4 else if inD (.str c) l3 = true then 5 else 6
def fieldD (c : Str) (fs : List (Str × D)) : Option D := match fieldK c with
  | 0 => fs.lookup ("name" : Str) | 1 => fs.lookup ("most" : Str) | 2 => fs.lookup ("letter" : Str) | 3 => fs.lookup ("at" : Str) | 4 => fs.lookup ("line" : Str) | 5 => some .non | _ => fs.lookup ("given" : Str)
def F_field : FT := fun ds P _ => ∃ c fs d, ds = [.exc c fs] ∧ fs.lookup ("code" : Str) = some (.str c) ∧ fieldD c fs = some d ∧ P d
theorem pure_field (ds : List D) (P : D → Prop) (R : DX → Prop) (_ : ds.length = 1) (h : F_field ds P R) : w_law_field (startE 1 ds) { nx := fun _ => P .non, rt := P, ex := fun x _ => R x } := by
  obtain ⟨c, fs, d, rfl, hc, hd, hP⟩ := h
  have z3 : (3 : Nat) ≤ sizeLine := by decide
  have z2 : (2 : Nat) ≤ sizeLine := by decide
  have z7 : (7 : Nat) ≤ sizeLine := by decide
  unfold fieldD at hd
  have no : ∀ {b : Bool}, b = false → ¬ (b = true) := fun e => by rw [e]; decide
  refine st_ifN (inD (.str c) l1) (fun Pk h => ⟨_, hc, z3, rfl, rfl, h⟩) (fun e => ?_) (fun e1 => ?_)
  · rw [show fieldK c = 0 by unfold fieldK; rw [if_pos e]] at hd
    exact ⟨d, hd, hP⟩
  refine st_ifN (inD (.str c) l2) (fun Pk h => ⟨_, hc, z2, rfl, rfl, h⟩) (fun e => ?_) (fun e2 => ?_)
  · rw [show fieldK c = 1 by unfold fieldK; rw [if_neg (no e1), if_pos e]] at hd
    exact ⟨d, hd, hP⟩
  refine st_ifN (decide (c = "Overlap")) (fun Pk h => ⟨_, hc, h⟩) (fun e => ?_) (fun e3 => ?_)
  · rw [show fieldK c = 2 by unfold fieldK; rw [if_neg (no e1), if_neg (no e2), if_pos e]] at hd
    exact ⟨d, hd, hP⟩
  refine st_ifN (decide (c = "InvalidCommand")) (fun Pk h => ⟨_, hc, h⟩) (fun e => ?_) (fun e4 => ?_)
  · rw [show fieldK c = 3 by unfold fieldK; rw [if_neg (no e1), if_neg (no e2), if_neg (no e3), if_pos e]] at hd
    exact ⟨d, hd, hP⟩
  refine st_ifN (decide (c = "InvalidPage")) (fun Pk h => ⟨_, hc, h⟩) (fun e => ?_) (fun e5 => ?_)
  · rw [show fieldK c = 4 by unfold fieldK; rw [if_neg (no e1), if_neg (no e2), if_neg (no e3), if_neg (no e4), if_pos e]] at hd
    exact ⟨d, hd, hP⟩
  refine st_ifN (inD (.str c) l3) (fun Pk h => ⟨_, hc, z7, rfl, rfl, h⟩) (fun e => ?_) (fun e6 => ?_)
  · rw [show fieldK c = 5 by unfold fieldK; rw [if_neg (no e1), if_neg (no e2), if_neg (no e3), if_neg (no e4), if_neg (no e5), if_pos e]] at hd
    cases hd
    exact hP
  · rw [show fieldK c = 6 by unfold fieldK; rw [if_neg (no e1), if_neg (no e2), if_neg (no e3), if_neg (no e4), if_neg (no e5), if_neg (no e6)]] at hd
    exact ⟨d, hd, hP⟩
theorem purec_field (ds : List D) (P : D → Prop) (hl : ds.length = 1) (h : F_field ds P fun _ => False) : w_law_field (startE 1 ds) { nx := fun _ => P .non, rt := P, ex := fun _ _ => False } := pure_field ds P (fun _ => False) hl h
/-- what follows a lambda's exception -/
def gotX (cau : List (Str × Bool)) (l : Lam) (cs : List (Str × D)) (P : D → Prop) (R : DX → Prop) (x : DX) : Prop := match cau.lookup x.c with
  | some true => wsRet (wTup (wCons (wAttr "code" (wVar 1)) (wCons (wCall (fun ds P _ => ds.length = 1 ∧ F_field ds P fun _ => False) [] (wCons (wVar 1) wNil)) wNil))) [.v (.fn l cs), .v (.exc x.c x.fs)] { nx := fun _ => False, rt := P, ex := fun _ _ => False }
  | some false => R x
  | none => False
def F_got (cau : List (Str × Bool)) (L : LT) : FT := fun ds P R => ∃ l cs, ds = [.fn l cs] ∧ L l cs (fun d => [.str "told", d].length ≤ sizeLine ∧ P (.tup [.str "told", d])) (gotX cau l cs P R)
theorem pure_got (cau : List (Str × Bool)) {L : LT} (ds : List D) (P : D → Prop) (R : DX → Prop) (_ : ds.length = 1) (h : F_got cau L ds P R) : w_law_got cau L F_field (startE 2 ds) { nx := fun _ => P .non, rt := P, ex := fun x _ => R x } := by
  obtain ⟨l, cs, rfl, h⟩ := h
  exact h
theorem gotX_exc {cau : List (Str × Bool)} {l : Lam} {cs : List (Str × D)} {P : D → Prop} {R : DX → Prop} {x : DX} {v : D} (h : cau.lookup x.c = some true) (hc : x.fs.lookup ("code" : Str) = some (.str x.c)) (hv : fieldD x.c x.fs = some v) (hP : P (.tup [.str x.c, v])) : gotX cau l cs P R x := by
  unfold gotX
  rw [h]
  exact ⟨_, hc, rfl, ⟨_, _, _, rfl, hc, hv, (by decide : (2 : Nat) ≤ sizeLine), hP⟩⟩
/-- what follows the look at it -/
def whyP (l : Lam) (cs : List (Str × D)) (P : D → Prop) (R : DX → Prop) (d : D) : Prop := wsRet (wIf (wTest (wOp rdNe (wOp rdIx (wVar 1) (wC (.int 0))) (wC (.str "told")))) (wVar 1) (wTup (wCons (wC (.str "told")) (wCons (wC .non) wNil)))) [.v (.fn l cs), .v d] { nx := fun _ => P .non, rt := P, ex := fun x _ => R x }
def F_why (cau : List (Str × Bool)) (L : LT) : FT := fun ds P R => ∃ l cs, ds = [.fn l cs] ∧ F_got cau L ds (whyP l cs P R) R
theorem pure_why (cau : List (Str × Bool)) {L : LT} (ds : List D) (P : D → Prop) (R : DX → Prop) (_ : ds.length = 1) (h : F_why cau L ds P R) : w_law_why (F_got cau L) (startE 2 ds) { nx := fun _ => P .non, rt := P, ex := fun x _ => R x } := by
  obtain ⟨l, cs, rfl, h⟩ := h
  exact ⟨rfl, h⟩
theorem whyP_told {l : Lam} {cs : List (Str × D)} {P : D → Prop} {R : DX → Prop} {d : D} (h : P (.tup [.str "told", .non])) : whyP l cs P R (.tup [.str "told", d]) :=
  ⟨_, rfl, (by decide : (2 : Nat) ≤ sizeLine), h⟩
theorem whyP_exc {l : Lam} {cs : List (Str × D)} {P : D → Prop} {R : DX → Prop} {c : Str} {v : D} (hc : decide (c = "told") = false) (h : P (.tup [.str c, v])) : whyP l cs P R (.tup [.str c, v]) := by
  refine ⟨_, rfl, ?_⟩
  show match !decide (c = "told") with | true => _ | false => _
  rw [hc]
  exact h
/-- a lambda is asked: it tells a value, or its exception is told -/
theorem why_go {cau : List (Str × Bool)} {L : LT} {l : Lam} {cs : List (Str × D)} {P : D → Prop} {R : DX → Prop} (h : L l cs (fun d => [.str "told", d].length ≤ sizeLine ∧ whyP l cs P R (.tup [.str "told", d])) (gotX cau l cs (whyP l cs P R) R)) : F_why cau L [.fn l cs] P R := ⟨l, cs, rfl, l, cs, rfl, h⟩
theorem why_told {l : Lam} {cs : List (Str × D)} {P : D → Prop} {R : DX → Prop} {d : D} (h : P (.tup [.str "told", .non])) : [D.str "told", d].length ≤ sizeLine ∧ whyP l cs P R (.tup [.str "told", d]) := ⟨(by decide : (2 : Nat) ≤ sizeLine), whyP_told h⟩
theorem why_exc {cau : List (Str × Bool)} {l : Lam} {cs : List (Str × D)} {P : D → Prop} {R : DX → Prop} {x : DX} {v : D} (h : cau.lookup x.c = some true) (hc : x.fs.lookup ("code" : Str) = some (.str x.c)) (hv : fieldD x.c x.fs = some v) (hn : decide (x.c = "told") = false) (hP : P (.tup [.str x.c, v])) : gotX cau l cs (whyP l cs P R) R x :=
  gotX_exc h hc hv (whyP_exc hn hP)
/-! ### many -/
def whysL (cau : List (Str × Bool)) (L : LT) (P : D → Prop) : List D → List D → Prop
  | [], acc => P (.lst acc)
  | f :: fs, acc => F_why cau L [f] (fun d => whysL cau L P fs (acc ++ [d])) fun _ => False
def F_whys (cau : List (Str × Bool)) (L : LT) : FT := fun ds P R => ∃ fs, ds = [.lst fs] ∧ fs.length ≤ 100000 ∧ whysL cau L P fs []
def w_law_whys (F_law_why : FT) : WS := (wsRet (wLc [1] (wIt (wVar 0)) (wgName 1) wYes (wCall (fun ds P R => ds.length = 1 ∧ F_law_why ds P R) [] (wCons (wVar 1) wNil))))
theorem len1 {a : Prop} {d : D} : (([d] ++ ([] : List D)).length = 1 ∧ a) = a := propext ⟨fun h => h.2, fun h => ⟨rfl, h⟩⟩
theorem whys_eq {cau : List (Str × Bool)} {L : LT} {P : D → Prop} {a : Sl} : ∀ (fs acc : List D) (s : Sl), whysL cau L P fs acc → wLcL (wgName 1) wYes (wCall (fun ds P R => ds.length = 1 ∧ F_why cau L ds P R) [] (wCons (wVar 1) wNil)) [1] fs acc [a, s] fun acc _ => P (.lst acc) := by
  have key : ∀ (fs acc : List D) (s : Sl), wLcL (wgName 1) wYes (wCall (fun ds P R => ds.length = 1 ∧ F_why cau L ds P R) [] (wCons (wVar 1) wNil)) [1] fs acc [a, s] (fun acc _ => P (.lst acc)) = whysL cau L P fs acc := by
    intro fs
    induction fs with
    | nil => intro acc s; rfl
    | cons f fs ih =>
      intro acc s
      have e : (fun d => wLcL (wgName 1) wYes (wCall (fun ds P R => ds.length = 1 ∧ F_why cau L ds P R) [] (wCons (wVar 1) wNil)) [1] fs (acc ++ [d]) [a, .v f] (fun acc _ => P (.lst acc))) = fun d => whysL cau L P fs (acc ++ [d]) := funext fun d => ih (acc ++ [d]) (.v f)
      show (([f] ++ ([] : List D)).length = 1 ∧ F_why cau L [f] (fun d => wLcL (wgName 1) wYes (wCall (fun ds P R => ds.length = 1 ∧ F_why cau L ds P R) [] (wCons (wVar 1) wNil)) [1] fs (acc ++ [d]) [a, .v f] (fun acc _ => P (.lst acc))) fun _ => False) = F_why cau L [f] (fun d => whysL cau L P fs (acc ++ [d])) fun _ => False
      rw [e]
      exact len1
  intro fs acc s h
  rw [key]
  exact h
theorem pure_whys (cau : List (Str × Bool)) {L : LT} (ds : List D) (P : D → Prop) (R : DX → Prop) (_ : ds.length = 1) (h : F_whys cau L ds P R) : w_law_whys (F_why cau L) (startE 2 ds) { nx := fun _ => P .non, rt := P, ex := fun x _ => R x } := by
  obtain ⟨fs, rfl, hl, h⟩ := h
  exact ⟨hl, whys_eq fs [] .no h⟩
/-! ### the row's end -/
theorem lawAt_of {l : PySem.W.OpenLaw} {w : World} {K : PySem.W.Frag} {CX : CXT} {k n : Nat} {x : Str} {mg : Str → Option Value} {fa : Addr} {h : Heap} {fd : FuncData} {cT PT : Addr} (X : K.In h) (hC : PySem.W.codeHdIn K cT PT = true) (nP : K.lookup PT = none) (tP : h.get? PT = some { cls := .none, data := .fields #[] })
    (hb : ∀ (s : Shared) (u : Value), BindsTo s fd ⟨[u], []⟩ [(x, u)]) (F : ∀ base : Heap, LamX.TabB base mg cT PT → FnOk l.prog w K mg base CX k fa fd [x] (spLawT K PT)) : LamX.LawAtS l w K CX k n x mg fa h := by
  have one : ∀ {Q : Addr × Addr → Prop}, Q (cT, PT) → ∀ p ∈ [(cT, PT)], Q p := fun {Q} q p hp => by
    rcases List.mem_cons.mp hp with z | z
    · rw [z]
      exact q
    · cases z
  refine ⟨fd, [(cT, PT)], spLawT K PT, one tP, one nP, one (PySem.W.codeHd_of_K X hC), hb, fun H a ns _ _ hT hS => ⟨a, ns, rfl, hS, hT _ List.mem_cons_self, fun _ => rfl⟩, fun base _ _ hB => F base (hB _ List.mem_cons_self)⟩
end Pu
set_option maxRecDepth 100000
set_option maxHeartbeats 2000000
/-! str, repr, bool of an instance; f-strings; making by keywords -/
namespace Pu
open PySem L2 PySem.Spec PyProof.Rows
section
variable {X : Cx} {k : Nat} {f C : Addr} {fd : FuncData} {ps : List Str} {F : FT} {c : Str} {sp : Sp} {CX : CXT}
/-- the def that answers, run from a built-in -/
theorem run_own {A : Around} {pins : List (Addr × Obj)} {σ : L2.St} {H : Hp} {s : Shared} {a : Addr} {Q : VK} {Q' : Value → Shared → Prop} (Fn : FnOk X.prog X.w X.K X.mg X.base CX k f fd ps sp) (hr : Room k A) (e0 : Env0 X.prog X.w X.K X.mg X.base A X.stack s H) (hb : Binds X.K fd ps []) (hx : Passes CX X E0) (I : Inv X pins σ H s) (q : sp [.ref a] H Q E0)
    (hQ : ∀ u s', EP X pins σ Q u s' → Q' u s') : wpAny (model X.prog X.w) A (call (.ref f) [.ref a]) Q' X.xe s := by
  have hl : ([Value.ref a] : List Value).length = ps.length := by
    rw [← Fn.len _ _ _ _ q]
    rfl
  refine wpAny_call (codeAny_mono (Fn.run A X.stack s H ⟨[.ref a], []⟩ [.ref a] [.ref a] Q E0 hr e0 (by
    have := hb s [.ref a] I.kIn (by simpa using hl)
    simpa using this) (.cons rfl .nil) q) fun r s' hq => ?_)
  cases r with
  | error e => exact hx pins σ H s e s' I hq
  | ok fl =>
    cases fl with
    | ret u => exact hQ u s' (I.after hq)
    | next => exact False.elim hq
    | brk => exact False.elim hq
    | cont => exact False.elim hq
theorem call_strO (hs : PySem.W.findIn X.K (.ref C) "__str__" = some (some (.ref f))) (hf : PySem.W.isFn X.K (.ref f) = true) (Fn : FnOk X.prog X.w X.K X.mg X.base CX k f fd ps sp) (hr : Room (k + 2) X.A) (hb : Binds X.K fd ps []) (hx : Passes CX X E0) :
    CallR X (.type "str") (fun xs H Q => ∃ a dx fs, xs = [.ref a] ∧ H a = some (.ins C dx fs) ∧ sp [.ref a] H (fun v H' => (∃ y, v = .str y) ∧ Q v H') E0) := by
  intro pins s σ H xs us Q I r h
  obtain ⟨a, dx, fs, rfl, ha, q⟩ := h
  obtain ⟨u, rfl, ru⟩ := vals1 r
  obtain rfl : u = Value.ref a := ru
  obtain ⟨mA, J, _⟩ := ins_get I.hok ha
  obtain ⟨od, J, _⟩ := J.look
  have hu : X.A.in1.in1.units < cLine := hr.in1.in1.units0
  refine PySem.W.kso_call hu I.kIn J hs hf (run_own Fn hr.in1.in1 I.env0.in1.in1 hb hx I q fun u s' hE => ?_)
  obtain ⟨v, H', I', rv, ⟨y, rfl⟩, hq⟩ := hE
  obtain ⟨t, rfl⟩ := rv
  exact ⟨.str y, H', I', ⟨t, rfl⟩, hq⟩
theorem call_reprO (hs : PySem.W.findIn X.K (.ref C) "__repr__" = some (some (.ref f))) (hf : PySem.W.isFn X.K (.ref f) = true) (Fn : FnOk X.prog X.w X.K X.mg X.base CX k f fd ps sp) (hr : Room (k + 1) X.A) (hb : Binds X.K fd ps []) (hx : Passes CX X E0) :
    CallR X (.builtin "repr") (fun xs H Q => ∃ a dx fs, xs = [.ref a] ∧ H a = some (.ins C dx fs) ∧ sp [.ref a] H (fun v H' => (∃ y, v = .str y) ∧ Q v H') E0) := by
  intro pins s σ H xs us Q I r h
  obtain ⟨a, dx, fs, rfl, ha, q⟩ := h
  obtain ⟨u, rfl, ru⟩ := vals1 r
  obtain rfl : u = Value.ref a := ru
  obtain ⟨mA, J, _⟩ := ins_get I.hok ha
  obtain ⟨od, J, _⟩ := J.look
  obtain ⟨m, fr⟩ := I.fr
  refine PySem.W.repr_K hr.in1.units0 fr I.ok.mod.kin J hs hf (run_own Fn hr.in1 I.env0.in1 hb hx I q fun u s' hE => ?_)
  obtain ⟨v, H', I', rv, ⟨y, rfl⟩, hq⟩ := hE
  obtain ⟨t, rfl⟩ := rv
  exact ⟨.str y, H', I', ⟨t, rfl⟩, hq⟩
theorem call_boolO (hs : PySem.W.findIn X.K (.ref C) "__bool__" = some (some (.ref f))) (hf : PySem.W.isFn X.K (.ref f) = true) (Fn : FnOk X.prog X.w X.K X.mg X.base CX k f fd ps sp) (hr : Room (k + 2) X.A) (hb : Binds X.K fd ps []) (hx : Passes CX X E0) :
    CallR X (.type "bool") (fun xs H Q => ∃ a dx fs, xs = [.ref a] ∧ H a = some (.ins C dx fs) ∧ sp [.ref a] H (fun v H' => (∃ b, v = .bl b) ∧ Q v H') E0) := by
  intro pins s σ H xs us Q I r h
  obtain ⟨a, dx, fs, rfl, ha, q⟩ := h
  obtain ⟨u, rfl, ru⟩ := vals1 r
  obtain rfl : u = Value.ref a := ru
  obtain ⟨mA, J, _⟩ := ins_get I.hok ha
  obtain ⟨od, J, _⟩ := J.look
  refine callType_codes (T := "bool") (Bi := Builtin.«object.__init__») (Q₁ := fun r s₁ => ∃ b : Bool, r = .bool b ∧ EP X pins σ Q r s₁) PySem.F.called_bool (PySem.F.typeCall_bool_1 _) PySem.F.entry_object_init ?_ ?_
  · refine codeAny_of_tree ?_
    show wpAny _ X.A.in1.in1 (do checkBuiltinCall "bool.__new__" ⟨[.type "bool", .ref a], []⟩; again (.builtin "bool.__new__" ⟨[.type "bool", .ref a], []⟩)) _ _ s
    refine wpAny_bind (wpAny_of_eq (PySem.F.newCall_bool_1 _) (wpAny_pure ⟨plainId_quiet (by decide +kernel) _, codeAny_builtin PySem.F.entry_bool_new ?_⟩))
    rw [Around.under_plainId (by decide +kernel) _]
    unfold Builtin.«bool.__new__»
    have f1 := PySem.F.conv_sub_bool
    obtain ⟨m, fr⟩ := I.fr
    repeat (any_goals (first | assumption | (with_reducible refine PySem.W.truthy_K fr I.ok.mod.kin J hs hf (run_own Fn hr.in1.in1 I.env0.in1.in1 hb hx I q fun u s' hE => ?_)) | wp_step))
    obtain ⟨v, H', I', rv, ⟨b, rfl⟩, hq⟩ := hE
    obtain rfl : u = Value.bool b := rv
    have fin : ∃ b' : Bool, Value.bool b = .bool b' ∧ EP X pins σ Q (.bool b) s' := ⟨b, rfl, .bl b, H', I', rfl, hq⟩
    first
      | exact ⟨_, rfl, fin⟩
      | exact fin
      | exact ⟨rfl, fin⟩
      | exact (show wpAny (model X.prog X.w) X.A.in1.in1 (ret (Value.bool b)) _ _ s' from wpAny_pure fin)
      | exact (show wpAny (model X.prog X.w) X.A.in1.in1 (ret (Value.bool b)) _ _ s' from wpAny_pure ⟨_, rfl, fin⟩)
  · rintro obj s₁ ⟨b, rfl, hq⟩
    exact ⟨PySem.typeIs_bool _ _, PySem.F.args_object_init_2 _ _, object_init_meets PySem.F.called_bool.init.lookup PySem.F.called_bool.made (by decide) X.prog X.w X.A.in1 _ s₁ ⟨PySem.typeIs_bool _ _, rfl, hq⟩⟩
end
/-! ### over data -/
section
variable {X : Cx} {k : Nat} {f C : Addr} {fd : FuncData} {ps : List Str} {F : FT} {c : Str}
theorem ins_of {K : PySem.W.Frag} {mg : Str → Option Value} {b : Option Addr} {G : Hp} {v : V} {fs : List (Str × D)} (hmg : mg c = some (.ref C)) (r : Rep ⟨K, mg, b⟩ G v (.ins c fs)) : ∃ a dx fv, v = .ref a ∧ G a = some (.ins C dx fv) := by
  cases r with
  | ins m1 ci g1 rf =>
    have m2 : mg c = some (.ref _) := m1
    rw [hmg] at m2
    cases m2
    exact ⟨_, _, _, rfl, g1⟩
def rdStrO (c : Str) (F : FT) : RDA := fun ds P => match ds with
  | [.int i] => i.natAbs.log2 < 1920 ∧ P (.str (toString i))
  | [.ins c' fs] => c' = c ∧ F [.ins c' fs] (fun d => (∃ y, d = .str y) ∧ P d) (fun _ => False)
  | _ => False
theorem rep_str {w : Wd} {G : Hp} {v : V} {y : Str} (r : Rep w G v (.str y)) : v = .str y := by cases r; rfl
theorem rep_bl {w : Wd} {G : Hp} {v : V} {y : Bool} (r : Rep w G v (.bl y)) : v = .bl y := by cases r; rfl
theorem pc_strO (hmg : X.mg c = some (.ref C)) (hs : PySem.W.findIn X.K (.ref C) "__str__" = some (some (.ref f))) (hf : PySem.W.isFn X.K (.ref f) = true) (Fn : FnOk X.prog X.w X.K X.mg X.base (L2.CX X.prog X.w) k f fd ps (spP X.K X.mg 1 F)) (hr : Room (k + 2) X.A) (hb : Binds X.K fd ps []) :
    PRA X (.type "str") (rdStrO c F) := by
  refine ⟨_, CallR.or call_str_int (call_strO hs hf Fn hr hb passL), ?_⟩
  intro w G H ds vs P Q hK hm hp rs h hq
  unfold rdStrO at h
  split at h
  · obtain ⟨v, rfl, r⟩ := rs.inv1
    cases r
    exact .inl ⟨_, rfl, h.1, hq _ _ G H h.2 (Post.refl hp) .str⟩
  · obtain ⟨v, rfl, r⟩ := rs.inv1
    obtain ⟨e, h⟩ := h
    subst e
    obtain ⟨K, mg, b⟩ := w
    cases hK
    cases hm
    obtain ⟨a, dx, fv, rfl, g1⟩ := ins_of hmg r
    exact .inr ⟨_, _, _, rfl, hp.exG _ _ g1, b, G, _, _, _, hp, .cons r .nil, rfl, h, fun d v G' H' ⟨⟨y, e⟩, p⟩ po r => ⟨⟨y, rep_str (by rw [← e]; exact r)⟩, hq d v G' H' p po r⟩, fun x cls dct G' H' p po r => p.elim⟩
  · exact h.elim
def rdReprO (c : Str) (F : FT) : RDA := fun ds P => match ds with
  | [.ins c' fs] => c' = c ∧ F [.ins c' fs] (fun d => (∃ y, d = .str y) ∧ P d) (fun _ => False)
  | _ => False
theorem pc_reprO (hmg : X.mg c = some (.ref C)) (hs : PySem.W.findIn X.K (.ref C) "__repr__" = some (some (.ref f))) (hf : PySem.W.isFn X.K (.ref f) = true) (Fn : FnOk X.prog X.w X.K X.mg X.base (L2.CX X.prog X.w) k f fd ps (spP X.K X.mg 1 F)) (hr : Room (k + 1) X.A) (hb : Binds X.K fd ps []) :
    PRA X (.builtin "repr") (rdReprO c F) := by
  refine ⟨_, call_reprO hs hf Fn hr hb passL, ?_⟩
  intro w G H ds vs P Q hK hm hp rs h hq
  unfold rdReprO at h
  split at h
  · obtain ⟨v, rfl, r⟩ := rs.inv1
    obtain ⟨e, h⟩ := h
    subst e
    obtain ⟨K, mg, b⟩ := w
    cases hK
    cases hm
    obtain ⟨a, dx, fv, rfl, g1⟩ := ins_of hmg r
    exact ⟨_, _, _, rfl, hp.exG _ _ g1, b, G, _, _, _, hp, .cons r .nil, rfl, h, fun d v G' H' ⟨⟨y, e⟩, p⟩ po r => ⟨⟨y, rep_str (by rw [← e]; exact r)⟩, hq d v G' H' p po r⟩, fun x cls dct G' H' p po r => p.elim⟩
  · exact h.elim
def rdBool : RDA := fun ds P => match ds with
  | [.int i] => P (.bl (i != 0))
  | [.bl b] => P (.bl b)
  | _ => False
theorem pc_bool : PRA X (.type "bool") rdBool := by
  refine ⟨_, call_bool1, ?_⟩
  intro w G H ds vs P Q hK hm hp rs h hq
  unfold rdBool at h
  split at h
  · obtain ⟨v, rfl, r⟩ := rs.inv1
    cases r
    exact .inl ⟨_, rfl, hq _ _ G H h (Post.refl hp) .bl⟩
  · obtain ⟨v, rfl, r⟩ := rs.inv1
    cases r
    exact .inr ⟨_, rfl, hq _ _ G H h (Post.refl hp) .bl⟩
  · exact h.elim
def rdBoolO (c : Str) (F : FT) : RDA := fun ds P => match ds with
  | [.int i] => P (.bl (i != 0))
  | [.bl b] => P (.bl b)
  | [.ins c' fs] => c' = c ∧ F [.ins c' fs] (fun d => (∃ y, d = .bl y) ∧ P d) (fun _ => False)
  | _ => False
theorem pc_boolO (hmg : X.mg c = some (.ref C)) (hs : PySem.W.findIn X.K (.ref C) "__bool__" = some (some (.ref f))) (hf : PySem.W.isFn X.K (.ref f) = true) (Fn : FnOk X.prog X.w X.K X.mg X.base (L2.CX X.prog X.w) k f fd ps (spP X.K X.mg 1 F)) (hr : Room (k + 2) X.A) (hb : Binds X.K fd ps []) :
    PRA X (.type "bool") (rdBoolO c F) := by
  refine ⟨_, CallR.or call_bool1 (call_boolO hs hf Fn hr hb passL), ?_⟩
  intro w G H ds vs P Q hK hm hp rs h hq
  unfold rdBoolO at h
  split at h
  · obtain ⟨v, rfl, r⟩ := rs.inv1
    cases r
    exact .inl (.inl ⟨_, rfl, hq _ _ G H h (Post.refl hp) .bl⟩)
  · obtain ⟨v, rfl, r⟩ := rs.inv1
    cases r
    exact .inl (.inr ⟨_, rfl, hq _ _ G H h (Post.refl hp) .bl⟩)
  · obtain ⟨v, rfl, r⟩ := rs.inv1
    obtain ⟨e, h⟩ := h
    subst e
    obtain ⟨K, mg, b⟩ := w
    cases hK
    cases hm
    obtain ⟨a, dx, fv, rfl, g1⟩ := ins_of hmg r
    exact .inr ⟨_, _, _, rfl, hp.exG _ _ g1, b, G, _, _, _, hp, .cons r .nil, rfl, h, fun d v G' H' ⟨⟨y, e⟩, p⟩ po r => ⟨⟨y, rep_bl (by rw [← e]; exact r)⟩, hq d v G' H' p po r⟩, fun x cls dct G' H' p po r => p.elim⟩
  · exact h.elim
end
/-! ### f-strings -/
section
variable {X : Cx} {W : WX} {e : Expr} {w : WE} {pos : Pos}
def wFmt (w : WE) : WE := fun env P R => w env (fun d e => match d with
  | .str y => y.length ≤ sizeLine ∧ P (.str y) e
  | .int i => i.natAbs.log2 < 1920 ∧ P (.str (toString i)) e
  | _ => False) R
theorem px_fmt (h : PX X W e w) : PX X W (.FormattedValue e (-1) none pos) (wFmt w) := by
  obtain ⟨t, a1, a2⟩ := h.ex
  refine ⟨⟨_, pe_fmt a1, fun F env σ G H P R Q hx hs hw hq hk => a2 F env σ G H _ R _ hx hs hw (fun d e1 v G1 H1 p s1 x1 r1 => ?_) hk⟩⟩
  cases d <;> first | exact p.elim | skip
  · cases r1
    exact .inr ⟨_, rfl, p.1, hq _ e1 _ G1 H1 p.2 s1 x1 .str⟩
  · cases r1
    exact .inl ⟨_, rfl, p.1, hq _ e1 _ G1 H1 p.2 s1 x1 .str⟩
def wJs : List WE → Str → En → (Str → En → Prop) → QX → Prop
  | [], acc, env, P, _ => P acc env
  | w :: ws, acc, env, P, R => w env (fun d e => match d with
    | .str y => (acc ++ y).length ≤ sizeLine ∧ wJs ws (acc ++ y) e P R
    | _ => False) R
inductive PXJ (X : Cx) (W : WX) : List Expr → List WE → Prop
  | nil : PXJ X W [] []
  | cons {e : Expr} {w : WE} {es : List Expr} {ws : List WE} : PX X W e w → PXJ X W es ws → PXJ X W (e :: es) (w :: ws)
theorem pxj_run {es : List Expr} {ws : List WE} (h : PXJ X W es ws) : ∃ ts, PJ X es ts ∧ ∀ (acc : Str) (F : Fc) (env : En) (σ : L2.St) (G H : Hp) (P : Str → En → Prop) (R : QX) (Q : Str → Hp → Prop), XOk X F → SI F env σ G H → wJs ws acc env P R →
    (∀ y env' G' H', P y env' → SI F env' σ G' H' → Ex G G' → Q y H') → XK' F W σ R → tJs ts acc σ H Q := by
  induction h with
  | nil => exact ⟨[], .nil, fun acc F env σ G H P R Q hx hs hw hq hk => hq acc env G H hw hs (Ex.refl _)⟩
  | cons he _ ih =>
    obtain ⟨t, a1, a2⟩ := he.ex
    obtain ⟨ts, b1, b2⟩ := ih
    refine ⟨t :: ts, .cons a1 b1, fun acc F env σ G H P R Q hx hs hw hq hk => a2 F env σ G H _ R _ hx hs hw (fun d e1 v G1 H1 p s1 x1 r1 => ?_) hk⟩
    cases d <;> first | exact p.elim | skip
    cases r1
    exact ⟨_, rfl, p.1, b2 _ F e1 σ G1 H1 P R Q hx s1 p.2 (fun y e2 G2 H2 p2 s2 x2 => hq y e2 G2 H2 p2 s2 (x1.trans x2)) hk⟩
def wJoin (ws : List WE) : WE := fun env P R => wJs ws Str.empty env (fun y e => P (.str y) e) R
theorem px_joined {v1 v2 : Expr} {rest : List Expr} {ws : List WE} (h : PXJ X W (v1 :: v2 :: rest) ws) : PX X W (.JoinedStr (v1 :: v2 :: rest) pos) (wJoin ws) := by
  obtain ⟨ts, a1, a2⟩ := pxj_run h
  exact ⟨⟨_, pe_joined a1, fun F env σ G H P R Q hx hs hw hq hk => a2 _ F env σ G H _ R _ hx hs hw (fun y e1 G1 H1 p s1 x1 => hq _ e1 _ G1 H1 p s1 x1 .str) hk⟩⟩
end
/-! ### C(k = e, ..) -/
def permK {α : Type} (ix : List Nat) (l : List α) : List α := ix.filterMap fun i => l[i]?
theorem permK_vals {zs : List V} {ws : List Value} (r : Vals zs ws) : ∀ ix : List Nat, Vals (permK ix zs) (permK ix ws)
  | [] => .nil
  | i :: ix => by
    unfold permK
    rw [List.filterMap_cons, List.filterMap_cons]
    have t := permK_vals r ix
    have key : ∀ {zs : List V} {ws : List Value}, Vals zs ws → ∀ i : Nat, (zs[i]? = none ∧ ws[i]? = none) ∨ ∃ v u, zs[i]? = some v ∧ ws[i]? = some u ∧ RelV v u := by
      intro zs ws r
      induction r with
      | nil => intro i; exact .inl ⟨by simp, by simp⟩
      | cons h _ ih =>
        intro i
        cases i with
        | zero => exact .inr ⟨_, _, rfl, rfl, h⟩
        | succ i => simpa using ih i
    rcases key r i with ⟨e1, e2⟩ | ⟨v, u, e1, e2, e3⟩
    · rw [e1, e2]
      exact t
    · rw [e1, e2]
      exact .cons e3 t
theorem permK_reps {w : Wd} {G : Hp} {zs : List V} {ds : List D} (r : Reps w G zs ds) : ∀ ix : List Nat, Reps w G (permK ix zs) (permK ix ds)
  | [] => .nil
  | i :: ix => by
    unfold permK
    rw [List.filterMap_cons, List.filterMap_cons]
    have t := permK_reps r ix
    cases e : zs[i]? with
    | none =>
      have e2 : ds[i]? = none := by
        rw [List.getElem?_eq_none_iff] at e ⊢
        rw [← r.length]
        exact e
      rw [e2]
      exact t
    | some v =>
      obtain ⟨d, e2, h⟩ := r.get e
      rw [e2]
      exact .cons h t
section
variable {X : Cx} {W : WX} {k n : Nat} {f C : Addr} {fd : FuncData} {ps ks : List Str} {F : FT} {c : Str} {p pos : Pos} {kws : List Keyword} {u : WA} {ix : List Nat}
def wMakeK (F : FT) (n : Nat) (ix : List Nat) (u : WA) : WE := fun env P R => u env (fun ds e => ds.length = n ∧ (permK ix ds).length = n ∧ F (permK ix ds) (fun d => P d e) fun _ => False) R
theorem px_makeK (ci : CI X.K C) (M : Mk X.K C f) (Fn : FnOk X.prog X.w X.K X.mg X.base (L2.CX X.prog X.w) k f fd ps (spI X.K X.mg c n F)) (hr : Room (k + 1) X.A) (hg : Gl X c) (hmg : X.mg c = some (.ref C)) (hb : KBn X.K fd ps 1 ks (fun us ws => us ++ permK ix ws) (fun vs zs => vs ++ permK ix zs))
    (hkw : PXK X W kws u) (hlen : ks.length = n) (hall : (backToKw pos (keywordEach kws X.env)).all (·.1.isSome) = true := by rfl) (hks : (backToKw pos (keywordEach kws X.env)).filterMap (·.1) = ks := by rfl) (hdb : (c == ("__debug__" : Str)) = false := by decide)
    (hpl : ((backTo pos (starEach [] X.env)).any (·.1) || (backToKw pos (keywordEach kws X.env)).any (·.1.isNone)) = false := by rfl) :
    PX X W (.Call (.Name c p) [] kws pos) (wMakeK F n ix u) := by
  obtain ⟨t, a1, a2⟩ := hkw.ex
  refine ⟨⟨_, pe_makeK0 (E := E0) M Fn hr hg hmg hb passL a1 hall hks hdb hpl, fun Fc' env σ G H P R Q hx hs hw hq hk => a2 Fc' env σ G H _ R _ hx hs hw (fun as e1 vs G1 H1 p1 s1 x1 r1 => ?_) hk⟩⟩
  refine ⟨rfl, by rw [r1.length, hlen]; exact p1.1, fun x dx h1 h2 h3 => ?_⟩
  obtain ⟨⟨K, mg, b⟩, G0, H0, pins, self, tabs⟩ := Fc'
  obtain ⟨e1', e2', _⟩ := hx
  cases e1'
  cases e2'
  exact ⟨b, G1, H1, x, dx, C, permK ix vs, permK ix as, _, _, rfl, rfl, h1, h2, h3, hmg, ci, s1.pre, permK_reps r1 ix, p1.2.1, p1.2.2, fun fs G' H' p po r => ⟨rfl, hq _ e1 _ G' H' p (s1.step po) (x1.trans po.ex) r⟩, fun x cls dct G' H' p po r => p.elim⟩
end
end Pu
set_option maxRecDepth 100000
/-! f(k = e, ..) that may raise -/
namespace Pu
open PySem L2 PySem.Spec PyProof.Rows
theorem px_callKX {X : Cx} {W : WX} {k n : Nat} {f : Addr} {fd : FuncData} {ps ks : List Str} {F : FT} {x : Str} {p pos : Pos} {kws : List Keyword} {u : WA} (Fn : FnOk X.prog X.w X.K X.mg X.base (L2.CX X.prog X.w) k f fd ps (spP X.K X.mg n F)) (hr : Room k X.A) (hg : Gl X x) (hm : X.mg x = some (.ref f)) (hk : PySem.W.keepIn X.K (.ref f) = true)
    (hb : KBinds X.K fd ps ks (fun us ws => us ++ ws) (fun vs zs => vs ++ zs)) (tk : Takes X W) (hkw : PXK X W kws u) (hall : (backToKw pos (keywordEach kws X.env)).all (·.1.isSome) = true := by rfl) (hks : (backToKw pos (keywordEach kws X.env)).filterMap (·.1) = ks := by rfl) (hdb : (x == ("__debug__" : Str)) = false := by decide)
    (hpl : ((backTo pos (starEach [] X.env)).any (·.1) || (backToKw pos (keywordEach kws X.env)).any (·.1.isNone)) = false := by rfl) :
    PX X W (.Call (.Name x p) [] kws pos) (wCall (fun ds P R => ds.length = n ∧ F ds P R) [] u) := by
  obtain ⟨t, a1, a2⟩ := hkw.ex
  refine ⟨⟨fun σ H Q => t σ H fun vs H1 => spP X.K X.mg n F vs H1 Q (L2.WE W σ), ⟨fun pins s σ H Q I h => ?_⟩, fun Fc' env σ G H P R Q hx hs hw hq hk => a2 Fc' env σ G H _ R _ hx hs hw (fun as e1 vs G1 H1 p1 s1 x1 r1 => ?_) hk⟩⟩
  · refine wpAny_Call_Name_kw (ld_glob I hg hm ?_ hdb)
    refine PySem.W.callWith_KW0 (h₀ := X.base) I.ok.mod.kin hk hall ?_ hpl
    refine thn (a1.run pos pins s σ H _ I h) fun ws s2 ⟨vs, H2, I2, r, q2⟩ => ⟨I2.kIn, ?_⟩
    rw [hks]
    have hl : (([] : List Value) ++ ws).length = ps.length := by
      have := Fn.len _ _ _ _ q2
      rw [← this, r.length]
      rfl
    refine wpAny_call (codeAny_mono (Fn.run X.A X.stack s2 H2 ⟨[], ks.zip ws⟩ ws vs Q (L2.WE W σ) hr I2.env0 (hb.to s2 [] ws I2.kIn hl) r q2) fun r s' hq => ?_)
    cases r with
    | error e => exact passAt tk σ pins H2 s2 e s' I2 hq
    | ok fl =>
      cases fl with
      | ret u => exact I2.after hq
      | next => exact False.elim hq
      | brk => exact False.elim hq
      | cont => exact False.elim hq
  · have := call_run (dd := []) (dvs := []) (vs := vs) (as := as) (n := n) hx p1.1 (fun _ _ => .nil) s1 r1 p1.2 (fun d e' v G' H' p s x r => hq d e' v G' H' p s (x1.trans x) r) hk
    rw [List.append_nil] at this
    exact this
end Pu
set_option maxRecDepth 100000
set_option maxHeartbeats 2000000
/-! Classes as values, classmethods; partition -/
namespace Pu
open PySem L2 PySem.Spec PyProof.Rows
section
variable {X : Cx} {W : WX} {k n : Nat} {C p g f : Addr} {fd : FuncData} {ps ks : List Str} {F : FT} {c m x : Str} {mc : Value} {pos apos pn : Pos} {e : Expr} {es : List Expr} {u : WA} {ds : List Value} {dvs : List V} {dd : List D} {kws : List Keyword}
/-- the class by its name -/
theorem px_typ (hg : Gl X c) (hm : X.mg c = some (.ref C)) (hd : (c == ("__debug__" : Str)) = false := by decide) : PX X W (.Name c pn) (wC (.typ c)) :=
  ⟨⟨_, pe_glob (v := .ref C) hg hm rfl hd, fun F env σ G H P R Q hx hs hw hq hk => hq _ env _ G H hw hs (Ex.refl _) (.typ (by rw [hx.m]; exact hm))⟩⟩
theorem run_cmS {pins : List (Addr × Obj)} {σ : L2.St} {H : Hp} {s : Shared} {Q : VK} {q : Addr} {us : List Value} {vs : List V} {kw : List (Str × Value)} {full : List Value} {sp : Sp} (Fn : FnOk X.prog X.w X.K X.mg X.base (L2.CX X.prog X.w) k g fd ps sp) (hr : Room k X.A) (tk : Takes X W) (I : Inv X ((q, PySem.W.methodObj (.ref g) (.ref C)) :: pins) σ H s)
    (hb : BindsTo s fd ⟨.ref C :: us, kw⟩ (ps.zip (.ref C :: full))) (r : Vals vs full) (h : sp (.ref C :: vs) H Q (L2.WE W σ)) : wpAny (model X.prog X.w) X.A (call (.ref q) us kw) (EP X pins σ Q) X.xe s := by
  refine wpAny_call (PySem.W.method_call (ClX.pin_at I) (codeAny_mono (Fn.run X.A X.stack s H ⟨.ref C :: us, kw⟩ (.ref C :: full) (.ref C :: vs) Q (L2.WE W σ) hr I.env0 hb (.cons rfl r) h) fun r s' hq => ?_))
  cases r with
  | error e => exact passAt tk σ _ H s e s' I hq
  | ok fl =>
    cases fl with
    | ret u => exact ClX.unpinE (I.after hq)
    | next => exact False.elim hq
    | brk => exact False.elim hq
    | cont => exact False.elim hq
/-- C.m(e, ..) -/
def wCMeth (c : Str) (n : Nat) (F : FT) (u : WA) : WE := fun env P R => u env (fun ds e => (D.typ c :: ds).length = n ∧ F (.typ c :: ds) (fun d => P d e) fun x => R x e) R
theorem px_cmeth {pl : Sem Bool} (r : ClX.CRead X.K C mc) (cm : ClX.CMet X.K C mc m p g) (hg : Gl X c) (hmg : X.mg c = some (.ref C)) (Fn : FnOk X.prog X.w X.K X.mg X.base (L2.CX X.prog X.w) k g fd ps (spP X.K X.mg n F)) (hr : Room k X.A) (hb : Binds X.K fd ps []) (tk : Takes X W)
    (ha : PXA X W (e :: es) u) (hd : (c == ("__debug__" : Str)) = false := by decide)
    (hst : starEach (e :: es) X.env = (false, eval e X.env) :: starEach es X.env := by rfl) (hpl : (backTo pos (starEach es X.env)).any (·.1) = false := by rfl)
    (ht : eval (.Call (.Attribute (.Name c pn) m apos) (e :: es) [] pos) X.env = (do
      let ov ← eval (.Name c pn) X.env
      standAt apos.atName
      let (f, first) ← holding [ov] (getMethod ov m pl)
      callWith pos f first (backTo pos (starEach (e :: es) X.env)) (backToKw pos (keywordEach [] X.env))) := by rfl) :
    PX X W (.Call (.Attribute (.Name c pn) m apos) (e :: es) [] pos) (wCMeth c n F u) := by
  obtain ⟨t, a1, a2⟩ := ha.ex
  refine ⟨⟨fun σ H Q => t σ H fun vs H1 => spP X.K X.mg n F (.ref C :: vs) H1 Q (L2.WE W σ), ⟨fun pins s σ H Q I h => ?_⟩, fun Fc' env σ G H P R Q hx hs hw hq hk => a2 Fc' env σ G H _ R _ hx hs hw (fun as e1 vs G1 H1 p1 s1 x1 r1 => ?_) hk⟩⟩
  · refine PySem.W.methodCall_KW (pl := pl) (thn ((pe_glob (v := .ref C) (pos := pn) hg hmg rfl hd).run pins s σ H (fun v H1 => v = .ref C ∧ H1 = H) I ⟨rfl, rfl⟩) fun u s1 hh => ?_) ht
    obtain ⟨v, H1, I1, rx, rfl, rfl⟩ := hh
    obtain rfl : u = Value.ref C := rx
    refine ClX.getmethcm_ok I1 r cm fun s2 I2 => ?_
    refine ClX.callwith_cm I2 (ClX.base_none I1 (Nat.le_refl _)) cm.fi (thn (a1.run pos _ s2 σ H1 _ I2 h) fun us s3 ⟨vs, H2, I3, rv, q2⟩ => ⟨⟨ClX.pin_at I3, I3.kIn⟩, ?_⟩) hst hpl
    have hl : (Value.ref C :: us).length = ps.length := by
      have := Fn.len _ _ _ _ q2
      rw [← this, List.length_cons, List.length_cons, rv.length]
    exact run_cmS (kw := []) (full := us) Fn hr tk I3 (by have := hb s3 (.ref C :: us) I3.kIn (by simpa using hl); simpa using this) rv q2
  · have pp : ((D.typ c :: as) ++ ([] : List D)).length = n ∧ F ((D.typ c :: as) ++ []) (fun d => P d e1) fun x => R x e1 := by rw [List.append_nil]; exact p1
    have := call_run (dd := []) (dvs := []) (vs := .ref C :: vs) (n := n) hx pp.1 (fun _ _ => .nil) s1 (.cons (.typ (by rw [hx.m]; exact hmg)) r1) pp.2 (fun d e' v G' H' p s x r => hq d e' v G' H' p s (x1.trans x) r) hk
    rw [List.append_nil] at this
    exact this
/-- C.m(k = e, ..) -/
theorem px_cmethK {pl : Sem Bool} (r : ClX.CRead X.K C mc) (cm : ClX.CMet X.K C mc m p g) (hg : Gl X c) (hmg : X.mg c = some (.ref C)) (Fn : FnOk X.prog X.w X.K X.mg X.base (L2.CX X.prog X.w) k g fd ps (spP X.K X.mg n F)) (hr : Room k X.A)
    (hb : ∀ (s : Shared) (a : Value) (ws : List Value), (a :: ws).length = ps.length → BindsTo s fd ⟨[a], ks.zip ws⟩ (ps.zip (a :: ws))) (tk : Takes X W) (hkw : PXK X W kws u) (hd : (c == ("__debug__" : Str)) = false := by decide)
    (hall : (backToKw pos (keywordEach kws X.env)).all (·.1.isSome) = true := by rfl) (hks : (backToKw pos (keywordEach kws X.env)).filterMap (·.1) = ks := by rfl)
    (hpl : ((backTo pos (starEach [] X.env)).any (·.1) || (backToKw pos (keywordEach kws X.env)).any (·.1.isNone)) = false := by rfl)
    (ht : eval (.Call (.Attribute (.Name c pn) m apos) [] kws pos) X.env = (do
      let ov ← eval (.Name c pn) X.env
      standAt apos.atName
      let (f, first) ← holding [ov] (getMethod ov m pl)
      callWith pos f first (backTo pos (starEach [] X.env)) (backToKw pos (keywordEach kws X.env))) := by rfl) :
    PX X W (.Call (.Attribute (.Name c pn) m apos) [] kws pos) (wCMeth c n F u) := by
  obtain ⟨t, a1, a2⟩ := hkw.ex
  refine ⟨⟨fun σ H Q => t σ H fun vs H1 => spP X.K X.mg n F (.ref C :: vs) H1 Q (L2.WE W σ), ⟨fun pins s σ H Q I h => ?_⟩, fun Fc' env σ G H P R Q hx hs hw hq hk => a2 Fc' env σ G H _ R _ hx hs hw (fun as e1 vs G1 H1 p1 s1 x1 r1 => ?_) hk⟩⟩
  · refine PySem.W.methodCall_KW (pl := pl) (thn ((pe_glob (v := .ref C) (pos := pn) hg hmg rfl hd).run pins s σ H (fun v H1 => v = .ref C ∧ H1 = H) I ⟨rfl, rfl⟩) fun u s1 hh => ?_) ht
    obtain ⟨v, H1, I1, rx, rfl, rfl⟩ := hh
    obtain rfl : u = Value.ref C := rx
    refine ClX.getmethcm_ok I1 r cm fun s2 I2 => ?_
    refine PySem.W.callWith_of (P := PySem.W.MethP X.K s1.heap.objs.size g (.ref C)) hpl (PySem.W.keeps_M cm.fi) (PyProof.Rows.evalArgs_kw2_nil hall ?_)
    refine thn (a1.run pos _ s2 σ H1 _ I2 h) fun ws s3 ⟨vs, H2, I3, rv, q2⟩ => ⟨⟨ClX.pin_at I3, I3.kIn⟩, ?_⟩
    rw [hks]
    have hl : (Value.ref C :: ws).length = ps.length := by
      have := Fn.len _ _ _ _ q2
      rw [← this, List.length_cons, List.length_cons, rv.length]
    exact run_cmS (us := []) (full := ws) Fn hr tk I3 (hb s3 _ ws hl) rv q2
  · have pp : ((D.typ c :: as) ++ ([] : List D)).length = n ∧ F ((D.typ c :: as) ++ []) (fun d => P d e1) fun x => R x e1 := by rw [List.append_nil]; exact p1
    have := call_run (dd := []) (dvs := []) (vs := .ref C :: vs) (n := n) hx pp.1 (fun _ _ => .nil) s1 (.cons (.typ (by rw [hx.m]; exact hmg)) r1) pp.2 (fun d e' v G' H' p s x r => hq d e' v G' H' p s (x1.trans x) r) hk
    rw [List.append_nil] at this
    exact this
/-- cls(e, ..), cls a name that holds the class -/
def wMakeV (i : Nat) (c : Str) (F : FT) (n : Nat) (dd : List D) (u : WA) : WE := fun env P R => (∃ d, env[i]? = some (.v (.typ d)) ∧ d = c) ∧ wMake F n dd u env P R
theorem px_makeV {i : Nat} {a : Str} (ci : CI X.K C) (M : Mk X.K C f) (Fn : FnOk X.prog X.w X.K X.mg X.base (L2.CX X.prog X.w) k f fd ps (spI X.K X.mg c n F)) (hr : Room (k + 1) X.A) (hmg : X.mg c = some (.ref C)) (hb : Binds X.K fd ps ds) (hd : Vals dvs ds) (hdd : ∀ (w : Wd) (G : Hp), Reps w G dvs dd) (tk : Takes X W)
    (ha : PXA X W (e :: es) u) (hN : X.N[i]? = some a) (hv : Vis X.env.scope a) (hda : (a == ("__debug__" : Str)) = false := by decide) (hcd : (a == ("__classdict__" : Str)) = false := by decide) (he : starEach (e :: es) X.env = (false, eval e X.env) :: starEach es X.env := by rfl) (hpl : (backTo pos (starEach es X.env)).any (·.1) = false := by rfl) :
    PX X W (.Call (.Name a pn) (e :: es) [] pos) (wMakeV i c F n dd u) := by
  obtain ⟨t, a1, a2⟩ := ha.ex
  refine ⟨⟨fun σ H Q => σ[i]? = some (some (.ref C)) ∧ t σ H fun vs H1 => ∀ x dx, H1 x = none → H1 dx = none → dx ≠ x → spI X.K X.mg c n F (.ref x :: (vs ++ dvs)) (upd (upd H1 dx (.own x)) x (.ins C dx [])) (fun v H2 => v = .non ∧ Q (.ref x) H2) (L2.WE W σ), ⟨fun pins s σ H Q I h => ?_⟩, fun Fc' env σ G H P R Q hx hs hw hq hk => ⟨?_, a2 Fc' env σ G H _ R _ hx hs hw.2 (fun as e1 vs G1 H1 p1 s1 x1 r1 => ?_) hk⟩⟩⟩
  · obtain ⟨hσ, h⟩ := h
    refine wpAny_Call_Name_kw (thn ((pe_var (pos := pn) (i := i) hN hv hda hcd).run pins s σ H (fun v H1 => v = .ref C ∧ H1 = H) I ⟨.ref C, hσ, rfl, rfl⟩) fun u s1 hh => ?_)
    obtain ⟨v, H1, I1, r1, rfl, rfl⟩ := hh
    obtain rfl : u = Value.ref C := r1
    refine PySem.W.callWith_K (h₀ := X.base) I.ok.mod.kin M.kp (thn (a1.run pos pins s1 σ H1 _ I1 h) fun us s2 ⟨vs, H2, I2, r, q⟩ => ⟨I2.kIn, ?_⟩) he hpl
    exact run_makeS M Fn hr hb hd (passAt tk σ) I2 r q
  · obtain ⟨d, e1, rfl⟩ := hw.1
    obtain ⟨v, h1, h2⟩ := hs.sl i _ e1
    cases h2 with
    | typ hm =>
      rw [hx.m, hmg] at hm
      cases hm
      exact h1
  · exact make_run ci hmg hx p1.1 hdd s1 r1 p1.2 (fun d e' v G' H' p s x r => hq d e' v G' H' p s (x1.trans x) r) hk
theorem px_makeVD {i : Nat} {a : Str} (ci : CI X.K C) (M : Mk X.K C f) (Fn : FnOk X.prog X.w X.K X.mg X.base (L2.CX X.prog X.w) k f fd ps (spI X.K X.mg c n F)) (hr : Room (k + 1) X.A) (hmg : X.mg c = some (.ref C)) (hbd : ∃ ds, Vals dvs ds ∧ Binds X.K fd ps ds) (hdd : ∀ (w : Wd) (G : Hp), Reps w G dvs dd) (tk : Takes X W)
    (ha : PXA X W (e :: es) u) (hN : X.N[i]? = some a) (hv : Vis X.env.scope a) (hda : (a == ("__debug__" : Str)) = false := by decide) (hcd : (a == ("__classdict__" : Str)) = false := by decide) (he : starEach (e :: es) X.env = (false, eval e X.env) :: starEach es X.env := by rfl) (hpl : (backTo pos (starEach es X.env)).any (·.1) = false := by rfl) :
    PX X W (.Call (.Name a pn) (e :: es) [] pos) (wMakeV i c F n dd u) := by
  obtain ⟨ds, h1, h2⟩ := hbd
  exact px_makeV ci M Fn hr hmg h2 h1 hdd tk ha hN hv hda hcd he hpl
end
/-! ### str * int -/
def rdMulS : RD2 := fun x y P => match x, y with
  | .str a, .int n => MulOk a n ∧ P (.str (Txt.mul a n))
  | _, _ => False
theorem op_smul {X : Cx} : OpR X (binaryOp .Mult) (fun x y H Q => ∃ i j, x = .str i ∧ y = .int j ∧ MulOk i j ∧ Q (.str (Txt.mul i j)) H) := by
  intro pins s σ H x y v u Q I rx ry h
  obtain ⟨i, j, rfl, rfl, hz, q⟩ := h
  obtain ⟨t, rfl⟩ := rx
  obtain ⟨t', rfl⟩ := ry
  exact SB.mul hz fun t' tk => ⟨.str _, H, I.tok _, ⟨_, rfl⟩, q⟩
theorem pr_mulS {X : Cx} : PR2 X (binaryOp .Mult) rdMulS := by
  refine ⟨_, op_smul, ?_⟩
  intro w G H x y vx vy P Q hK hm hp rx ry h hq
  cases x <;> first | exact h.elim | skip
  cases y <;> first | exact h.elim | skip
  cases rx
  cases ry
  exact ⟨_, _, rfl, rfl, h.1, hq _ _ G H h.2 (Post.refl hp) .str⟩
/-! ### partition -/
def rdPart : RDM := fun o ds P => match o, ds with
  | .str a, [.str b] => (b.length == 0) = false ∧ a.length ≤ sizeLine ∧ P (.tup [.str (Txt.partition a b).1, .str (Txt.partition a b).2.1, .str (Txt.partition a b).2.2])
  | _, _ => False
theorem px_part {X : Cx} {W : WX} {o e : Expr} {wo wa : WE} {apos pos : Pos} (ho : PX X W o wo) (he : PX X W e wa) (hs : starEach [e] X.env = [(false, eval e X.env)] := by rfl) (hbase : attributeBase o "partition" X.env (eval o X.env) = eval o X.env := by rfl) (hline : (apos.endLine == pos.line) = true := by rfl) :
    PX X W (.Call (.Attribute o "partition" apos) [e] [] pos) (wM1 rdPart wo wa) := by
  obtain ⟨t, a1, a2⟩ := ho.ex
  obtain ⟨u, b1, b2⟩ := he.ex
  refine ⟨⟨_, pe_partition a1 b1 hs hbase hline, fun F env σ G H P R Q hx hs hw hq hk => a2 F env σ G H _ R _ hx hs hw (fun d1 e1 v1 G1 H1 p1 s1 x1 r1 => ?_) hk⟩⟩
  cases d1 <;> first | exact p1.elim | skip
  refine ⟨⟨_, r1.asStr⟩, b2 F e1 σ G1 H1 _ R _ hx s1 p1 (fun d2 e2 v2 G2 H2 p2 s2 x2 r2 => ?_) hk⟩
  cases d2 <;> first | exact p2.elim | skip
  cases r1
  cases r2
  rename_i x y
  obtain ⟨h1, h2, h3⟩ := p2
  refine ⟨_, _, rfl, rfl, h1, h2, fun p hp => ?_⟩
  have po := Post.new1 (o := .tup [.str (Txt.partition x y).1, .str (Txt.partition x y).2.1, .str (Txt.partition x y).2.2]) s2.pre hp
  exact hq _ e2 _ _ _ h3 (s2.step po) (x1.trans (x2.trans po.ex)) (.tup upd_same (.cons .str (.cons .str (.cons .str .nil))))
end Pu
set_option maxRecDepth 100000
set_option maxHeartbeats 2000000
/-! An __init__ with a star parameter; making with starred arguments -/
namespace Pu
open PySem L2 PySem.Spec PyProof.Rows
/-- the promise of an __init__(self, *xs): all arguments but self as one tuple -/
def spIS (K : PySem.W.Frag) (mg : Str → Option Value) (c : Str) (F : FT) : Sp := fun vs H Q E => ∃ (b : Option Addr) (G H0 : Hp) (x dx C : Addr) (vs' : List V) (ds : List D) (P : D → Prop) (R : DX → Prop),
  vs = .ref x :: vs' ∧ H = upd (upd H0 dx (.own x)) x (.ins C dx []) ∧ H0 x = none ∧ H0 dx = none ∧ dx ≠ x ∧ mg c = some (.ref C) ∧ CI K C ∧ Pre ⟨K, mg, b⟩ G H0 ∧ Reps ⟨K, mg, b⟩ G vs' ds ∧ ds.length ≤ sizeLine ∧ F [.tup ds] P R ∧
  (∀ fs G' H', P (.ins c fs) → Post ⟨K, mg, b⟩ G H0 G' H' → Rep ⟨K, mg, b⟩ G' (.ref x) (.ins c fs) → Q .non H') ∧ ∀ e cls dct G' H', R e → Post ⟨K, mg, b⟩ G H0 G' H' → RX ⟨K, mg, b⟩ G' e cls dct → E cls dct H'
theorem upd_comm {H : Hp} {a b : Addr} {x y : HO} (h : a ≠ b) : upd (upd H a x) b y = upd (upd H b y) a x := by
  funext c
  by_cases h1 : c = a
  · subst h1
    rw [upd_ne h, upd_same, upd_same]
  · by_cases h2 : c = b
    · subst h2
      rw [upd_same, upd_ne h1, upd_same]
    · rw [upd_ne h2, upd_ne h1, upd_ne h1, upd_ne h2]
/-- laid behind: the tuple -/
theorem spIS_to {K : PySem.W.Frag} {mg : Str → Option Value} {c : Str} {F : FT} {vs : List V} {H : Hp} {Q : VK} {E : XK} (h : spIS K mg c F vs H Q E) :
    ∃ ws rest, vs = ws ++ rest ∧ ws.length = (["self"] : List Str).length ∧ rest.length ≤ sizeLine ∧ ∀ p, H p = none → spI K mg c 1 F (ws ++ [V.ref p]) (upd H p (.tup rest)) Q E := by
  obtain ⟨b, G, H0, x, dx, C, vs', ds, P, R, rfl, rfl, h1, h2, h3, hm, ci, pre, r, hl, hF, hq, he⟩ := h
  refine ⟨[.ref x], vs', rfl, rfl, by rw [r.length]; exact hl, fun p hp => ?_⟩
  have nx : p ≠ x := fun z => by
    rw [z, upd_same] at hp
    cases hp
  have ndx : p ≠ dx := fun z => by
    rw [z, upd_ne h3, upd_same] at hp
    cases hp
  have hp0 : H0 p = none := by
    rw [upd_ne nx, upd_ne ndx] at hp
    exact hp
  have po : Post ⟨K, mg, b⟩ G H0 (upd G p (.tup vs')) (upd H0 p (.tup vs')) := Post.new1 pre hp0
  refine ⟨b, upd G p (.tup vs'), upd H0 p (.tup vs'), x, dx, C, [V.ref p], [.tup ds], P, R, rfl, ?_, ?_, ?_, h3, hm, ci, po.pre, .cons (.tup upd_same (r.mono po.ex)) .nil, rfl, hF, fun fs G' H' p1 po' r1 => hq fs G' H' p1 (po.trans po') r1, fun e cls dct G' H' p1 po' r1 => he e cls dct G' H' p1 (po.trans po') r1⟩
  · rw [upd_comm nx.symm, upd_comm ndx.symm]
  · rw [upd_ne nx.symm]
    exact h1
  · rw [upd_ne ndx.symm]
    exact h2
section
variable {P : Program} {w : World} {K : PySem.W.Frag} {mg : Str → Option Value} {base : Heap}
theorem init_okS {k : Nat} {f : Addr} {name qual : Str} {params : Arguments} {body : List Stmt} {scope : Scope} {dV kV doc pm cdv ct oc : Value} {an od : Option Addr} {osl : Array (Option Value)} {N : List Str} {c pv : Str} {F : FT}
    (lk : K.lookup f = some ⟨oc, od, .func (PySem.W.fnOf name qual params body scope dV kV doc pm an cdv ct), osl⟩) (hcd : PySem.W.codeIn K cdv qual = true) (S : FnScope N ((["self"] : List Str) ++ [pv]) scope) (hN : 0 < N.length)
    (hb : ∀ us rest : List Value, us.length = (["self"] : List Str).length → bindArgs (PySem.W.fnOf name qual params body scope dV kV doc pm an cdv ct) ⟨us ++ rest, []⟩ = (newTuple rest >>= fun t => pure ((["self"] : List Str).zip us ++ [(pv, t)])))
    (bd : ∀ (A : Around) (outer : List Env) (s : Shared) (H : Hp) (E : XK), Room k (A.deeper (envOfC qual scope s.heap.objs.size f cdv)) →
      ∃ ws : WS, PXB (cxOf (L2.CX P w) P w K mg base N qual scope f cdv A outer s H E) (WDef E) body ws ∧
        ∀ (ds : List D) (Pd : D → Prop) (R : DX → Prop), ds.length = 1 → F ds Pd R → ws (startI c N.length ds) (endsI c Pd R)) (hNl : N.contains ("<lambda>" : Str) = false := by decide) :
    FnR P w K mg base (L2.CX P w) (k + 1) f (spIS K mg c F) := by
  refine FnR.imp (StX.fn_star (sp := spI K mg c 1 F) (ps := ["self"]) lk hcd S StX.cxUp hb fun A outer s H vs Q E hr h => ?_) fun vs H Q E h => spIS_to h
  obtain ⟨ws, hb, hw⟩ := bd A outer s H E hr
  exact init_body hN h hb hw hNl
end
/-! ### making -/
section
variable {X : Cx} {W : WX} {k n : Nat} {C f : Addr} {F : FT} {c : Str} {e : Expr} {es : List Expr} {u : WA} {p pos : Pos}
theorem run_makeSS {pins : List (Addr × Obj)} {σ : L2.St} {H : Hp} {s : Shared} {Q : VK} {us : List Value} {vs : List V} {CX : CXT} {E : XK} {sp : Sp} (M : Mk X.K C f) (F : FnR X.prog X.w X.K X.mg X.base CX k f sp) (hr : Room (k + 1) X.A)
    (hx : PassesAt CX X σ E) (I : Inv X pins σ H s) (r : Vals vs us)
    (h : ∀ x dx, H x = none → H dx = none → dx ≠ x → sp (.ref x :: vs) (upd (upd H dx (.own x)) x (.ins C dx [])) (fun v H2 => v = .non ∧ Q (.ref x) H2) E) :
    wpAny (model X.prog X.w) X.A (call (.ref C) us) (EP X pins σ Q) X.xe s := by
  have hq := h (s.heap.objs.size + 1) s.heap.objs.size (I.hok.fresh (Nat.le_succ _)) (I.hok.fresh (Nat.le_refl _)) (Nat.ne_of_lt (Nat.lt_succ_self _))
  have I2 := Inv.made (C := C) I
  have r2 : Vals (V.ref (s.heap.objs.size + 1) :: vs) (Value.ref (s.heap.objs.size + 1) :: us) := .cons rfl r
  refine wpAny_call (make_map (f := f) I.kIn M.makes M.init (beq_iff_eq.mp M.fn) (codeAny_mono (F _ X.stack _ _ (Value.ref (s.heap.objs.size + 1) :: us) _ _ E (hr.make C us []) (I2.env0.make C us []) r2 hq) fun r s' hq' => ?_))
  cases r with
  | error e => exact hx pins _ _ e s' I2 hq'
  | ok fl =>
    cases fl with
    | ret u =>
      obtain ⟨v, H', I3, rv, ev, q3⟩ := I2.after hq'
      subst ev
      exact ⟨rv, ⟨V.ref (s.heap.objs.size + 1), H', I3, rfl, q3⟩⟩
    | next => exact False.elim hq'
    | brk => exact False.elim hq'
    | cont => exact False.elim hq'
theorem make_runS {Fc' : Fc} {env : En} {σ : L2.St} {G H : Hp} {vs : List V} {as : List D} {P : D → En → Prop} {R : QX} {Q : VK} (ci : CI X.K C) (hmg : X.mg c = some (.ref C)) (hx : XOk X Fc') (s1 : SI Fc' env σ G H) (r1 : Reps Fc'.wd G vs as) (hl : as.length ≤ sizeLine) (p1 : F [.tup as] (fun d => P d env) fun x => R x env)
    (hq : ∀ d env' v G' H', P d env' → SI Fc' env' σ G' H' → Ex G G' → Rep Fc'.wd G' v d → Q v H') (hk : XK' Fc' W σ R) : ∀ x dx, H x = none → H dx = none → dx ≠ x → spIS X.K X.mg c F (.ref x :: vs) (upd (upd H dx (.own x)) x (.ins C dx [])) (fun v H2 => v = .non ∧ Q (.ref x) H2) (L2.WE W σ) := by
  intro x dx h1 h2 h3
  obtain ⟨⟨K, mg, b⟩, G0, H0, pins, self⟩ := Fc'
  obtain ⟨e1, e2, _⟩ := hx
  cases e1
  cases e2
  exact ⟨b, G, H, x, dx, C, vs, as, _, _, rfl, rfl, h1, h2, h3, hmg, ci, s1.pre, r1, hl, p1, fun fs G' H' p po r => ⟨rfl, hq _ env _ G' H' p (s1.step po) po.ex r⟩, fun x cls dct G' H' p po r => hk x env cls dct G' H' p (s1.step po) r⟩
/-- C(e, ..) -/
def wMakeS (F : FT) (u : WA) : WE := fun env P R => u env (fun ds e => ds.length ≤ sizeLine ∧ F [.tup ds] (fun d => P d e) fun x => R x e) R
theorem px_makeS (ci : CI X.K C) (M : Mk X.K C f) (Fn : FnR X.prog X.w X.K X.mg X.base (L2.CX X.prog X.w) k f (spIS X.K X.mg c F)) (hr : Room (k + 1) X.A) (hg : Gl X c) (hmg : X.mg c = some (.ref C)) (tk : Takes X W)
    (ha : PXA X W (e :: es) u) (hdb : (c == ("__debug__" : Str)) = false := by decide) (he : starEach (e :: es) X.env = (false, eval e X.env) :: starEach es X.env := by rfl) (hpl : (backTo pos (starEach es X.env)).any (·.1) = false := by rfl) :
    PX X W (.Call (.Name c p) (e :: es) [] pos) (wMakeS F u) := by
  obtain ⟨t, a1, a2⟩ := ha.ex
  refine ⟨⟨fun σ H Q => t σ H fun vs H1 => ∀ x dx, H1 x = none → H1 dx = none → dx ≠ x → spIS X.K X.mg c F (.ref x :: vs) (upd (upd H1 dx (.own x)) x (.ins C dx [])) (fun v H2 => v = .non ∧ Q (.ref x) H2) (L2.WE W σ), ⟨fun pins s σ H Q I h => ?_⟩, fun Fc' env σ G H P R Q hx hs hw hq hk => a2 Fc' env σ G H _ R _ hx hs hw (fun as e1 vs G1 H1 p1 s1 x1 r1 => ?_) hk⟩⟩
  · refine wpAny_Call_Name_kw (ld_glob I hg hmg ?_ hdb)
    refine PySem.W.callWith_K (h₀ := X.base) I.ok.mod.kin M.kp (thn (a1.run pos pins s σ H _ I h) fun us s1 ⟨vs, H1, I1, r, q⟩ => ⟨I1.kIn, ?_⟩) he hpl
    exact run_makeSS M Fn hr (passAt tk σ) I1 r q
  · exact make_runS ci hmg hx s1 r1 p1.1 p1.2 (fun d e' v G' H' p s x r => hq d e' v G' H' p s (x1.trans x) r) hk
theorem px_makeS0 (ci : CI X.K C) (M : Mk X.K C f) (Fn : FnR X.prog X.w X.K X.mg X.base (L2.CX X.prog X.w) k f (spIS X.K X.mg c F)) (hr : Room (k + 1) X.A) (hg : Gl X c) (hmg : X.mg c = some (.ref C)) (tk : Takes X W)
    (hdb : (c == ("__debug__" : Str)) = false := by decide) : PX X W (.Call (.Name c p) [] [] pos) (wMakeS F wNil) := by
  refine ⟨⟨fun σ H Q => ∀ x dx, H x = none → H dx = none → dx ≠ x → spIS X.K X.mg c F (.ref x :: []) (upd (upd H dx (.own x)) x (.ins C dx [])) (fun v H2 => v = .non ∧ Q (.ref x) H2) (L2.WE W σ), ⟨fun pins s σ H Q I h => ?_⟩, fun Fc' env σ G H P R Q hx hs hw hq hk => ?_⟩⟩
  · refine wpAny_Call_Name_kw (ld_glob I hg hmg ?_ hdb)
    exact PySem.W.callWith_K0 I.kIn M.kp (run_makeSS (us := []) (vs := []) M Fn hr (passAt tk σ) I .nil h)
  · exact make_runS ci hmg hx hs .nil hw.1 hw.2 (fun d e' v G' H' p s x r => hq d e' v G' H' p s x r) hk
/-- C(*e) -/
def wMakeX (F : FT) (w : WE) : WE := fun env P R => w env (fun d e => match d with
  | .lst ds => ds.length ≤ sizeLine ∧ F [.tup ds] (fun d => P d e) fun x => R x e
  | .tup ds => ds.length ≤ sizeLine ∧ F [.tup ds] (fun d => P d e) fun x => R x e
  | _ => False) R
theorem px_makeX {sp : Pos} {we : WE} (ci : CI X.K C) (M : Mk X.K C f) (Fn : FnR X.prog X.w X.K X.mg X.base (L2.CX X.prog X.w) k f (spIS X.K X.mg c F)) (hr : Room (k + 1) X.A) (hg : Gl X c) (hmg : X.mg c = some (.ref C)) (tk : Takes X W)
    (hee : PX X W e we) (hdb : (c == ("__debug__" : Str)) = false := by decide) (hst : starEach [.Starred e sp] X.env = [(true, eval e X.env)] := by rfl) :
    PX X W (.Call (.Name c p) [.Starred e sp] [] pos) (wMakeX F we) := by
  obtain ⟨t, a1, a2⟩ := hee.ex
  refine ⟨⟨fun σ H Q => t σ H fun y H1 => ∃ a xs, y = V.ref a ∧ (SqT X.K H1 a xs ∨ SqL X.K H1 a xs) ∧ ∀ x dx, H1 x = none → H1 dx = none → dx ≠ x → spIS X.K X.mg c F (.ref x :: xs) (upd (upd H1 dx (.own x)) x (.ins C dx [])) (fun v H2 => v = .non ∧ Q (.ref x) H2) (L2.WE W σ), ⟨fun pins s σ H Q I h => ?_⟩, fun Fc' env σ G H P R Q hx hs hw hq hk => a2 Fc' env σ G H _ R _ hx hs hw (fun d e1 v G1 H1 p1 s1 x1 r1 => ?_) hk⟩⟩
  · refine wpAny_Call_Name_kw (ld_glob I hg hmg ?_ hdb)
    refine PySem.W.callWith_S (h₀ := X.base) I.ok.mod.kin M.kp (thn (a1.run pins s σ H _ I h) fun v s1 ⟨y, H1, I1, ry, a, xs, ey, hxs, q⟩ => ?_) hst
    subst ey
    obtain rfl : v = Value.ref a := ry
    exact StX.star_any I1 hxs fun us s2 I2 rv => ⟨I2.kIn, run_makeSS M Fn hr (passAt tk σ) I2 rv q⟩
  · cases d <;> first | exact p1.elim | skip
    · cases r1 with
      | lst h1 r1 => exact ⟨_, _, rfl, .inr (SqL.of (s1.exG _ _ h1)), make_runS ci hmg hx s1 r1 p1.1 p1.2 (fun d e' v G' H' p s x r => hq d e' v G' H' p s (x1.trans x) r) hk⟩
    · cases r1 with
      | tup h1 r1 => exact ⟨_, _, rfl, .inl (s1.exG.tt h1), make_runS ci hmg hx s1 r1 p1.1 p1.2 (fun d e' v G' H' p s x r => hq d e' v G' H' p s (x1.trans x) r) hk⟩
/-! cls(..) -/
def wIsTyp (i : Nat) (c : Str) (w : WE) : WE := fun env P R => (∃ d, env[i]? = some (.v (.typ d)) ∧ d = c) ∧ w env P R
theorem typ_at {i : Nat} {F : Fc} {env : En} {σ : L2.St} {G H : Hp} (hx : XOk X F) (hmg : X.mg c = some (.ref C)) (hs : SI F env σ G H) (h : ∃ d, env[i]? = some (.v (.typ d)) ∧ d = c) : σ[i]? = some (some (.ref C)) := by
  obtain ⟨d, e1, rfl⟩ := h
  obtain ⟨v, h1, h2⟩ := hs.sl i _ e1
  cases h2 with
  | typ hm =>
    rw [hx.m, hmg] at hm
    cases hm
    exact h1
theorem px_makeSV {i : Nat} {a : Str} (ci : CI X.K C) (M : Mk X.K C f) (Fn : FnR X.prog X.w X.K X.mg X.base (L2.CX X.prog X.w) k f (spIS X.K X.mg c F)) (hr : Room (k + 1) X.A) (hmg : X.mg c = some (.ref C)) (tk : Takes X W)
    (ha : PXA X W (e :: es) u) (hN : X.N[i]? = some a) (hv : Vis X.env.scope a) (hda : (a == ("__debug__" : Str)) = false := by decide) (hcd : (a == ("__classdict__" : Str)) = false := by decide) (he : starEach (e :: es) X.env = (false, eval e X.env) :: starEach es X.env := by rfl) (hpl : (backTo pos (starEach es X.env)).any (·.1) = false := by rfl) :
    PX X W (.Call (.Name a p) (e :: es) [] pos) (wIsTyp i c (wMakeS F u)) := by
  obtain ⟨t, a1, a2⟩ := ha.ex
  refine ⟨⟨fun σ H Q => σ[i]? = some (some (.ref C)) ∧ t σ H fun vs H1 => ∀ x dx, H1 x = none → H1 dx = none → dx ≠ x → spIS X.K X.mg c F (.ref x :: vs) (upd (upd H1 dx (.own x)) x (.ins C dx [])) (fun v H2 => v = .non ∧ Q (.ref x) H2) (L2.WE W σ), ⟨fun pins s σ H Q I h => ?_⟩, fun Fc' env σ G H P R Q hx hs hw hq hk => ⟨typ_at hx hmg hs hw.1, a2 Fc' env σ G H _ R _ hx hs hw.2 (fun as e1 vs G1 H1 p1 s1 x1 r1 => ?_) hk⟩⟩⟩
  · obtain ⟨hσ, h⟩ := h
    refine wpAny_Call_Name_kw (thn ((pe_var (pos := p) (i := i) hN hv hda hcd).run pins s σ H (fun v H1 => v = .ref C ∧ H1 = H) I ⟨.ref C, hσ, rfl, rfl⟩) fun u s1 hh => ?_)
    obtain ⟨v, H1, I1, r1, rfl, rfl⟩ := hh
    obtain rfl : u = Value.ref C := r1
    refine PySem.W.callWith_K (h₀ := X.base) I.ok.mod.kin M.kp (thn (a1.run pos pins s1 σ H1 _ I1 h) fun us s2 ⟨vs, H2, I2, r, q⟩ => ⟨I2.kIn, ?_⟩) he hpl
    exact run_makeSS M Fn hr (passAt tk σ) I2 r q
  · exact make_runS ci hmg hx s1 r1 p1.1 p1.2 (fun d e' v G' H' p s x r => hq d e' v G' H' p s (x1.trans x) r) hk
theorem px_makeSV0 {i : Nat} {a : Str} (ci : CI X.K C) (M : Mk X.K C f) (Fn : FnR X.prog X.w X.K X.mg X.base (L2.CX X.prog X.w) k f (spIS X.K X.mg c F)) (hr : Room (k + 1) X.A) (hmg : X.mg c = some (.ref C)) (tk : Takes X W)
    (hN : X.N[i]? = some a) (hv : Vis X.env.scope a) (hda : (a == ("__debug__" : Str)) = false := by decide) (hcd : (a == ("__classdict__" : Str)) = false := by decide) :
    PX X W (.Call (.Name a p) [] [] pos) (wIsTyp i c (wMakeS F wNil)) := by
  refine ⟨⟨fun σ H Q => σ[i]? = some (some (.ref C)) ∧ ∀ x dx, H x = none → H dx = none → dx ≠ x → spIS X.K X.mg c F (.ref x :: []) (upd (upd H dx (.own x)) x (.ins C dx [])) (fun v H2 => v = .non ∧ Q (.ref x) H2) (L2.WE W σ), ⟨fun pins s σ H Q I h => ?_⟩, fun Fc' env σ G H P R Q hx hs hw hq hk => ⟨typ_at hx hmg hs hw.1, ?_⟩⟩⟩
  · obtain ⟨hσ, h⟩ := h
    refine wpAny_Call_Name_kw (thn ((pe_var (pos := p) (i := i) hN hv hda hcd).run pins s σ H (fun v H1 => v = .ref C ∧ H1 = H) I ⟨.ref C, hσ, rfl, rfl⟩) fun u s1 hh => ?_)
    obtain ⟨v, H1, I1, r1, rfl, rfl⟩ := hh
    obtain rfl : u = Value.ref C := r1
    exact PySem.W.callWith_K0 I1.kIn M.kp (run_makeSS (us := []) (vs := []) M Fn hr (passAt tk σ) I1 .nil h)
  · exact make_runS ci hmg hx hs .nil hw.2.1 hw.2.2 (fun d e' v G' H' p s x r => hq d e' v G' H' p s x r) hk
theorem px_makeXV {i : Nat} {a : Str} {sp : Pos} {we : WE} (ci : CI X.K C) (M : Mk X.K C f) (Fn : FnR X.prog X.w X.K X.mg X.base (L2.CX X.prog X.w) k f (spIS X.K X.mg c F)) (hr : Room (k + 1) X.A) (hmg : X.mg c = some (.ref C)) (tk : Takes X W)
    (hee : PX X W e we) (hN : X.N[i]? = some a) (hv : Vis X.env.scope a) (hda : (a == ("__debug__" : Str)) = false := by decide) (hcd : (a == ("__classdict__" : Str)) = false := by decide) (hst : starEach [.Starred e sp] X.env = [(true, eval e X.env)] := by rfl) :
    PX X W (.Call (.Name a p) [.Starred e sp] [] pos) (wIsTyp i c (wMakeX F we)) := by
  obtain ⟨t, a1, a2⟩ := hee.ex
  refine ⟨⟨fun σ H Q => σ[i]? = some (some (.ref C)) ∧ t σ H fun y H1 => ∃ a xs, y = V.ref a ∧ (SqT X.K H1 a xs ∨ SqL X.K H1 a xs) ∧ ∀ x dx, H1 x = none → H1 dx = none → dx ≠ x → spIS X.K X.mg c F (.ref x :: xs) (upd (upd H1 dx (.own x)) x (.ins C dx [])) (fun v H2 => v = .non ∧ Q (.ref x) H2) (L2.WE W σ), ⟨fun pins s σ H Q I h => ?_⟩, fun Fc' env σ G H P R Q hx hs hw hq hk => ⟨typ_at hx hmg hs hw.1, a2 Fc' env σ G H _ R _ hx hs hw.2 (fun d e1 v G1 H1 p1 s1 x1 r1 => ?_) hk⟩⟩⟩
  · obtain ⟨hσ, h⟩ := h
    refine wpAny_Call_Name_kw (thn ((pe_var (pos := p) (i := i) hN hv hda hcd).run pins s σ H (fun v H1 => v = .ref C ∧ H1 = H) I ⟨.ref C, hσ, rfl, rfl⟩) fun u s1 hh => ?_)
    obtain ⟨v, H1, I1, r1, rfl, rfl⟩ := hh
    obtain rfl : u = Value.ref C := r1
    refine PySem.W.callWith_S (h₀ := X.base) I1.ok.mod.kin M.kp (thn (a1.run pins s1 σ H1 _ I1 h) fun v s2 ⟨y, H2, I2, ry, a, xs, ey, hxs, q⟩ => ?_) hst
    subst ey
    obtain rfl : v = Value.ref a := ry
    exact StX.star_any I2 hxs fun us s3 I3 rv => ⟨I3.kIn, run_makeSS M Fn hr (passAt tk σ) I3 rv q⟩
  · cases d <;> first | exact p1.elim | skip
    · cases r1 with
      | lst h1 r1 => exact ⟨_, _, rfl, .inr (SqL.of (s1.exG _ _ h1)), make_runS ci hmg hx s1 r1 p1.1 p1.2 (fun d e' v G' H' p s x r => hq d e' v G' H' p s (x1.trans x) r) hk⟩
    · cases r1 with
      | tup h1 r1 => exact ⟨_, _, rfl, .inl (s1.exG.tt h1), make_runS ci hmg hx s1 r1 p1.1 p1.2 (fun d e' v G' H' p s x r => hq d e' v G' H' p s (x1.trans x) r) hk⟩
end
end Pu
set_option maxRecDepth 100000
set_option maxHeartbeats 2000000
/-! Dicts with tuple keys: the frame's own; list(dict); sorted of data -/
namespace Pu
open PySem L2 PySem.Spec PyProof.Rows
/-! ### keys -/
def kD : Key → D
  | .inl i => .int i
  | .inr s => .str s
def dKey : D → Option Key
  | .int i => some (.inl i)
  | .str s => some (.inr s)
  | _ => none
def dKeys : List D → Option (List Key)
  | [] => some []
  | d :: ds => match dKey d, dKeys ds with
    | some k, some ks => some (k :: ks)
    | _, _ => none
def keyD (ks : List Key) : D := .tup (ks.map kD)
theorem dKeys_map : ∀ ks : List Key, dKeys (ks.map kD) = some ks
  | [] => rfl
  | k :: ks => by
    rw [List.map_cons]
    unfold dKeys
    rw [dKeys_map ks]
    cases k <;> rfl
theorem rep_key {w : Wd} {G : Hp} {v : V} {d : D} {k : Key} (r : Rep w G v d) (h : dKey d = some k) : v = kV k := by
  cases r <;> first | (cases h; rfl) | cases h
theorem reps_keys {w : Wd} {G : Hp} : ∀ {vs : List V} {ds : List D} {ks : List Key}, Reps w G vs ds → dKeys ds = some ks → vs = ks.map kV
  | _, _, ks, .nil, h => by
    cases h
    rfl
  | _, _, ks, @Reps.cons _ _ v d vs ds r t, h => by
    unfold dKeys at h
    cases e1 : dKey d with
    | none => rw [e1] at h; cases h
    | some k =>
      cases e2 : dKeys ds with
      | none => rw [e1, e2] at h; cases h
      | some l =>
        rw [e1, e2] at h
        cases h
        rw [List.map_cons, rep_key r e1, reps_keys t e2]
theorem key_rep {w : Wd} {G : Hp} (k : Key) : Rep w G (kV k) (kD k) := by
  cases k
  · exact .int
  · exact .str
theorem keys_reps {w : Wd} {G : Hp} : ∀ ks : List Key, Reps w G (ks.map kV) (ks.map kD)
  | [] => .nil
  | k :: ks => .cons (key_rep k) (keys_reps ks)
section
variable {κ α : Type} [DecidableEq κ]
def getT (kvs : List (κ × α)) (k : κ) : Option α := (kvs.find? fun kv => decide (kv.1 = k)).map (·.2)
def setT (kvs : List (κ × α)) (k : κ) (v : α) : List (κ × α) := if (kvs.any fun kv => decide (kv.1 = k)) = true then kvs.map (fun kv => if kv.1 = k then (kv.1, v) else kv) else kvs ++ [(k, v)]
end
theorem RepT.get {w : Wd} {G : Hp} {k : List Key} : ∀ {vs : List (List Key × V)} {ds : List (List Key × D)}, RepT w G vs ds → (∀ d, getT ds k = some d → ∃ v, valV vs k = some v ∧ Rep w G v d) ∧ (getT ds k = none → valV vs k = none)
  | _, _, .nil => ⟨(fun d h => nomatch h), fun _ => rfl⟩
  | _, _, @RepT.cons _ _ x v d vs ds r t => by
    by_cases e : x = k
    · refine ⟨fun d' h => ?_, fun h => ?_⟩
      · have h' : getT ((x, d) :: ds) k = some d := by unfold getT; rw [List.find?_cons, decide_eq_true e]; rfl
        rw [h'] at h
        cases h
        exact ⟨v, valV_pos (p := (x, v)) e, r⟩
      · have h' : getT ((x, d) :: ds) k = some d := by unfold getT; rw [List.find?_cons, decide_eq_true e]; rfl
        rw [h'] at h
        cases h
    · have h1 : getT ((x, d) :: ds) k = getT ds k := by unfold getT; rw [List.find?_cons, decide_eq_false e]
      have h2 : valV ((x, v) :: vs) k = valV vs k := valV_neg (p := (x, v)) e
      rw [h1, h2]
      exact t.get
theorem RepT.append {w : Wd} {G : Hp} : ∀ {vs us : List (List Key × V)} {ds es : List (List Key × D)}, RepT w G vs ds → RepT w G us es → RepT w G (vs ++ us) (ds ++ es)
  | _, _, _, _, .nil, h => h
  | _, _, _, _, .cons r t, h => .cons r (t.append h)
theorem RepT.any {w : Wd} {G : Hp} {k : List Key} : ∀ {vs : List (List Key × V)} {ds : List (List Key × D)}, RepT w G vs ds → (vs.any fun kv => decide (kv.1 = k)) = (ds.any fun kv => decide (kv.1 = k))
  | _, _, .nil => rfl
  | _, _, .cons r t => by rw [List.any_cons, List.any_cons, t.any]
theorem RepT.repl {w : Wd} {G : Hp} {k : List Key} {v : V} {d : D} (h : Rep w G v d) : ∀ {vs : List (List Key × V)} {ds : List (List Key × D)}, RepT w G vs ds → RepT w G (vs.map fun kv => if kv.1 = k then (kv.1, v) else kv) (ds.map fun kv => if kv.1 = k then (kv.1, d) else kv)
  | _, _, .nil => .nil
  | _, _, @RepT.cons _ _ x v' d' vs ds r t => by
    rw [List.map_cons, List.map_cons]
    by_cases e : x = k
    · rw [if_pos e, if_pos e]
      exact .cons h (t.repl h)
    · rw [if_neg e, if_neg e]
      exact .cons r (t.repl h)
theorem RepT.put {w : Wd} {G : Hp} {k : List Key} {v : V} {d : D} (h : Rep w G v d) {vs : List (List Key × V)} {ds : List (List Key × D)} (r : RepT w G vs ds) : RepT w G (putK vs k v) (setT ds k d) := by
  unfold putK setT
  rw [r.any]
  split
  · exact r.repl h
  · exact r.append (.cons h .nil)
theorem setT_len {κ α : Type} [DecidableEq κ] (kvs : List (κ × α)) (k : κ) (v : α) : (setT kvs k v).length ≤ kvs.length + 1 := by
  unfold setT
  split
  · rw [List.length_map]; omega
  · rw [List.length_append]; exact Nat.le_refl _
/-! ### tuples are settled when they are met -/
theorem Post.settle {w : Wd} {G H : Hp} {b : Addr} {ts : List V} (p : Pre w G H) (hb : H b = some (.tup ts)) : ∃ G', Post w G H G' H ∧ G' b = some (.tup ts) := by
  cases e : G b with
  | some o =>
    have := p.exG b o e
    rw [hb] at this
    cases this
    exact ⟨G, Post.refl p, e⟩
  | none =>
    have e1 : Ex G (upd G b (.tup ts)) := fun x u h => by
      rw [upd_ne (ne_of_none h e)]
      exact h
    refine ⟨upd G b (.tup ts), ⟨e1, fun x u h => ?_, fun a o _ h => h, fun a h => ?_, fun β hβ => ?_⟩, upd_same⟩
    · by_cases z : x = b
      · subst z
        rw [upd_same] at h
        cases h
        exact hb
      · rw [upd_ne z] at h
        exact p.exG _ _ h
    · by_cases z : a = b
      · exact .inr (.inr ⟨ts, by rw [z]; exact hb⟩)
      · rw [upd_ne z] at h
        exact .inl h
    · obtain ⟨h1, h2, h3⟩ := p.bag β hβ
      have ne : β ≠ b := fun z => by
        obtain ⟨_, _, _, _, _, _, q, _⟩ := h3.ex
        rw [z, hb] at q
        cases q
      exact ⟨by rw [upd_ne ne]; exact h1, h2, h3.mono e1 rfl⟩
theorem post_keys {w : Wd} {H : Hp} {ds : List (List Key × D)} : ∀ {kvs : List (List Key × V)} {bs : List Addr} {G : Hp}, Pre w G H → IsKeys H kvs bs → kvs.map (·.1) = ds.map (·.1) → ∃ G', Post w G H G' H ∧ Reps w G' (bs.map V.ref) (ds.map fun p => keyD p.1) := by
  induction ds with
  | nil =>
    intro kvs bs G p h e
    cases h with
    | nil => exact ⟨G, Post.refl p, .nil⟩
    | cons h t => cases e
  | cons d ds ih =>
    intro kvs bs G p h e
    cases h with
    | nil => cases e
    | @cons q b kvs bs h t =>
      rw [List.map_cons, List.map_cons] at e
      injection e with e1 e2
      obtain ⟨G1, po, g1⟩ := Post.settle p h
      obtain ⟨G2, po2, r⟩ := ih po.pre t e2
      refine ⟨G2, po.trans po2, .cons (.tup (po2.ex _ _ g1) ?_) r⟩
      rw [e1]
      exact keys_reps _
theorem RepT.fst {w : Wd} {G : Hp} : ∀ {vs : List (List Key × V)} {ds : List (List Key × D)}, RepT w G vs ds → vs.map (·.1) = ds.map (·.1)
  | _, _, .nil => rfl
  | _, _, .cons _ t => by rw [List.map_cons, List.map_cons, t.fst]
section
variable {X : Cx} {W : WX} {i : Nat} {x : Str} {e ke ve : Expr} {wk wv wx : WE} {p pos pos' : Pos}
/-- name = {}, to be keyed by tuples -/
def wsOwnT (i : Nat) : WS := fun env K => K.nx (env.set i (.ol (.dt [])))
theorem ps_ownT (hN : X.N.Nodup) (hi : X.N[i]? = some x) (hx : Loc X.env.scope x) (hs : swapsWith (.Dict [] [] p) (some (.Name x pos')) pos.line X.env = pure false := by rfl) (hf : X.fn x = true ∨ X.env.scope.names.lookup x = some .local := by first | exact .inl rfl | exact .inr rfl | assumption) :
    PXS X W (.Assign [.Name x pos'] (.Dict [] [] p) pos) (wsOwnT i) :=
  ⟨⟨_, ps_set hN hi hx pe_dnewT hs hf, fun F env σ G H P Q hx hs hw hq => fun a ha => hq.nx _ _ G _ hw ((hs.mkPin ha).own (.dt .nil) rfl (hs.pinsNe ha)) (Ex.refl _)⟩⟩
/-- table[k] = v, the frame's own -/
def wsPutT (i : Nat) (wk wv : WE) : WS := fun env K => wv env (fun dv e1 => (∃ kvs, e1[i]? = some (.ol (.dt kvs))) ∧ wk e1 (fun dk e2 => match dk, e2[i]? with
  | .tup l, some (.ol (.dt kvs)) => ∃ ks, dKeys l = some ks ∧ kvs.length < 100000 ∧ K.nx (e2.set i (.ol (.dt (setT kvs ks dv))))
  | _, _ => False) K.ex) K.ex
theorem ps_putT (hu : X.A.units + 1 < cLine) (h : PE X (.Name x p) (tVar i)) (hk : PX X W ke wk) (hv : PX X W ve wv) (hs : swapsWith ve (some (.Subscript (.Name x p) ke pos')) pos.line X.env = pure false := by rfl) :
    PXS X W (.Assign [.Subscript (.Name x p) ke pos'] ve pos) (wsPutT i wk wv) := by
  obtain ⟨t, a1, a2⟩ := hv.ex
  obtain ⟨u, b1, b2⟩ := hk.ex
  refine ⟨⟨_, ps_dput hu h b1 a1 hs, fun F env σ G H P Q hx hs hw hq => a2 F env σ G H _ _ _ hx hs hw (fun dv e1 v G1 H1 p1 s1 x1 r1 => ?_) (hq.ex σ)⟩⟩
  obtain ⟨⟨kvs0, e0⟩, p1⟩ := p1
  obtain ⟨a, ho, h1, _⟩ := s1.sl i _ e0
  refine ⟨_, h1, b2 F e1 σ G1 H1 _ _ _ hx s1 p1 (fun dk e2 vk G2 H2 p2 s2 x2 r2 => ?_) (hq.ex σ)⟩
  cases e3 : e2[i]? with
  | none => rw [e3] at p2; cases dk <;> exact p2.elim
  | some sl =>
    rw [e3] at p2
    cases dk <;> first | exact p2.elim | skip
    cases sl with
    | no => exact p2.elim
    | v d => exact p2.elim
    | fz d => exact p2.elim
    | ol o =>
      cases o <;> first | exact p2.elim | skip
      obtain ⟨ks, k1, k2, k3⟩ := p2
      obtain ⟨a', us, g1, g2, g3, g4, g5, g6⟩ := s2.sl i _ e3
      rw [h1] at g1
      cases g1
      cases r2 with
      | tup q1 q2 =>
      obtain rfl := reps_keys q2 k1
      cases g5 with
      | @dt vs _ g5 =>
      have hz : (100000 : Nat) ≤ sizeLine := by decide
      have hl : vs.length = _ := g5.length
      exact ⟨a, _, rfl, DPut.t g4 (s2.exG _ _ q1) (by omega), hq.nx _ _ G2 _ k3 (s2.reown e3 h1 (.dt (g5.put (r1.mono x2))) (fun z => nomatch z)) (x1.trans x2)⟩
/-- table[k], the frame's own -/
def wIxO (i : Nat) (wk : WE) : WE := fun env P R => (∃ kvs, env[i]? = some (.ol (.dt kvs))) ∧ wk env (fun d e1 => match d, e1[i]? with
  | .tup l, some (.ol (.dt kvs)) => ∃ ks z, dKeys l = some ks ∧ getT kvs ks = some z ∧ P z e1
  | _, _ => False) R
theorem px_ixO (hu : X.A.units + 1 < cLine) (h : PE X (.Name x p) (tVar i)) (hk : PX X W ke wk) (hs : NoSl ke) : PX X W (.Subscript (.Name x p) ke pos) (wIxO i wk) := by
  obtain ⟨u, b1, b2⟩ := hk.ex
  refine ⟨⟨_, pe_dget hu h b1 hs, fun F env σ G H P R Q hx hs hw hq hkk => ?_⟩⟩
  obtain ⟨⟨kvs0, e0⟩, hw⟩ := hw
  obtain ⟨a, ho, h1, _⟩ := hs.sl i _ e0
  refine ⟨_, h1, b2 F env σ G H _ _ _ hx hs hw (fun dk e2 vk G2 H2 p2 s2 x2 r2 => ?_) hkk⟩
  cases e3 : e2[i]? with
  | none => rw [e3] at p2; cases dk <;> exact p2.elim
  | some sl =>
    rw [e3] at p2
    cases dk <;> first | exact p2.elim | skip
    cases sl with
    | no => exact p2.elim
    | v d => exact p2.elim
    | fz d => exact p2.elim
    | ol o =>
      cases o <;> first | exact p2.elim | skip
      obtain ⟨ks, z, k1, k2, k3⟩ := p2
      obtain ⟨a', us, g1, g2, g3, g4, g5, g6⟩ := s2.sl i _ e3
      rw [h1] at g1
      cases g1
      cases r2 with
      | tup q1 q2 =>
      obtain rfl := reps_keys q2 k1
      cases g5 with
      | @dt vs _ g5 =>
      obtain ⟨v, v1, v2⟩ := g5.get.1 z k2
      exact ⟨a, v, rfl, .inr ⟨vs, ks, _, .inl g4, rfl, s2.exG _ _ q1, v1.symm⟩, hq z e2 v G2 H2 k3 s2 x2 v2⟩
/-- table.get(k, x), the frame's own -/
def wGetO (i : Nat) (wk wx : WE) : WE := fun env P R => (∃ kvs, env[i]? = some (.ol (.dt kvs))) ∧ wk env (fun d e1 => wx e1 (fun z e2 => match d, e2[i]? with
  | .tup l, some (.ol (.dt kvs)) => ∃ ks, dKeys l = some ks ∧ P ((getT kvs ks).getD z) e2
  | _, _ => False) R) R
theorem px_getO {apos cpos : Pos} {xe : Expr} (hu : X.A.units + 1 < cLine) (h : PE X (.Name x p) (tVar i)) (hk : PX X W ke wk) (hxx : PX X W xe wx) (m : M2 X (.Name x p) "get" apos ke xe cpos) : PX X W (.Call (.Attribute (.Name x p) "get" apos) [ke, xe] [] cpos) (wGetO i wk wx) := by
  obtain ⟨u, b1, b2⟩ := hk.ex
  obtain ⟨t, a1, a2⟩ := hxx.ex
  refine ⟨⟨_, pe_dget2 hu h b1 a1 m, fun F env σ G H P R Q hx hs hw hq hkk => ?_⟩⟩
  obtain ⟨⟨kvs0, e0⟩, hw⟩ := hw
  obtain ⟨a, ho, h1, _, _, hH, hR, _⟩ := hs.sl i _ e0
  have hd : IsD H a := by
    cases hR with
    | dt r => exact .inr ⟨_, .inl hH⟩
  refine ⟨_, h1, a, rfl, hd, b2 F env σ G H _ _ _ hx hs hw (fun dk e2 vk G2 H2 p2 s2 x2 r2 => a2 F e2 σ G2 H2 _ _ _ hx s2 p2 (fun dz e3 vz G3 H3 p3 s3 x3 r3 => ?_) hkk) hkk⟩
  cases e4 : e3[i]? with
  | none => rw [e4] at p3; cases dk <;> exact p3.elim
  | some sl =>
    rw [e4] at p3
    cases dk <;> first | exact p3.elim | skip
    cases sl with
    | no => exact p3.elim
    | v d => exact p3.elim
    | fz d => exact p3.elim
    | ol o =>
      cases o <;> first | exact p3.elim | skip
      rename_i kvs
      obtain ⟨ks, k1, k3⟩ := p3
      obtain ⟨a', us, g1, g2, g3, g4, g5, g6⟩ := s3.sl i _ e4
      rw [h1] at g1
      cases g1
      cases r2 with
      | tup q1 q2 =>
      obtain rfl := reps_keys q2 k1
      cases g5 with
      | @dt vs _ g5 =>
      have hg : DGet H3 a _ (valV vs ks) := .inr ⟨vs, ks, _, .inl g4, rfl, s3.exG _ _ (x3 _ _ q1), rfl⟩
      cases eg : getT kvs ks with
      | none =>
        rw [eg] at k3
        refine ⟨none, ?_, hq _ e3 _ G3 H3 k3 s3 (x2.trans x3) r3⟩
        rw [← g5.get.2 eg]
        exact hg
      | some z =>
        obtain ⟨v, v1, v2⟩ := g5.get.1 z eg
        rw [eg] at k3
        refine ⟨some v, ?_, hq _ e3 _ G3 H3 k3 s3 (x2.trans x3) v2⟩
        rw [← v1]
        exact hg
/-- list(table), the frame's own -/
def wListO (i : Nat) : WE := fun env P _ => match env[i]? with
  | some (.ol (.dt kvs)) => P (.lst (kvs.map fun p => keyD p.1)) env
  | _ => False
theorem px_listO {f : Str} {pf : Pos} (hc : X.calm = true) (hg : Gl X f) (hm : X.mg f = none) (hv : bootBuiltins f = some (.type "list")) (h : PE X (.Name x p) (tVar i)) (hn : f ≠ "__name__" := by decide) (hdb : (f == ("__debug__" : Str)) = false := by decide)
    (he : starEach (.Name x p :: []) X.env = (false, eval (.Name x p) X.env) :: starEach [] X.env := by rfl) (hpl : (backTo pos (starEach [] X.env)).any (·.1) = false := by rfl) : PX X W (.Call (.Name f pf) (.Name x p :: []) [] pos) (wListO i) := by
  refine ⟨⟨_, pe_callTy (call_list_dT hc) hg hm hv (pa_cons h pa_nil he) hn hdb he hpl, fun F env σ G H P R Q hx hs hw hq hk => ?_⟩⟩
  unfold wListO at hw
  cases e0 : env[i]? with
  | none => rw [e0] at hw; exact hw.elim
  | some s =>
    rw [e0] at hw
    cases s with
    | no => exact hw.elim
    | v d => exact hw.elim
    | fz d => exact hw.elim
    | ol o =>
      cases o <;> first | exact hw.elim | skip
      obtain ⟨a, us, g1, g2, g3, g4, g5, g6⟩ := hs.sl i _ e0
      cases g5 with
      | @dt vs _ g5 =>
      refine ⟨_, g1, a, vs, rfl, .inl g4, fun b bs hb hbs => ?_⟩
      obtain ⟨G1, po, r⟩ := post_keys hs.pre hbs g5.fst
      have po2 := Post.new1 (o := .lst (bs.map V.ref)) po.pre hb
      exact hq _ env _ _ _ hw ((hs.step po).step po2) (po.ex.trans po2.ex) (.lst upd_same (r.mono po2.ex))
end
/-! ### sorted -/
open PySem.W in
def rSortedD (K : PySem.W.Frag) : List V → Hp → VK → Prop := fun vs H Q => ∃ (a : Addr) (bs : List (V × PyData)), vs = [V.ref a] ∧ SqL K H a (bs.map (·.1)) ∧ (∀ b ∈ bs, Dp K H b.1 b.2) ∧ AllAlike (bs.map (·.2)) ∧ Sortable (bs.map (·.2)) ∧ (∀ b ∈ bs, b.2.depth ≤ 32) ∧ bs.length ≤ sizeLine ∧
  ∀ p, H p = none → Q (.ref p) (upd H p (.lst ((bs.mergeSort (dataLe false (·.2))).map (·.1))))
theorem each_vals {bs : List (V × PyData)} : ∀ {us : List Value}, Vals (bs.map (·.1)) us → PySem.W.EachIs (fun u (b : V × PyData) => RelV b.1 u) us bs := by
  induction bs with
  | nil =>
    intro us h
    cases h
    exact .nil
  | cons b bs ih =>
    intro us h
    cases h with
    | cons r t => exact .cons r (ih t)
theorem vals_each {bs : List (V × PyData)} {us : List Value} (h : PySem.W.EachIs (fun u (b : V × PyData) => RelV b.1 u) us bs) : Vals (bs.map (·.1)) us := by
  induction h with
  | nil => exact .nil
  | cons r t ih => exact .cons r ih
theorem each_reads {X : Cx} {pins : List (Addr × Obj)} {σ : L2.St} {H : Hp} {s : Shared} (I : Inv X pins σ H s) {bs : List (V × PyData)} (hd : ∀ b ∈ bs, Dp X.K H b.1 b.2) {us : List Value} (h : PySem.W.EachIs (fun u (b : V × PyData) => RelV b.1 u) us bs) :
    PySem.W.EachIs (fun u (b : V × PyData) => ∃ as, Reads s.heap u b.2 as) us bs := by
  induction h with
  | nil => exact .nil
  | @cons u b us bs r t ih => exact .cons (Dp.reads I _ _ _ (hd b List.mem_cons_self) r) (ih fun c hc => hd c (List.mem_cons_of_mem _ hc))
theorem cr_sortedD {X : Cx} (hu : X.A.units + 64 < cLine) : CallR X (.builtin "sorted") (rSortedD X.K) := by
  intro pins s σ H vs us Q I r h
  obtain ⟨a, bs, rfl, hs, hd, h1, h2, h3, hz, q⟩ := h
  obtain ⟨its, rv, hl, _⟩ := I.list hs
  rw [Vals.ref1 r]
  have er := each_vals rv
  refine PySem.W.sorted_data (enc := fun b : V × PyData => b.2) (R := fun u b => RelV b.1 u) hl.isList er (each_reads I hd er) h1 h2 hz (fun b hb => ?_) fun out ho eo => ?_
  · have := h3 b hb
    omega
  · obtain ⟨ep, he'⟩ := PyProof.Rows.sortedAll_at s.heap its (List.toArray out)
    have hv := vals_each eo
    have hlen : ((bs.mergeSort (PySem.W.dataLe false (·.2))).map (·.1)).length ≤ sizeLine := by
      rw [List.length_map, List.length_mergeSort]
      exact hz
    exact ⟨.ref _, upd H (s.heap.objs.size + 1) (.lst ((bs.mergeSort (PySem.W.dataLe false (·.2))).map (·.1))), I.laid (t' := s.toks) (fun _ _ => PyProof.Rows.sortedAll_old) (Nat.le_succ _) ⟨hlen, out, ep, by simpa using hv, he'⟩, rfl, q _ (I.hok.fresh (Nat.le_succ _))⟩
def encD (d : D) : PyData := (toP d).getD .none
def sortD (l : List D) : List D := l.mergeSort (PySem.W.dataLe false encD)
def rdSorted : RDA := fun ds P => match ds with
  | [.lst l] => (∀ d ∈ l, (toP d).isSome = true) ∧ PySem.W.AllAlike (l.map encD) ∧ PySem.W.Sortable (l.map encD) ∧ (∀ d ∈ l, (encD d).depth ≤ 32) ∧ l.length ≤ sizeLine ∧ P (.lst (sortD l))
  | _ => False
end Pu
set_option maxRecDepth 100000
set_option maxHeartbeats 2000000
/-! Dict comprehensions keyed by tuples; sorted over data -/
namespace Pu
open PySem L2 PySem.Spec PyProof.Rows
/-! ### a store into a dict keyed by tuples, by a comprehension -/
theorem dt_store {X : Cx} {pins : List (Addr × Obj)} {σ : L2.St} {H : Hp} {s : Shared} {E : Value → Shared → Prop} {T b : Addr} {kvs : List (List Key × V)} {ks : List Key} {v : V} {r : Value} {Q : Unit → Shared → Prop} (hu : X.A.units + 1 < cLine) (I : Inv X pins σ H s) (hT : H T = some (.dT kvs)) (hz : kvs.length < sizeLine)
    (hb : H b = some (.tup (ks.map kV))) (rv : RelV v r) (q : ∀ s', Inv X pins σ (upd H T (.dT (putK kvs ks v))) s' → Q () s') : wpAny (model X.prog X.w) X.A (dictSet T (.ref b) r) Q E s := by
  obtain ⟨z, nd, xs, kt, dd⟩ := dt_of I.hok hT
  have lx : xs.length ≤ sizeLine := by rw [← Paired.length kt]; exact z
  have lp := length_putK kvs ks v
  refine wpAny_dictSet_heap (hsz := lx) (show X.A.units < cLine by omega) (key_of I.hok hb) dd fun h' dd' sb => q _ ?_
  obtain ⟨o, es, ep, g1, g2, g3, g4, _, g6⟩ := dd'
  have kt' := (kt.put ks hb rv).keeps (H' := upd H T (.dT (putK kvs ks v))) fun c ys ec => by
    rw [upd_ne (ne_of ec hT (fun y => nomatch y))]
    exact ec
  exact d_write I (by rw [hT]; trivial) sb ⟨o, g1⟩ ⟨by omega, nd, _, kt', o, es, ep, g1, g2, g3, g4, g6⟩
/-- what one turn of the comprehension asks behind its target -/
def tDtTurn (tt : TT) (tk tv : TE) (T : Addr) (σ : L2.St) (H : Hp) (Nx : Hp → Prop) : Prop := tt σ H fun b H3 => if b = true then tk σ H3 fun y H4 => tv σ H4 fun z H5 => ∃ kvs ks a, y = .ref a ∧ H5 a = some (.tup (ks.map kV)) ∧ H5 T = some (.dT kvs) ∧ kvs.length < sizeLine ∧ Nx (upd H5 T (.dT (putK kvs ks z))) else Nx H3
def tDt (wi : TI) (g : TG) (tt : TT) (tk tv : TE) (vs : List Nat) : TE := fun σ H Q => wi σ H fun J H1 => ∀ T, H1 T = none → ∃ W : Nat → Nat → Hp → Prop, (∃ m, W 0 m (upd H1 T (.dT []))) ∧ ∀ i m H', W i m H' →
  (J.stop i H' ∧ Q (.ref T) H') ∨ (J.go i H' ∧ ∃ Nx : Hp → Prop, (∀ H2, Nx H2 → ∃ m', m' < m ∧ W (i + 1) m' H2) ∧ ∀ x H2, J.yld i H' x H2 → g x (L2.wipe σ vs) H2 fun σ2 H3 => L2.wipe σ2 vs = L2.wipe σ vs ∧ tDtTurn tt tk tv T σ2 H3 Nx)
abbrev BlkAll (X : Cx) (scope : Scope) (P : Cx → Prop) : Prop := ∀ (s : Shared) (H : Hp) (C : Addr) (cl : List (Str × Addr)) (fp : List Addr), P (X.blk s H scope (compEnvC scope cl C X.env) fp)
section
variable {X : Cx} {pins : List (Addr × Obj)} {s : Shared} {σ : L2.St} {H : Hp} {kx vx tg iter : Expr} {ifs : List Expr} {scope : Scope} {own : List (Str × Nat)} {pos pos' : Pos} {wi : TI} {g : TG} {tt : TT} {tk tv : TE}
/-- one turn, inside the block -/
theorem dt_turn {Y : Cx} {qins : List (Addr × Obj)} {σ1 : L2.St} {Hy : Hp} {t : Shared} {T : Addr} {Nx : Hp → Prop} {E1 E2 E3 E4 : Value → Shared → Prop} {Z : Shared → Prop} (hE : ∀ e s, ¬ Y.xe e s) (hu : Y.A.units + 1 < cLine) (pt : PTs Y ifs tt) (pk : PE Y kx tk) (pv : PE Y vx tv) (J : Inv Y qins σ1 Hy t) (h : tDtTurn tt tk tv T σ1 Hy Nx)
    (fin : ∀ t' H', Inv Y qins σ1 H' t' → Nx H' → Z t') :
    wpAny (model Y.prog Y.w) Y.A (forIn ifs true fun c r => if r = true then do let ok ← isTrue c Y.env (eval c Y.env); pure (ForInStep.yield ok) else pure (ForInStep.yield r))
      (fun ok t3 => if ok = true then wpAny (model Y.prog Y.w) Y.A (eval kx Y.env) (fun kv t4 => wpAny (model Y.prog Y.w) Y.A (eval vx Y.env) (fun vv t5 => wpAny (model Y.prog Y.w) Y.A (dictSet T kv vv) (fun _ t6 => Z t6) E4 t5) E3 t4) E2 t3 else Z t3) E1 t := by
  have thnY : ∀ {α : Type} {m : Sem α} {Q Q' : α → Shared → Prop} {E : Value → Shared → Prop} {u : Shared}, wpAny (model Y.prog Y.w) Y.A m Q Y.xe u → (∀ a s, Q a s → Q' a s) → wpAny (model Y.prog Y.w) Y.A m Q' E u := fun a b => wpAny_mono a b fun e s z => (hE e s z).elim
  refine thnY (pt.run qins t σ1 Hy _ J h) fun b t3 ⟨H3, J3, q3⟩ => ?_
  cases b with
  | false =>
    simp only [Bool.false_eq_true, if_false] at q3 ⊢
    exact fin t3 H3 J3 q3
  | true =>
    simp only [if_true] at q3 ⊢
    refine thnY (pk.run qins t3 σ1 H3 _ J3 q3) fun ku t4 ⟨yk, H4, J4, rk, q4⟩ => ?_
    refine thnY (pv.run qins t4 σ1 H4 _ J4 q4) fun vu t5 ⟨yv, H5, J5, rv, kvs, ks, a, ek, ha, hT, hz, nx⟩ => ?_
    subst ek
    obtain rfl : ku = Value.ref a := rk
    exact dt_store hu J5 hT hz ha rv fun t6 J6 => fin t6 _ J6 nx
/-- the whole comprehension -/
theorem dt_core (hc : X.calm = true) (hN : X.N.Nodup) (hu : X.A.units + 1 < cLine) (I : Inv X pins σ H s) (hi : PI X tg iter wi) (ok : BlkOk X.N X.env.scope scope own) (hg : BlkAll X scope fun Y => PG Y tg g) (ht : BlkAll X scope fun Y => PTs Y ifs tt) (hk : BlkAll X scope fun Y => PE Y kx tk) (hv : BlkAll X scope fun Y => PE Y vx tv)
    (hs : ∀ x, foldedSetIterable iter X.env x = pure x) {Q : VK} (h : tDt wi g tt tk tv (own.map (·.2)) σ H Q) :
    wpAny (model X.prog X.w) X.A (comprehension (.DictComp kx vx [⟨tg, iter, ifs, 0⟩] scope pos) scope X.env pos' newDict false (eval iter X.env) none) (EP X pins σ Q) X.xe s := by
  have free : ∀ y ∈ scope.names, y.2 = .free → ∃ c, X.env.cells.lookup y.1 = some c := fun y m e => (ok.free y m e).elim (fun z => I.ok.has _ (.inl z)) fun z => I.ok.has _ (.inr z)
  refine wpAny_comprehension_free rfl hs (closure_ok free) ok.kind (fun y m e => by rw [ok.uniq y m, e]) (thn (hi.run pins s σ H _ I h) fun xv t1 a1 => thn a1 fun itv t2 a2 => ?_)
  obtain ⟨it, fp, tn, J, HI, rfl, I2, TU, st2, fr2, q⟩ := a2
  refine wpAny_newObj_type (newEnv_comp ?_)
  -- the new dict stands at T
  obtain ⟨T, eT⟩ : ∃ T, t2.heap.objs.size = T := ⟨_, rfl⟩
  have nT : HI T = none := I2.hok.fresh (Nat.le_of_eq eT)
  obtain ⟨W, ⟨m0, w0⟩, turn⟩ := q T nT
  obtain ⟨t3, e3⟩ : ∃ t3 : Shared, t3 = { t2 with heap := t2.heap.push { cls := .type "dict", data := .dict #[] } } := ⟨_, rfl⟩
  have hp3 : t3.heap = t2.heap.push { cls := .type "dict", data := .dict #[] } := by rw [e3]
  have I3 : Inv X pins σ (upd HI T (.dT [])) t3 := by
    subst e3
    refine I2.laid (t' := t2.toks) (fun b o e => Heap.get?_push_of_some _ e) (Nat.le_of_eq eT) ?_
    subst eT
    exact dt_empty t2.heap I2.big
  have fr3 : ∀ b ∈ fp, FpOk X pins (upd HI T (.dT [])) b ∧ b < t3.heap.objs.size := fun b hb => by
    obtain ⟨o, e, _⟩ := TU.obj _ _ st2 b hb
    have lt := Heap.lt_size e
    refine ⟨⟨?_, (fr2 b hb).2⟩, by rw [hp3, Heap.size_push]; exact Nat.lt_succ_of_lt lt⟩
    rw [upd_ne (Nat.ne_of_lt (eT ▸ lt))]
    exact (fr2 b hb).1
  have st3 : tn 0 t3.heap := TU.keep _ _ _ st2 fun b _ o e => by
    rw [hp3]
    exact Heap.get?_push_of_some _ e
  have I4 := block_start I3 ok hN fr3
  obtain ⟨cl, ecl⟩ : ∃ cl, cl = cellsFrom (t3.heap.objs.size + 1) scope.names (cloFrom X.env.cells scope.names []) := ⟨_, rfl⟩
  rw [← ecl] at I4
  have kg := hg t3 (upd HI T (.dT [])) t3.heap.objs.size cl fp
  have kt := ht t3 (upd HI T (.dT [])) t3.heap.objs.size cl fp
  have kk := hk t3 (upd HI T (.dT [])) t3.heap.objs.size cl fp
  have kv := hv t3 (upd HI T (.dT [])) t3.heap.objs.size cl fp
  rw [eT, ← e3]
  show codeAny (model X.prog X.w) X.A (.compStart (.DictComp kx vx [⟨tg, iter, ifs, 0⟩] scope pos) 0 (.ref it) (.ref T) (compEnvC scope (cellsFrom (t3.heap.objs.size + 1) scope.names (cloFrom X.env.cells scope.names [])) t3.heap.objs.size X.env)) (compPost (model X.prog X.w) X.A X.xe none (EP X pins σ Q) (.ref T) t3.heap.objs.size) { t3 with heap := pushCells (t3.heap.push { cls := .type "dict", data := .dict #[] }) scope.names }
  rw [← ecl]
  obtain ⟨ce, ece⟩ : ∃ ce, ce = compEnvC scope cl t3.heap.objs.size X.env := ⟨_, rfl⟩
  rw [← ece] at I4 kg kt kk kv ⊢
  have cL : ce.locals = t3.heap.objs.size := by rw [ece]; rfl
  obtain ⟨HB, eHB⟩ : ∃ HB, HB = upd HI T (.dT []) := ⟨_, rfl⟩
  rw [← eHB] at I3 I4 kg kt kk kv w0 fr3
  obtain ⟨t4, e4⟩ : ∃ t4 : Shared, t4 = { t3 with heap := pushCells (t3.heap.push { cls := .type "dict", data := .dict #[] }) scope.names } := ⟨_, rfl⟩
  rw [← e4] at I4 ⊢
  have st4 : tn 0 t4.heap := TU.keep _ _ _ st3 fun b _ o e => by
    rw [e4]
    exact pushCells_keeps _ _ _ _ (Heap.get?_push_of_some _ e)
  have stands : ∀ {τ : L2.St} {H' : Hp} {t : Shared}, Inv (X.blk t3 HB scope ce fp) [] τ H' t → (∀ b ∈ fp, H' b = none) → ∀ b ∈ fp, FpOk (X.blk t3 HB scope ce fp) [] H' b := fun {τ H' t} J n b hb =>
    ⟨n b hb, (J.ok.exf b hb).1, J.ok.exfs b hb, .inl hb, fun x c e => (J.ok.exf b hb).2 x c e, fun p hp => by cases (show p ∈ ([] : List (Addr × Obj)) from by simpa using hp)⟩
  have lp : codeAny (model X.prog X.w) X.A (.compLoop (.DictComp kx vx [⟨tg, iter, ifs, 0⟩] scope pos) 0 (.ref it) (.ref T) ce) (compPost (model X.prog X.w) X.A X.xe none (EP X pins σ Q) (.ref T) t3.heap.objs.size) t4 := by
    refine compLoop_anyD (fun n t => ∃ i H', Inv (X.blk t3 HB scope ce fp) [] (L2.wipe σ (own.map (·.2))) H' t ∧ tn i t.heap ∧ (∀ b ∈ fp, H' b = none) ∧ W i n H') ?_ m0 ⟨0, HB, I4, st4, fun b hb => (fr3 b hb).1.1, w0⟩
    rintro n t5 ⟨i, H5, J5, st5, n5, w5⟩
    rcases turn i n H5 w5 with ⟨stop, qe⟩ | ⟨go, Nx, next, step⟩
    · refine thnF (TU.done (X.blk t3 HB scope ce fp) rfl rfl rfl hc i [] t5 _ H5 (fun _ _ => False) J5 (stands J5 n5) st5 stop) fun r t6 ⟨er, J6⟩ => ?_
      subst er
      have I7 : Inv X pins σ H5 t6 := I3.call' (ch := fp) J6.os J6.base J6.hok J6.bare fun b hb => ⟨(fr3 b hb).1.2.2.2.1, (fr3 b hb).1.2.1, (fr3 b hb).1.2.2.2.2.1, (fr3 b hb).1.2.2.2.2.2⟩
      obtain ⟨m, hm, _⟩ := J6.loc
      have fC : H5 t3.heap.objs.size = none := by
        have z := J6.free
        rw [show (X.blk t3 HB scope ce fp).env.locals = ce.locals from rfl, cL] at z
        exact z
      have hm : t6.heap.Ns ce.locals m := hm
      rw [cL] at hm
      refine ⟨m, hm, fun h'' sb => ?_⟩
      obtain ⟨f0, f1, f2, f3, f4, f5⟩ := I3.fpOk (Nat.le_refl _) fC
      exact ⟨.ref T, H5, I7.turned (t' := t6.toks) (fun b o hb e => (sb.2 b hb).trans e) f0 f1 f3 f4 f5, rfl, qe⟩
    · refine thnF (TU.item (X.blk t3 HB scope ce fp) rfl rfl rfl hc i [] t5 _ H5 (fun _ _ => False) J5 (stands J5 n5) st5 go) fun r t6 ⟨u, er, a6⟩ => ?_
      subst er
      refine thnF a6 fun _ t7 ⟨x, H7, J7, r7, y7, st7, n7⟩ => ?_
      have J7' := J7.pinned (stands J7 n7) (TU.obj _ _ st7)
      refine thnF (kg.run _ t7 _ H7 x u _ J7' r7 (step x H7 y7)) fun _ t8 ⟨σ8, H8, J8, ew, q8⟩ => ?_
      refine dt_turn (Y := X.blk t3 HB scope ce fp) (fun _ _ z => z) hu kt kk kv J8 q8 fun t9 H9 J9 nx => ?_
      obtain ⟨m', lt, w'⟩ := next H9 nx
      have pinned : ∀ b ∈ fp, ∀ o, t7.heap.get? b = some o → t9.heap.get? b = some o ∧ H9 b = none := fun b hb o e =>
        ⟨(J9.pin (b, o) (List.mem_append_right _ (List.mem_append_right _ (mem_pinsAt hb e)))).1, (J9.pin (b, o) (List.mem_append_right _ (List.mem_append_right _ (mem_pinsAt hb e)))).2.1⟩
      have ll : (L2.wipe σ (own.map (·.2))).length = σ8.length := by rw [← ew, wipe_length]
      refine ⟨m', lt, i + 1, H9, (J9.unpinned (pins := [])).weak ll (fun j v e => ?_), TU.keep _ _ _ st7 fun b hb o e => (pinned b hb o e).1, fun b hb => ?_, w'⟩
      · rw [← ew] at e
        exact (wipe_some e).1
      · obtain ⟨o, e, _⟩ := TU.obj _ _ st7 b hb
        exact (pinned b hb o e).2
  exact codeAny_compStart_dict lp (TU.self X.A 0 _ _ _ st4 lp)
end
end Pu
set_option maxRecDepth 100000
set_option maxHeartbeats 2000000
/-! Dict comprehensions over data; sorted; walks over a settled dict -/
namespace Pu
open PySem L2 PySem.Spec PyProof.Rows
section
variable {X : Cx} {W : WX} {kx vx tg iter : Expr} {ifs : List Expr} {scope : Scope} {own : List (Str × Nat)} {pos : Pos}
/-- as a value: the dict is settled as it comes -/
theorem pe_dt {wi : TI} {g : TG} {tt : TT} {tk tv : TE} (hc : X.calm = true) (hN : X.N.Nodup) (hu : X.A.units + 1 < cLine) (hi : PI X tg iter wi) (ok : BlkOk X.N X.env.scope scope own) (hg : BlkAll X scope fun Y => PG Y tg g) (ht : BlkAll X scope fun Y => PTs Y ifs tt) (hk : BlkAll X scope fun Y => PE Y kx tk) (hv : BlkAll X scope fun Y => PE Y vx tv)
    (hs : ∀ x, foldedSetIterable iter X.env x = pure x := by intro _; rfl) :
    PE X (.DictComp kx vx [⟨tg, iter, ifs, 0⟩] scope pos) (fun σ H Q => tDt wi g tt tk tv (own.map (·.2)) σ H fun v H' => ∃ T kvs, v = .ref T ∧ H' T = some (.dT kvs) ∧ ∀ od, Q v (upd H' T (.frz od (.dT kvs)))) := by
  refine ⟨fun pins s σ H Q I h => ?_⟩
  rw [arm_eval_DictComp]
  refine thn (dt_core hc hN hu I hi ok hg ht hk hv hs h) fun u t ⟨v, H', I', r, T, kvs, ev, eT, q⟩ => ?_
  obtain ⟨od, I2⟩ := I'.lock eT trivial
  exact ⟨v, _, I2, r, q od⟩
end
def wDtL (g : WG) (wt : WT) (wk wv : WE) (own : List Nat) : List D → List (List Key × D) → En → (List (List Key × D) → En → Prop) → Prop
  | [], acc, env, P => P acc env
  | x :: xs, acc, env, P => g x (wipeE env own) fun e1 => wt e1 (fun k e2 => match k with
    | true => wk e2 (fun dk e3 => wv e3 (fun dv e4 => match dk with
      | .tup l => ∃ ks, dKeys l = some ks ∧ wDtL g wt wk wv own xs (setT acc ks dv) e4 P
      | _ => False) fun _ _ => False) fun _ _ => False
    | false => wDtL g wt wk wv own xs acc e2 P) fun _ _ => False
def wDt (own : List Nat) (wi : WA) (g : WG) (wt : WT) (wk wv : WE) : WE := fun env P R => wi env (fun ds e1 => ds.length ≤ 100000 ∧ wDtL g wt wk wv own ds [] e1 fun acc e2 => P (.dt acc) (backE e1 e2 own)) R
theorem dtL_wipe {g : WG} {wt : WT} {wk wv : WE} {vs : List Nat} {e : En} {l : List D} {acc : List (List Key × D)} {P' : List (List Key × D) → En → Prop} (h : ∀ e, P' acc e → P' acc (wipeE e vs)) (q : wDtL g wt wk wv vs l acc e P') : wDtL g wt wk wv vs l acc (wipeE e vs) P' := by
  cases l with
  | nil => exact h _ q
  | cons y l =>
    show g y (wipeE (wipeE e vs) vs) _
    rw [wipeE_idem]
    exact q
section
variable {X : Cx} {W : WX}
/-- the walk's turns, for a dict -/
theorem dt_it {J : It} {n : Nat} {Gd : Hp → Prop} {Y : Nat → Hp → V → Hp → Prop} (w : Walk J n Gd Y) {g : TG} {tt : TT} {tk tv : TE} {vs : List Nat} {σ : L2.St} {H1 : Hp} {T : Addr} {Qd : Hp → Prop} (Pv : Nat → Hp → Prop) (h0 : Pv 0 (upd H1 T (.dT []))) (hG : ∀ i H, i ≤ n → Pv i H → Gd H)
    (hs : ∀ i x H H', i < n → Pv i H → Y i H x H' → g x (L2.wipe σ vs) H' fun σ2 H2 => L2.wipe σ2 vs = L2.wipe σ vs ∧ tDtTurn tt tk tv T σ2 H2 (Pv (i + 1))) (hd : ∀ H, Pv n H → Qd H) :
    ∃ W : Nat → Nat → Hp → Prop, (∃ m, W 0 m (upd H1 T (.dT []))) ∧ ∀ i m H', W i m H' →
      (J.stop i H' ∧ Qd H') ∨ (J.go i H' ∧ ∃ Nx : Hp → Prop, (∀ H2, Nx H2 → ∃ m', m' < m ∧ W (i + 1) m' H2) ∧ ∀ x H2, J.yld i H' x H2 → g x (L2.wipe σ vs) H2 fun σ2 H3 => L2.wipe σ2 vs = L2.wipe σ vs ∧ tDtTurn tt tk tv T σ2 H3 Nx) := by
  refine ⟨fun i m H' => i ≤ n ∧ n - i = m ∧ Pv i H', ⟨n, Nat.zero_le _, Nat.sub_zero n, h0⟩, fun i m H' ⟨hi, em, p⟩ => ?_⟩
  have q := hG i H' hi p
  rcases Nat.lt_or_ge i n with lt | ge
  · refine .inr ⟨w.goes i H' lt q, Pv (i + 1), fun H2 p2 => ⟨n - (i + 1), ?_, lt, rfl, p2⟩, fun x H2 y => hs i x H' H2 lt p (w.yields i H' x H2 lt q y)⟩
    omega
  · obtain rfl : i = n := Nat.le_antisymm hi ge
    exact .inl ⟨w.stops H' q, hd H' p⟩
theorem px_dt {kx vx tg iter : Expr} {ifs : List Expr} {scope : Scope} {own : List (Str × Nat)} {pos : Pos} {wi : WA} {g : WG} {wt : WT} {wk wv : WE} (og : List Nat) (hc : X.calm = true) (hN : X.N.Nodup) (hu : X.A.units + 1 < cLine) (hi : PXI X W tg iter wi) (hb : BlkOk X.N X.env.scope scope own)
    (hg : BlkAll X scope fun Y => PXG Y tg og g) (ht : BlkAll X scope fun Y => PXTs Y ifs wt) (hk : BlkAll X scope fun Y => PX Y W0 kx wk) (hv : BlkAll X scope fun Y => PX Y W0 vx wv)
    (hog : ∀ i ∈ og, i ∈ own.map (·.2) := by decide)
    (hf : ∀ x, foldedSetIterable iter X.env x = pure x := by intro _; rfl) : PX X W (.DictComp kx vx [{ target := tg, iter := iter, ifs := ifs, is_async := 0 }] scope pos) (wDt (own.map (·.2)) wi g wt wk wv) := by
  obtain ⟨ti, i1, i2⟩ := hi.ex
  refine ⟨⟨_, pe_dt (g := tG (XOk X) og g) (tt := tTs (XOk X) W0 wt) (tk := tE (XOk X) W0 wk) (tv := tE (XOk X) W0 wv) hc hN hu i1 hb (fun s H C cl fp => (hg s H C cl fp).can) (fun s H C cl fp => (ht s H C cl fp).ex) (fun s H C cl fp => (hk s H C cl fp).can) (fun s H C cl fp => (hv s H C cl fp).can) hf, ?_⟩⟩
  intro F env σ G H P R Q hx hs hw hq hkk
  refine i2 F env σ G H _ R _ hx hs hw (fun ds e1 J G1 H1 p1 s1 x1 wkk => ?_) hkk
  obtain ⟨hlen, p1⟩ := p1
  obtain ⟨Gd, Y, w1, w2, w3⟩ := wkk.ex
  generalize own.map (·.2) = vs at hog p1 ⊢
  intro Dl hD
  have hpd := s1.pinsNe hD
  have bw : ∀ (acc : List (List Key × D)) (e : En), P (.dt acc) (backE e1 e vs) → P (.dt acc) (backE e1 (wipeE e vs) vs) := fun acc e q => by
    rw [backE_wipe]
    exact q
  have nT : ∀ us : List (List Key × V), ∀ c q, HO.dT us ≠ LamX.CodeO c q := fun us c q z => by
    unfold LamX.CodeO at z
    cases z
  refine dt_it w1 (fun i H' => ∃ (e2 : En) (G2 : Hp) (acc : List (List Key × D)) (us : List (List Key × V)), SI { F with pins := (Dl, .dT us) :: F.pins } e2 (L2.wipe σ vs) G2 H' ∧ Ex G1 G2 ∧ RepT F.wd G2 us acc ∧ acc.length ≤ i ∧ wDtL g wt wk wv vs (ds.drop i) acc e2 fun acc e2 => P (.dt acc) (backE e1 e2 vs)) ?_ ?_ ?_ ?_
  · exact ⟨wipeE e1 vs, G1, [], [], (s1.mkPin hD).wipe vs, Ex.refl _, .nil, Nat.zero_le _, dtL_wipe (bw []) p1⟩
  · intro i H' hi ⟨e2, G2, acc, us, a1, a2, _⟩
    exact w2 G2 H' a2 a1.exG
  · intro i x H' H'' hi ⟨e2, G2, acc, us, a1, a2, a3, a4, a5⟩ hy
    obtain ⟨d, G3, b1, b2, b3⟩ := w3 i H' x H'' G2 hy a1.pre a2
    have s3 := a1.step b2
    have hd : ds.drop i = d :: ds.drop (i + 1) := by
      obtain ⟨hl, e⟩ := List.getElem?_eq_some_iff.mp b1
      rw [← e]
      exact List.drop_eq_getElem_cons hl
    rw [hd] at a5
    have s4 := s3.wipe vs
    rw [wipe_idem] at s4
    refine ⟨{ F with pins := (Dl, .dT us) :: F.pins }, wipeE e2 vs, G3, d, _, hx.pin (fun _ z => nomatch z), s4, b3, a5, fun e3 σ3 c1 c2 c3 => ⟨?_, ?_⟩⟩
    · rw [c3 vs hog, wipe_idem]
    have ws : L2.wipe σ3 vs = L2.wipe σ vs := by rw [c3 vs hog, wipe_idem]
    have wp : ∀ {e : En} {G H : Hp} {us : List (List Key × V)}, SI { F with pins := (Dl, .dT us) :: F.pins } e σ3 G H → SI { F with pins := (Dl, .dT us) :: F.pins } (wipeE e vs) (L2.wipe σ vs) G H := fun s => by
      rw [← ws]
      exact s.wipe vs
    refine ⟨{ F with pins := (Dl, .dT us) :: F.pins }, e3, G3, _, _, hx.pin (fun _ z => nomatch z), c2, c1, fun k e4 G4 H4 d1 d2 d3 => ?_, fun _ _ _ _ _ _ z => z.elim⟩
    cases k with
    | false =>
      refine iteF ?_
      exact ⟨wipeE e4 vs, G4, acc, us, wp d2, (a2.trans b2.ex).trans d3, a3.mono (b2.ex.trans d3), by omega, dtL_wipe (bw acc) d1⟩
    | true =>
      refine iteT ?_
      refine ⟨{ F with pins := (Dl, .dT us) :: F.pins }, e4, G4, _, _, hx.pin (fun _ z => nomatch z), d2, d1, fun dk e5 vk G5 H5 f1 f2 f3 f4 => ?_, fun _ _ _ _ _ _ z => z.elim⟩
      refine ⟨{ F with pins := (Dl, .dT us) :: F.pins }, e5, G5, _, _, hx.pin (fun _ z => nomatch z), f2, f1, fun dv e6 vv G6 H6 g1 g2 g3 g4 => ?_, fun _ _ _ _ _ _ z => z.elim⟩
      cases dk <;> first | exact g1.elim | skip
      obtain ⟨ks, k1, k2⟩ := g1
      cases f4 with
      | tup q1 q2 =>
      obtain rfl := reps_keys q2 k1
      obtain ⟨z1, z2, z3, z4⟩ := g2.pin (Dl, .dT us) List.mem_cons_self
      have hl : us.length = acc.length := a3.length
      have hz : (100000 : Nat) ≤ sizeLine := by decide
      have hl2 := setT_len acc ks dv
      exact ⟨us, ks, _, rfl, g2.exG _ _ (g3 _ _ q1), z1, by omega, wipeE e6 vs, G6, setT acc ks dv, putK us ks vv, (wp g2).rePin hpd (fun _ z => nomatch z) (nT us), ((((a2.trans b2.ex).trans d3).trans f3).trans g3), (a3.mono (((b2.ex.trans d3).trans f3).trans g3)).put g4, by omega, dtL_wipe (bw _) k2⟩
  · intro H' ⟨e2, G2, acc, us, a1, a2, a3, a4, a5⟩
    have hd : ds.drop ds.length = [] := List.drop_length
    rw [hd] at a5
    have a5' : P (.dt acc) (backE e1 e2 vs) := a5
    obtain ⟨z1, z2, z3, z4⟩ := a1.pin (Dl, .dT us) List.mem_cons_self
    refine ⟨Dl, us, rfl, z1, fun od => ?_⟩
    have a1' := a1.rePin (o' := .frz od (.dT us)) hpd (fun _ z => nomatch z) (nT us)
    obtain ⟨x2, s2⟩ := a1'.unPin hpd
    obtain ⟨σ', g1, g2, g3, g4⟩ := back_si s1 (a2.trans x2) s2
    have eσ : σ' = σ := by
      apply List.ext_getElem?
      intro i
      by_cases hi : i ∈ vs
      · exact g3 i hi
      · rw [g1 i hi]
        exact wipe_out' hi
    rw [eσ] at g4
    exact hq _ _ _ _ _ a5' g4 (x1.trans (a2.trans x2)) (.dt upd_same (a3.mono x2))
end
/-! ### sorted -/
theorem reps_zip {w : Wd} {G : Hp} : ∀ {vs : List V} {ds : List D}, Reps w G vs ds → (vs.zip ds).map (·.1) = vs ∧ (vs.zip ds).map (·.2) = ds ∧ ∀ t ∈ vs.zip ds, Rep w G t.1 t.2
  | _, _, .nil => ⟨rfl, rfl, fun t h => nomatch h⟩
  | _, _, @Reps.cons _ _ v d vs ds r t => by
    obtain ⟨h1, h2, h3⟩ := reps_zip t
    refine ⟨by rw [List.zip_cons_cons, List.map_cons, h1], by rw [List.zip_cons_cons, List.map_cons, h2], fun q hq => ?_⟩
    rw [List.zip_cons_cons] at hq
    rcases List.mem_cons.mp hq with z | z
    · rw [z]
      exact r
    · exact h3 q z
theorem reps_of {w : Wd} {G : Hp} : ∀ {L : List (V × D)}, (∀ t ∈ L, Rep w G t.1 t.2) → Reps w G (L.map (·.1)) (L.map (·.2))
  | [], _ => .nil
  | t :: L, h => .cons (h t List.mem_cons_self) (reps_of fun q hq => h q (List.mem_cons_of_mem _ hq))
theorem pc_sorted {X : Cx} (hu : X.A.units + 64 < cLine) : PRA X (.builtin "sorted") rdSorted := by
  refine ⟨_, cr_sortedD hu, ?_⟩
  intro w G H ds vs P Q hK hm hp rs h hq
  unfold rdSorted at h
  split at h
  · rename_i l
    obtain ⟨h1, h2, h3, h4, h5, h6⟩ := h
    cases rs with
    | cons r t =>
    cases t
    cases r with
    | @lst a vs' _ ga rs' =>
    obtain ⟨z1, z2, z3⟩ := reps_zip rs'
    have hl : vs'.length = l.length := rs'.length
    let bs : List (V × PyData) := (vs'.zip l).map fun t => (t.1, encD t.2)
    have e1 : bs.map (·.1) = vs' := by
      show ((vs'.zip l).map fun t => (t.1, encD t.2)).map (·.1) = _
      rw [List.map_map]
      exact z1
    have e2 : bs.map (·.2) = l.map encD := by
      show ((vs'.zip l).map fun t => (t.1, encD t.2)).map (·.2) = _
      rw [List.map_map, ← z2, List.map_map, z2]
      rfl
    have e3 : (bs.mergeSort (PySem.W.dataLe false (·.2))).map (·.1) = ((vs'.zip l).mergeSort (PySem.W.dataLe false fun t => encD t.2)).map (·.1) := by
      have q := List.map_mergeSort (r := PySem.W.dataLe false fun t : V × D => encD t.2) (s := PySem.W.dataLe false fun b : V × PyData => b.2) (f := fun t : V × D => (t.1, encD t.2)) (l := vs'.zip l) (fun a _ b _ => rfl)
      rw [← q, List.map_map]
      rfl
    have e4 : sortD l = ((vs'.zip l).mergeSort (PySem.W.dataLe false fun t => encD t.2)).map (·.2) := by
      have q := List.map_mergeSort (r := PySem.W.dataLe false fun t : V × D => encD t.2) (s := PySem.W.dataLe false encD) (f := fun t : V × D => t.2) (l := vs'.zip l) (fun a _ b _ => rfl)
      rw [z2] at q
      exact q.symm
    refine ⟨a, bs, rfl, by rw [e1]; exact SqL.of (hp.exG _ _ ga), fun b hb => ?_, by rw [e2]; exact h2, by rw [e2]; exact h3, fun b hb => ?_, ?_, fun p hn => ?_⟩
    · obtain ⟨t, ht, rfl⟩ := List.mem_map.mp hb
      have hs := h1 t.2 (List.of_mem_zip ht).2
      obtain ⟨pd, ep⟩ := Option.isSome_iff_exists.mp hs
      have ee : encD t.2 = pd := by unfold encD; rw [ep]; rfl
      rw [← hK]
      show Dp w.K H t.1 (encD t.2)
      rw [ee]
      exact dp_mono hp.exG (Rep.dp (z3 t ht) ep)
    · obtain ⟨t, ht, rfl⟩ := List.mem_map.mp hb
      exact h4 t.2 (List.of_mem_zip ht).2
    · show ((vs'.zip l).map fun t => (t.1, encD t.2)).length ≤ sizeLine
      rw [List.length_map, List.length_zip, hl, Nat.min_self]
      exact h5
    · have po := Post.new1 (o := .lst ((bs.mergeSort (PySem.W.dataLe false (·.2))).map (·.1))) hp hn
      refine hq _ _ _ _ h6 po (.lst upd_same ?_)
      have q0 : Reps w G (((vs'.zip l).mergeSort (PySem.W.dataLe false fun t => encD t.2)).map (·.1)) (((vs'.zip l).mergeSort (PySem.W.dataLe false fun t => encD t.2)).map (·.2)) := reps_of fun t ht => z3 t ((List.mergeSort_perm _ _).mem_iff.mp ht)
      rw [← e3, ← e4] at q0
      exact q0.mono po.ex
  · exact h.elim
end Pu
set_option maxRecDepth 100000
set_option maxHeartbeats 2000000
/-! Settled dicts: walked, read, counted; properties; len of an instance -/
namespace Pu
open PySem L2 PySem.Spec PyProof.Rows
section
variable {X : Cx} {W : WX} {tg e ke : Expr} {w wk : WE} {pos : Pos}
/-- for key in d -/
def wItD (w : WE) : WA := fun env P R => w env (fun d e => match d with
  | .dt kvs => P (kvs.map fun p => keyD p.1) e
  | _ => False) R
theorem pi_itD (h : PX X W e w) : PXI X W tg e (wItD w) := by
  obtain ⟨t, a1, a2⟩ := h.ex
  refine ⟨⟨_, pi_keys a1, fun F env σ G H P R Rq hx hs hw hq hk => a2 F env σ G H _ R _ hx hs hw (fun d e1 v G1 H1 p s1 x1 r1 => ?_) hk⟩⟩
  cases d <;> first | exact p.elim | skip
  rename_i kvs
  cases r1 with
  | @dt a vs _ o g1 r =>
  refine ⟨a, o, rfl, .inr ⟨vs, s1.exG _ _ g1, hq _ e1 _ G1 H1 p s1 x1 ⟨⟨fun H => H a = some (.frz o (.dT vs)), fun i H x H' => H' = H ∧ ∃ (k : List Key) (v : V) (q : Addr), vs[i]? = some (k, v) ∧ x = .ref q ∧ H q = some (.tup (k.map kV)), ?_, fun G2 H2 y1 y2 => y2 _ _ (y1 _ _ g1), fun i H2 v H3 G2 y hp y1 => ?_⟩⟩⟩⟩
  · rw [List.length_map, ← r.length]
    exact walk_keysT
  · obtain ⟨rfl, k, z, b, hi, rfl, hb⟩ := y
    obtain ⟨G3, po, g3⟩ := Post.settle hp hb
    refine ⟨keyD k, G3, ?_, po, .tup g3 (keys_reps k)⟩
    have e1 : (vs.map (·.1))[i]? = some k := by rw [List.getElem?_map, hi]; rfl
    rw [r.fst, List.getElem?_map] at e1
    rw [List.getElem?_map]
    cases e2 : kvs[i]? with
    | none => rw [e2] at e1; cases e1
    | some q =>
      rw [e2] at e1
      cases e1
      rfl
/-- d[k] -/
def wIxD (w wk : WE) : WE := fun env P R => w env (fun d e1 => match d with
  | .dt kvs => wk e1 (fun dk e2 => match dk with
    | .tup l => ∃ ks z, dKeys l = some ks ∧ getT kvs ks = some z ∧ P z e2
    | _ => False) R
  | _ => False) R
theorem px_ixD (hu : X.A.units + 1 < cLine) (h : PX X W e w) (hk : PX X W ke wk) (hs : NoSl ke) : PX X W (.Subscript e ke pos) (wIxD w wk) := by
  obtain ⟨t, a1, a2⟩ := h.ex
  obtain ⟨u, b1, b2⟩ := hk.ex
  refine ⟨⟨_, pe_dget hu a1 b1 hs, fun F env σ G H P R Q hx hs hw hq hkk => a2 F env σ G H _ R _ hx hs hw (fun d e1 v G1 H1 p s1 x1 r1 => ?_) hkk⟩⟩
  cases d <;> first | exact p.elim | skip
  refine b2 F e1 σ G1 H1 _ R _ hx s1 p (fun dk e2 vk G2 H2 p2 s2 x2 r2 => ?_) hkk
  cases dk <;> first | exact p2.elim | skip
  obtain ⟨ks, z, k1, k2, k3⟩ := p2
  cases r1 with
  | @dt a vs _ o g1 r =>
  cases r2 with
  | tup q1 q2 =>
  obtain rfl := reps_keys q2 k1
  obtain ⟨v, v1, v2⟩ := r.get.1 z k2
  exact ⟨a, v, rfl, .inr ⟨vs, ks, _, .inr ⟨o, s2.exG _ _ (x2 _ _ g1)⟩, rfl, s2.exG _ _ q1, v1.symm⟩, hq z e2 v G2 H2 k3 s2 (x1.trans x2) (v2.mono x2)⟩
/-! ### len -/
theorem call_lenD : CallR X (.builtin "len") (fun xs H Q => ∃ (p : Addr) (kvs : List (List Key × V)), xs = [.ref p] ∧ Rd H p (.dT kvs) ∧ Q (.int ((kvs.length : Nat) : Int)) H) := by
  intro pins s σ H xs us Q I r h
  obtain ⟨p, kvs, rfl, hp, q⟩ := h
  obtain ⟨u, rfl, ru⟩ := vals1 r
  obtain rfl : u = Value.ref p := ru
  obtain ⟨z, nd, ys, kt, dd⟩ := dt_rd I.hok hp
  have el : kvs.length = ys.length := Paired.length kt
  have bz : ((ys.length : Nat) : Int) < 2 ^ 63 := by rw [← el]; rw [sizeLine_eq] at z; omega
  refine call_len_dictH nd dd bz ?_
  rw [← el]
  exact ⟨.int _, H, I.tok _, ⟨_, rfl⟩, q⟩
variable {k : Nat} {f C g pa : Addr} {fd : FuncData} {ps : List Str} {F : FT} {c fn : Str} {sp : Sp} {CX : CXT}
theorem call_lenO (hs : PySem.W.findIn X.K (.ref C) "__len__" = some (some (.ref f))) (hf : PySem.W.isFn X.K (.ref f) = true) (Fn : FnOk X.prog X.w X.K X.mg X.base CX k f fd ps sp) (hr : Room (k + 1) X.A) (hb : Binds X.K fd ps []) (hx : Passes CX X E0) :
    CallR X (.builtin "len") (fun xs H Q => ∃ a dx fs, xs = [.ref a] ∧ H a = some (.ins C dx fs) ∧ sp [.ref a] H (fun v H' => (∃ n : Int, v = .int n ∧ 0 ≤ n ∧ n < 2 ^ 63) ∧ Q v H') E0) := by
  intro pins s σ H xs us Q I r h
  obtain ⟨a, dx, fs, rfl, ha, q⟩ := h
  obtain ⟨u, rfl, ru⟩ := vals1 r
  obtain rfl : u = Value.ref a := ru
  obtain ⟨mA, J, _⟩ := ins_get I.hok ha
  obtain ⟨od, J, _⟩ := J.look
  refine PySem.Calls.call_function_entry kind_len plain_len entry_len (args_len1 _) ?_
  unfold Builtin.«len»
  refine wpAny_bind (m := oneArg "len" ⟨[Value.ref a], []⟩) (wpAny_pure (wpAny_bind (PySem.W.special_fn I.kIn J hs (beq_iff_eq.mp hf) (run_own Fn hr.in1 I.env0.in1 hb hx I q fun u s' hE => ?_))))
  obtain ⟨v, H', I', rv, ⟨n, rfl, n0, n1⟩, hq⟩ := hE
  obtain ⟨t, rfl⟩ := rv
  refine wpAny_bind (wpAny_holding (wpAny_pure (wpAny_bind (wpAny_letGo ?_))))
  show wpAny _ _ (if n < 0 then _ else _) _ _ _
  rw [if_neg (Int.not_lt.mpr n0)]
  show wpAny _ _ (if n ≥ 2 ^ 63 then _ else _) _ _ _
  rw [if_neg (Int.not_le.mpr n1)]
  exact wpAny_bind (wpAny_mkInt (wpAny_pure ⟨_, rfl, .int n, H', I'.tok _, ⟨_, rfl⟩, hq⟩))
def rdLenD : RDA := fun ds P => match ds with
  | [.dt l] => P (.int (l.length : Nat))
  | _ => False
theorem pc_lenD : PRA X (.builtin "len") rdLenD := by
  refine ⟨_, call_lenD, ?_⟩
  intro w G H ds vs P Q hK hm hp rs h hq
  unfold rdLenD at h
  split at h
  · obtain ⟨v, rfl, r⟩ := rs.inv1
    cases r with
    | dt g1 r =>
    refine ⟨_, _, rfl, .inr ⟨_, hp.exG _ _ g1⟩, ?_⟩
    rw [r.length]
    exact hq _ _ G H h (Post.refl hp) .int
  · exact h.elim
def rdLenO (c : Str) (F : FT) : RDA := fun ds P => match ds with
  | [.ins c' fs] => c' = c ∧ F [.ins c' fs] (fun z => match z with | .int n => 0 ≤ n ∧ n < 2 ^ 63 ∧ P (.int n) | _ => False) (fun _ => False)
  | _ => False
theorem pc_lenO (hmg : X.mg c = some (.ref C)) (hs : PySem.W.findIn X.K (.ref C) "__len__" = some (some (.ref f))) (hf : PySem.W.isFn X.K (.ref f) = true) (Fn : FnOk X.prog X.w X.K X.mg X.base (L2.CX X.prog X.w) k f fd ps (spP X.K X.mg 1 F)) (hr : Room (k + 1) X.A) (hb : Binds X.K fd ps []) :
    PRA X (.builtin "len") (rdLenO c F) := by
  refine ⟨_, call_lenO hs hf Fn hr hb passL, ?_⟩
  intro w G H ds vs P Q hK hm hp rs h hq
  unfold rdLenO at h
  split at h
  · obtain ⟨v, rfl, r⟩ := rs.inv1
    obtain ⟨e, h⟩ := h
    subst e
    obtain ⟨K, mg, b⟩ := w
    cases hK
    cases hm
    cases r with
    | ins m1 ci g1 rf =>
    have m2 : X.mg _ = some (.ref _) := m1
    rw [hmg] at m2
    cases m2
    refine ⟨_, _, _, rfl, hp.exG _ _ g1, b, G, _, _, _, hp, .cons (.ins hmg ci g1 rf) .nil, rfl, h, fun d v G' H' p po r => ?_, fun x cls dct G' H' p po r => p.elim⟩
    cases d <;> first | exact p.elim | skip
    cases r
    exact ⟨⟨_, rfl, p.1, p.2.1⟩, hq _ _ G' H' p.2.2 po .int⟩
  · exact h.elim
/-! ### properties -/
def wProp (c : Str) (F : FT) (w : WE) : WE := fun env P R => w env (fun d e => match d with
  | .ins c' fs => c' = c ∧ F [.ins c' fs] (fun z => P z e) (fun _ => False)
  | _ => False) R
theorem passP : Passes (L2.CX X.prog X.w) X.nox E0 := passL (X := X.nox)
theorem px_prop (hmg : X.mg c = some (.ref C)) (hcl : Cls X.K C) (hp : PropOf X.K C fn pa g) (Fn : FnOk X.prog X.w X.K X.mg X.base (L2.CX X.prog X.w) k g fd ps (spP X.K X.mg 1 F)) (hr : Room (k + 1) X.A) (hb : Binds X.K fd ps []) (h : PX X W e w)
    (hab : attributeBase e fn X.env (eval e X.env) = eval e X.env := by rfl) : PX X W (.Attribute e fn pos) (wProp c F w) := by
  obtain ⟨t, a1, a2⟩ := h.ex
  refine ⟨⟨_, pe_prop (E := E0) (dvs := []) a1 hcl hp Fn hr hb .nil passP hab, fun Fc' env σ G H P R Q hx hs hw hq hk => a2 Fc' env σ G H _ R _ hx hs hw (fun d e1 v G1 H1 p s1 x1 r1 => ?_) hk⟩⟩
  cases d <;> first | exact p.elim | skip
  obtain ⟨rfl, p⟩ := p
  obtain ⟨a, dx, fv, rfl, ci, g1, rf⟩ := ins_at hx r1 hmg
  refine ⟨a, dx, fv, rfl, s1.exG _ _ g1, ?_⟩
  obtain ⟨⟨K, mg, b⟩, G0, H0, pins, self⟩ := Fc'
  obtain ⟨h1, h2, _⟩ := hx
  cases h1
  cases h2
  exact ⟨b, G1, [.ins _ _], _, _, s1.pre, .cons r1 .nil, rfl, p, fun d v G' H' p po r => hq d e1 v G' H' p (s1.step po) (x1.trans po.ex) r, fun x cls dct G' H' p po r => p.elim⟩
end
end Pu
set_option maxRecDepth 100000
set_option maxHeartbeats 2000000
/-! A list that a def returns is its caller's own; a value and an own list set at once -/
namespace Pu
open PySem L2 PySem.Spec PyProof.Rows
section
variable {X : Cx} {W : WX} {e : Expr} {pos : Pos}
/-- [..for..], nobody else's yet -/
def wnLc (w : WE) : WA := fun env P R => w env (fun d e => match d with | .lst l => P l e | _ => False) R
theorem pn_lc {elt tg iter : Expr} {ifs : List Expr} {scope : Scope} {own : List (Str × Nat)} {pos : Pos} {wi : WA} {g : WG} {wt : WT} {we : WE} (og : List Nat) (hc : X.calm = true) (hN : X.N.Nodup) (hi : PXI X W tg iter wi) (hb : BlkOk X.N X.env.scope scope own)
    (hg : ∀ (s : Shared) (H : Hp) (C : Addr) (cl : List (Str × Addr)) (fp : List Addr), PXG (X.blk s H scope (compEnvC scope cl C X.env) fp) tg og g)
    (ht : ∀ (s : Shared) (H : Hp) (C : Addr) (cl : List (Str × Addr)) (fp : List Addr), PXTs (X.blk s H scope (compEnvC scope cl C X.env) fp) ifs wt)
    (he : ∀ (s : Shared) (H : Hp) (C : Addr) (cl : List (Str × Addr)) (fp : List Addr), PX (X.blk s H scope (compEnvC scope cl C X.env) fp) W0 elt we)
    (hog : ∀ i ∈ og, i ∈ own.map (·.2) := by decide)
    (hf : ∀ x, foldedSetIterable iter X.env x = pure x := by intro _; rfl) : PXN X W (.ListComp elt [{ target := tg, iter := iter, ifs := ifs, is_async := 0 }] scope pos) (wnLc (wLc (own.map (·.2)) wi g wt we)) := by
  obtain ⟨ti, i1, i2⟩ := hi.ex
  exact ⟨⟨_, pe_lc (g := tG (XOk X) og g) (tt := tTs (XOk X) W0 wt) (te := tE (XOk X) W0 we) hc hN i1 hb (fun s H C cl fp => (hg s H C cl fp).can) (fun s H C cl fp => (ht s H C cl fp).ex) (fun s H C cl fp => (he s H C cl fp).can) hf, fun F env σ G H P R Q hx hs hw hq hk => lc_runN (tg := tg) (iter := iter) hog i2 F env σ G H _ R Q hx hs hw (fun l e1 a vs G1 H1 p s1 x1 r1 hd => hq l e1 a vs G1 H1 p s1 x1 r1 hd) hk⟩⟩
/-- a, b = a value, a new list -/
def wsOwnVL (i j : Nat) (w : WE) (u : WA) : WS := fun env K => w env (fun d e => u e (fun m e2 => K.nx ((e2.set i (.v d)).set j (.ol (.lst m)))) K.ex) K.ex
theorem ps_ownVL {i j : Nat} {x y : Str} {a b : Expr} {w : WE} {u : WA} {px py pt : Pos} {kt k2 pt2} (hc : X.calm = true) (hN : X.N.Nodup) (hi : X.N[i]? = some x) (hj : X.N[j]? = some y) (hij : i ≠ j)
    (hx : X.env.scope.names.lookup x = some .local) (hy : X.env.scope.names.lookup y = some .local) (ha : PX X W a w) (hb : PXN X W b u)
    (hw : swappedStores [.Tuple [.Name x px, .Name y py] kt pt] (.Tuple [a, b] k2 pt2) X.env = pure (some [x, y]))
    (hs : swapsWithSole [.Tuple [.Name x px, .Name y py] kt pt] (.Tuple [a, b] k2 pt2) pos.line X.env = pure false := by rfl)
    (h1 : starEach (a :: [b]) X.env = (false, eval a X.env) :: starEach [b] X.env := by rfl) (h2 : starEach (b :: []) X.env = (false, eval b X.env) :: starEach [] X.env := by rfl) :
    PXS X W (.Assign [.Tuple [.Name x px, .Name y py] kt pt] (.Tuple [a, b] k2 pt2) pos) (wsOwnVL i j w u) := by
  obtain ⟨ta, a1, a2⟩ := ha.ex
  obtain ⟨tb, b1, b2⟩ := hb.ex
  refine ⟨⟨_, ps_par hc hN hi hj hij hx hy (pa_cons a1 (pa_cons b1 pa_nil h2) h1) hw hs, fun F env σ G H P Q hx hs hw hq => a2 F env σ G H _ _ _ hx hs hw (fun d e1 v G1 H1 p1 s1 x1 r1 => ?_) (hq.ex σ)⟩⟩
  refine b2 F e1 σ G1 H1 _ P.ex _ hx s1 p1 (fun m e2 q us G2 H2 p2 s2 x2 r2 hd2 => ?_) (hq.ex σ)
  refine ⟨_, _, rfl, hq.nx _ _ G2 H2 p2 ?_ (x1.trans x2)⟩
  exact SI.own (SI.set (F := { F with pins := (q, .lst us) :: F.pins }) s2 (r1.mono x2)) (.lst r2) rfl hd2
end
/-! ### defs that give a list away -/
abbrev FTN := List D → (List D → Prop) → (DX → Prop) → Prop
def FTN.ft (F : FTN) : FT := fun ds P R => F ds (fun l => P (.lst l)) R
/-- the promise: the returned list is new and nobody else's -/
def spPN (K : PySem.W.Frag) (mg : Str → Option Value) (n : Nat) (F : FTN) : Sp := fun vs H Q E => ∃ (b : Option Addr) (G : Hp) (ds : List D) (P : List D → Prop) (R : DX → Prop), Pre ⟨K, mg, b⟩ G H ∧ Reps ⟨K, mg, b⟩ G vs ds ∧ ds.length = n ∧ F ds P R ∧
  (∀ l a us G' H', P l → Post ⟨K, mg, b⟩ G H G' H' → H a = none → G' a = none → H' a = some (.lst us) → Reps ⟨K, mg, b⟩ G' us l → Q (.ref a) H') ∧ ∀ x cls dct G' H', R x → Post ⟨K, mg, b⟩ G H G' H' → RX ⟨K, mg, b⟩ G' x cls dct → E cls dct H'
theorem Post.take {w : Wd} {G H G' H' : Hp} {a : Addr} {us : List V} (po : Post w G H G' H') (b : Pre w G H) (h1 : H a = none) (h2 : G' a = none) (h3 : H' a = some (.lst us)) : Ex G' (upd G' a (.lst us)) ∧ Post w G H (upd G' a (.lst us)) H' := by
  have e1 : Ex G' (upd G' a (.lst us)) := fun x u h => by
    rw [upd_ne (ne_of_none h h2)]
    exact h
  refine ⟨e1, po.ex.trans e1, fun x u h => ?_, po.keep, fun x h => ?_, fun β hβ => ?_⟩
  · by_cases z : x = a
    · subst z
      rw [upd_same] at h
      cases h
      exact h3
    · rw [upd_ne z] at h
      exact po.exG _ _ h
  · by_cases z : x = a
    · exact .inr (.inl (by rw [z]; exact h1))
    · rw [upd_ne z] at h
      exact po.new x h
  · obtain ⟨q1, q2, q3⟩ := po.bag β hβ
    have ne : β ≠ a := fun z => (b.bag β hβ).2.1 (by rw [z]; exact h1)
    exact ⟨by rw [upd_ne ne]; exact q1, q2, q3.mono e1 rfl⟩
theorem spPN_of {K : PySem.W.Frag} {mg : Str → Option Value} {n : Nat} {F : FTN} {vs : List V} {H : Hp} {Q : VK} {E : XK} (h : spP K mg n F.ft vs H Q E) : spPN K mg n F vs H Q E := by
  obtain ⟨b, G, ds, P, R, hp, r, hl, hF, h1, h2⟩ := h
  refine ⟨b, G, ds, _, R, hp, r, hl, hF, fun l a us G' H' p po q1 q2 q3 rr => ?_, h2⟩
  obtain ⟨e1, po2⟩ := po.take hp q1 q2 q3
  exact h1 _ _ _ H' p po2 (.lst upd_same (rr.mono e1))
theorem spPN_len {K : PySem.W.Frag} {mg : Str → Option Value} {n : Nat} {F : FTN} {vs : List V} {H : Hp} {Q : VK} {E : XK} (h : spPN K mg n F vs H Q E) : vs.length = n := by
  obtain ⟨b, G, ds, P, R, _, r, hl, _⟩ := h
  rw [r.length, hl]
section
variable {P : Program} {w : World} {K : PySem.W.Frag} {mg : Str → Option Value} {base : Heap}
theorem fnSettled {k n : Nat} {f : Addr} {fd : FuncData} {ps : List Str} {F : FTN} {CX : CXT} (Fn : FnOk P w K mg base CX k f fd ps (spPN K mg n F)) : FnOk P w K mg base CX k f fd ps (spP K mg n F.ft) :=
  Fn.imp fun vs H Q E h => spPN_of h
/-- a def whose body is one return of a new list -/
theorem def_okN {x qual : Str} {st : Stmt} {f : Addr} {fd : FuncData} {N ps : List Str} {k : Nat} {F : FTN} {e : Expr} {pos : Pos} (Fn : Fun K x qual st f fd) (S : FnScope N ps (defScope st)) (hbody : defBody st = [.Return (some e) pos])
    (body : ∀ (cdv : Value) (A : Around) (outer : List Env) (s : Shared) (H : Hp) (E : XK), Room k (A.deeper (envOfC qual (defScope st) s.heap.objs.size f cdv)) →
      ∃ we : WA, PXN (cxOf (L2.CX P w) P w K mg base N qual (defScope st) f cdv A outer s H E) (WDef E) e we ∧
        ∀ (ds : List D) (Pd : List D → Prop) (R : DX → Prop), ds.length = ps.length → F ds Pd R → we (startE N.length ds) (fun l _ => Pd l) (fun x _ => R x)) (hNl : N.contains ("<lambda>" : Str) = false := by decide) :
    FnOk P w K mg base (L2.CX P w) (k + 1) f fd ps (spPN K mg ps.length F) := by
  refine Fn.okX S (fun vs H Q E h => spPN_len h) (fun cdv A outer s H vs Q E hr h => ?_)
  obtain ⟨b, G, ds, Pd, R, hp, r, hl, hF, h1, h2⟩ := h
  obtain ⟨we, hb, hw⟩ := body cdv A outer s H E hr
  obtain ⟨t, t1, t2⟩ := hb.ex
  rw [hbody]
  refine ⟨_, pss_one (ps_ret t1), ?_⟩
  refine t2 { wd := ⟨K, mg, b⟩, G0 := G, H0 := H } (startE N.length ds) (L2.start N vs) G H _ _ _ (XOk.mk' hNl rfl rfl) (start_si N hp r) (hw ds Pd R hl hF) (fun l e1 a us G1 H1 p s1 x1 r1 hd => ?_) (fun x e1 cls dct G1 H1 p s1 rx => h2 x cls dct G1 H1 p s1.post rx)
  obtain ⟨q1, q2, q3, q4⟩ := s1.pin (a, .lst us) List.mem_cons_self
  exact h1 l a us G1 H1 p s1.post q3 q2 q1 r1
end
section
variable {X : Cx} {W : WX} {k n : Nat} {C f : Addr} {fd : FuncData} {ps : List Str} {ds : List Value} {dvs : List V} {dd : List D} {F : FTN} {c m : Str} {o : Expr} {pos apos : Pos} {wo : WE}
theorem SI.addPin {Fc' : Fc} {env : En} {σ : L2.St} {G H G' H' : Hp} {a : Addr} {us : List V} (h : SI Fc' env σ G H) (po : Post Fc'.wd G H G' H') (h1 : H a = none) (h2 : G' a = none) (h3 : H' a = some (.lst us)) : SI { Fc' with pins := (a, .lst us) :: Fc'.pins } env σ G' H' ∧ ∀ p ∈ Fc'.pins, p.1 ≠ a := by
  have h0 : Fc'.H0 a = none := by
    cases e : Fc'.H0 a with
    | none => rfl
    | some u =>
      by_cases hb : Fc'.wd.b = some a
      · exact absurd h1 (h.post.bag a hb).2.1
      · rw [h.post.keep a u hb e] at h1
        cases h1
  have s := h.step po
  refine ⟨⟨s.pre0, s.post, s.len, s.sl, s.ap, fun p hp => ?_, s.tab, fun p hp => ?_⟩, h.pinsNe h1⟩
  · rcases List.mem_cons.mp hp with z | z
    · subst z
      refine ⟨h3, h2, h0, fun i l e q => ?_⟩
      obtain ⟨b, vs, g1, g2, g3, g4, g5⟩ := h.sl i _ e
      rw [q] at g1
      cases g1
      rw [g4] at h1
      cases h1
    · exact s.pin p z
  · rcases List.mem_cons.mp hp with z | z
    · subst z
      exact fun ts z => nomatch z
    · exact s.pt p z
/-- o.m(), the list it gives is the caller's own -/
def wnMeth (c m : Str) (F : FTN) (wo : WE) : WA := fun env P R => wo env (fun d e => match d with
  | .ins c' fs => c' = c ∧ fs.lookup m = none ∧ F [.ins c' fs] (fun l => P l e) (fun x => R x e)
  | _ => False) R
theorem pn_meth0 {pl : Sem Bool} (cl : Cls X.K C) (hmg : X.mg c = some (.ref C)) (hm : Meth X.K C m f) (Fn : FnOk X.prog X.w X.K X.mg X.base (L2.CX X.prog X.w) k f fd ps (spPN X.K X.mg 1 F)) (hr : Room k X.A) (hb : Binds X.K fd ps []) (tk : Takes X W)
    (ho : PX X W o wo)
    (ht : eval (.Call (.Attribute o m apos) [] [] pos) X.env = (do
      let ov ← eval o X.env
      standAt apos.atName
      let (f, first) ← holding [ov] (getMethod ov m pl)
      callWith pos f first (backTo pos (starEach [] X.env)) (backToKw pos (keywordEach [] X.env))) := by rfl) :
    PXN X W (.Call (.Attribute o m apos) [] [] pos) (wnMeth c m F wo) := by
  obtain ⟨t, a1, a2⟩ := ho.ex
  refine ⟨⟨_, pe_methS0 (E := L2.WE W) (dvs := []) a1 cl hm Fn hr hb .nil (fun σ => passAt tk σ) ht, fun Fc' env σ G H P R Q hx hs hw hq hk => a2 Fc' env σ G H _ R _ hx hs hw (fun d e1 v G1 H1 p1 s1 x1 r1 => ?_) hk⟩⟩
  cases d <;> first | exact p1.elim | skip
  obtain ⟨rfl, hl, p2⟩ := p1
  obtain ⟨a, dx, fv, rfl, ci, g1, rf⟩ := ins_at hx r1 hmg
  refine ⟨a, dx, fv, rfl, s1.exG _ _ g1, rf.none hl, ?_⟩
  obtain ⟨⟨K, mg, b⟩, G0, H0, pins, self⟩ := Fc'
  obtain ⟨h1, h2, _⟩ := hx
  cases h1
  cases h2
  refine ⟨b, G1, [_], _, _, s1.pre, .cons r1 .nil, rfl, p2, fun l a' us G' H' p po q1 q2 q3 rr => ?_, fun x cls dct G' H' p po r => hk x e1 cls dct G' H' p (s1.step po) r⟩
  obtain ⟨s2, hd⟩ := s1.addPin po q1 q2 q3
  exact hq l e1 a' us G' H' p s2 (x1.trans po.ex) rr hd
end
end Pu
set_option maxRecDepth 100000
set_option maxHeartbeats 2000000
/-! Star inits by their texts; an operator between instances only -/
namespace Pu
open PySem L2 PySem.Spec PyProof.Rows
theorem hu1 {n : Nat} (h : n + 64 < cLine) : n + 1 < cLine := by omega
/-- at f stands the def of the text st, an __init__(self, *pv) -/
structure FunS (K : PySem.W.Frag) (x qual : Str) (st : Stmt) (f : Addr) (pv : Str) : Prop where
  ex : ∃ (oc : Value) (od : Option Addr) (kV doc pm : Value) (an : Option Addr) (cdv ct : Value) (osl : Array (Option Value)), K.lookup f = some ⟨oc, od, .func (PySem.W.fnOf x qual (defArgs st) (defBody st) (defScope st) .none kV doc pm an cdv ct), osl⟩ ∧ PySem.W.codeIn K cdv qual = true
  b0 : ∀ (kV doc pm : Value) (an : Option Addr) (cdv ct : Value) (a : Value), bindArgs (PySem.W.fnOf x qual (defArgs st) (defBody st) (defScope st) .none kV doc pm an cdv ct) ⟨[a], []⟩ = (newTuple [] >>= fun t => pure [(("self" : Str), a), (pv, t)])
  b1 : ∀ (kV doc pm : Value) (an : Option Addr) (cdv ct : Value) (a r : Value) (rs : List Value), bindArgs (PySem.W.fnOf x qual (defArgs st) (defBody st) (defScope st) .none kV doc pm an cdv ct) ⟨a :: r :: rs, []⟩ = (newTuple (r :: rs) >>= fun t => pure [(("self" : Str), a), (pv, t)])
section
variable {P : Program} {w : World} {K : PySem.W.Frag} {mg : Str → Option Value} {base : Heap}
theorem initS_ok {k : Nat} {f : Addr} {x qual : Str} {st : Stmt} {N : List Str} {c pv : Str} {F : FT} (Fn : FunS K x qual st f pv) (S : FnScope N ((["self"] : List Str) ++ [pv]) (defScope st)) (hN : 0 < N.length)
    (bd : ∀ (cdv : Value) (A : Around) (outer : List Env) (s : Shared) (H : Hp) (E : XK), Room k (A.deeper (envOfC qual (defScope st) s.heap.objs.size f cdv)) →
      ∃ ws : WS, PXB (cxOf (L2.CX P w) P w K mg base N qual (defScope st) f cdv A outer s H E) (WDef E) (defBody st) ws ∧
        ∀ (ds : List D) (Pd : D → Prop) (R : DX → Prop), ds.length = 1 → F ds Pd R → ws (startI c N.length ds) (endsI c Pd R)) (hNl : N.contains ("<lambda>" : Str) = false := by decide) :
    FnR P w K mg base (L2.CX P w) (k + 1) f (spIS K mg c F) := by
  obtain ⟨oc, od, kV, doc, pm, an, cdv, ct, osl, lk, hcd⟩ := Fn.ex
  exact init_okS lk hcd S hN (StX.bind_star1 (B := fun us => bindArgs (PySem.W.fnOf x qual (defArgs st) (defBody st) (defScope st) .none kV doc pm an cdv ct) ⟨us, []⟩) (Fn.b0 kV doc pm an cdv ct) (Fn.b1 kV doc pm an cdv ct)) (fun A outer s H E hr => bd cdv A outer s H E hr) hNl
end
/-! ### an operator of two instances -/
structure BinF0 (K : PySem.W.Frag) (C f : Addr) (nm : String) : Prop where
  sf : PySem.W.selfFirst K C = true
  hs : PySem.W.findIn K (.ref C) (PySem.dunder nm) = some (some (.ref f))
  hf : PySem.W.isFn K (.ref f) = true
def insOnly (F : FT) : FT := fun ds P R => (∃ c fs c' gs, ds = [.ins c fs, .ins c' gs]) ∧ F ds P R
section
variable {X : Cx} {W : WX} {k : Nat} {C f : Addr} {fd : FuncData} {ps : List Str} {F : FT}
theorem own_fwd0 {op : Operator} {CX : CXT} {E : L2.St → XK} (B : BinF0 X.K C f op.info.2) (Fn : FnOk X.prog X.w X.K X.mg X.base CX k f fd ps (spP X.K X.mg 2 F)) (hr : Room k X.A) (hb : Binds X.K fd ps []) (hx : ∀ σ, PassesAt CX X σ (E σ)) :
    OwnR X (binaryOp op) (fun σ x y H Q => (∃ a dx fs, x = .ref a ∧ H a = some (.ins C dx fs)) ∧ ((∃ i, y = .int i) ∨ ∃ a dx fs, y = .ref a ∧ H a = some (.ins C dx fs)) ∧ spP X.K X.mg 2 (insOnly F) [x, y] H Q (E σ)) := by
  intro pins s σ H x y v u Q I rx ry q
  obtain ⟨⟨a, dx, fs, rfl, ha⟩, hy, b, G, ds, P, R, hp, r, hl, ⟨⟨c, gs, c', gs', rfl⟩, hF⟩, h1, h2⟩ := q
  obtain rfl : v = Value.ref a := rx
  obtain ⟨mA, J, _⟩ := ins_get I.hok ha
  obtain ⟨od, J, _⟩ := J.look
  obtain ⟨m, hF'⟩ := I.fr
  have run : wpAny (model X.prog X.w) X.A (call (.ref f) [.ref a, u]) (PySem.W.CmpBack (EP X pins σ Q)) X.xe s :=
    wpAny_mono (run_fnSD (E := E) (us := [.ref a, u]) (vs := [.ref a, y]) (dvs := []) Fn hr hb .nil (hx σ) I (.cons rfl (.cons ry .nil)) ⟨b, G, _, P, R, hp, r, hl, hF, h1, h2⟩) (fun _ _ h => back_of h) fun _ _ h => h
  rcases hy with ⟨i, rfl⟩ | ⟨a', dx', fs', rfl, ha'⟩
  · cases r with
    | cons _ r => cases r with
      | cons r _ => cases r
  · obtain rfl : u = Value.ref a' := ry
    obtain ⟨mB, J', _⟩ := ins_get I.hok ha'
    obtain ⟨od', J', _⟩ := J'.look
    exact PySem.W.binop_K hF' I.ok.mod.kin J J'.type B.sf B.hs B.hf run
end
end Pu
set_option maxRecDepth 100000
set_option maxHeartbeats 2000000
/-! Plain maths: rows of texts in order; tables by rows of texts -/
namespace Pu
open PySem L2 PySem.Spec PyProof.Rows
abbrev TK := List Str
/-! ### order -/
def rawK (k : TK) : List (List Nat) := k.map fun s => s.cps.toList
theorem str_inj {a b : Str} (h : a.cps.toList = b.cps.toList) : a = b := by
  cases a
  cases b
  rw [Array.toList_inj] at h
  simp only at h
  rw [h]
theorem rawK_inj : ∀ {a b : TK}, rawK a = rawK b → a = b
  | [], [], _ => rfl
  | [], _ :: _, h => nomatch h
  | _ :: _, [], h => nomatch h
  | x :: a, y :: b, h => by
    unfold rawK at h
    rw [List.map_cons, List.map_cons] at h
    injection h with h1 h2
    rw [str_inj h1, rawK_inj h2]
theorem rowLt_txt : ∀ a b : TK, PySem.W.rowLt (a.map PyData.str) (b.map PyData.str) = decide (rawK a < rawK b)
  | [], [] => by
    have e : PySem.W.rowLt [] [] = false := PyProof.Rows.lex_irrefl _
    simp [e, rawK]
  | [], y :: b => by
    have e : PySem.W.rowLt [] (PyData.str y :: b.map .str) = true := by
      unfold PySem.W.rowLt
      rw [PySem.W.toks_all_cons]
      simp only [PySem.W.keyToksAll]
      rw [PyProof.Rows.lex_diff (O := PyProof.Rows.itemOrd) (by simp)]
      rfl
    simpa [rawK] using e
  | x :: a, [] => by
    have e : PySem.W.rowLt (PyData.str x :: a.map .str) [] = false := by
      unfold PySem.W.rowLt
      rw [PySem.W.toks_all_cons]
      simp only [PySem.W.keyToksAll]
      rw [PyProof.Rows.lex_diff (O := PyProof.Rows.itemOrd) (by simp)]
      rfl
    simpa [rawK] using e
  | x :: a, y :: b => by
    show PySem.W.rowLt (PyData.str x :: a.map .str) (PyData.str y :: b.map .str) = decide (x.cps.toList :: rawK a < y.cps.toList :: rawK b)
    have q : PySem.W.rowLt (PyData.str x :: a.map .str) (PyData.str y :: b.map .str) = if PyData.eqv (.str x) (.str y) = true then PySem.W.rowLt (a.map .str) (b.map .str) else PySem.W.dataLt (.str x) (.str y) := PySem.W.dataLt_cons rfl _ _
    rw [q, rowLt_txt a b, PySem.W.dataLt_str]
    by_cases h : x = y
    · subst h
      rw [if_pos (by simp [PyData.eqv])]
      simp [List.cons_lt_cons_iff]
    · rw [if_neg (by simpa [PyData.eqv] using h)]
      have h' : x.cps.toList ≠ y.cps.toList := fun z => h (str_inj z)
      simp [List.cons_lt_cons_iff, h']
def leK (a b : TK) : Bool := decide (rawK a ≤ rawK b)
theorem leK_total (a b : TK) : (leK a b || leK b a) = true := by
  unfold leK
  rw [Bool.or_eq_true, decide_eq_true_iff, decide_eq_true_iff]
  exact List.le_total _ _
theorem leK_trans (a b c : TK) (h : leK a b = true) (h' : leK b c = true) : leK a c = true := by
  unfold leK at *
  exact decide_eq_true (List.le_trans (of_decide_eq_true h) (of_decide_eq_true h'))
theorem leK_anti {a b : TK} (h : leK a b = true) (h' : leK b a = true) : a = b := by
  unfold leK at *
  exact rawK_inj (List.le_antisymm (of_decide_eq_true h) (of_decide_eq_true h'))
def sortK (l : List TK) : List TK := l.mergeSort leK
theorem sortK_pw (l : List TK) : (sortK l).Pairwise (fun a b => leK a b = true) := List.pairwise_mergeSort leK_trans leK_total l
theorem sortK_perm (l : List TK) : (sortK l).Perm l := List.mergeSort_perm l leK
theorem sort_one' {l m : List TK} (h1 : l.Pairwise (fun a b => leK a b = true)) (h2 : m.Pairwise (fun a b => leK a b = true)) (p : l.Perm m) : l = m :=
  List.Perm.eq_of_pairwise (fun a b _ _ => leK_anti) h1 h2 p
theorem sortK_eq {l m : List TK} (p : l.Perm m) : sortK l = sortK m := sort_one' (sortK_pw l) (sortK_pw m) ((sortK_perm l).trans (p.trans (sortK_perm m).symm))
theorem sortK_filter (l : List TK) (f : TK → Bool) : (sortK l).filter f = sortK (l.filter f) :=
  sort_one' ((sortK_pw l).sublist List.filter_sublist) (sortK_pw _) (((sortK_perm l).filter f).trans (sortK_perm _).symm)
/-! ### keys as data -/
def tK (k : TK) : List Key := k.map Sum.inr
theorem tK_inj {a b : TK} (h : tK a = tK b) : a = b := by
  induction a generalizing b with
  | nil => cases b with
    | nil => rfl
    | cons _ _ => cases h
  | cons x a ih => cases b with
    | nil => cases h
    | cons y b =>
      unfold tK at h
      rw [List.map_cons, List.map_cons] at h
      injection h with h1 h2
      injection h1 with h1
      rw [h1, ih h2]
theorem dKeys_txt : ∀ k : TK, dKeys (k.map D.str) = some (tK k)
  | [] => rfl
  | x :: k => by
    rw [List.map_cons]
    unfold dKeys
    rw [dKeys_txt k]
    rfl
theorem keyD_txt (k : TK) : keyD (tK k) = .tup (k.map .str) := by
  unfold keyD tK
  rw [List.map_map]
  rfl
theorem toPs_txt : ∀ k : TK, toPs (k.map D.str) = some (k.map PyData.str)
  | [] => rfl
  | x :: k => by
    rw [List.map_cons]
    unfold toPs
    rw [toPs_txt k]
    rfl
theorem toP_txt (k : TK) : toP (.tup (k.map D.str)) = some (.tuple (k.map PyData.str)) := by
  unfold toP
  rw [toPs_txt]
  rfl
theorem encD_txt (k : TK) : encD (.tup (k.map .str)) = .tuple (k.map .str) := by
  unfold encD
  rw [toP_txt]
  rfl
theorem leD_txt (a b : TK) : PySem.W.dataLe false encD (.tup (a.map .str)) (.tup (b.map .str)) = leK a b := by
  show (!PySem.W.dataLt (encD (.tup (b.map .str))) (encD (.tup (a.map .str)))) = _
  rw [encD_txt, encD_txt, PySem.W.dataLt_tuple]
  show (!PySem.W.rowLt _ _) = _
  rw [rowLt_txt]
  unfold leK
  by_cases h : rawK b < rawK a
  · have h' : ¬ rawK a ≤ rawK b := fun r => List.not_lt.mpr r h
    simp [h, h']
  · have h' : rawK a ≤ rawK b := List.not_lt.mp h
    simp [h, h']
def kD' (k : TK) : D := .tup (k.map .str)
theorem sortD_txt (l : List TK) : sortD (l.map kD') = (sortK l).map kD' := by
  have q := List.map_mergeSort (r := leK) (s := PySem.W.dataLe false encD) (f := kD') (l := l) (fun a _ b _ => (leD_txt a b).symm)
  exact q.symm
theorem alike_txt : ∀ a b : TK, PySem.W.alikeAll (a.map .str) (b.map .str) = true
  | [], [] => rfl
  | [], _ :: _ => rfl
  | _ :: _, [] => rfl
  | x :: a, y :: b => by
    rw [List.map_cons, List.map_cons]
    simp [PySem.W.alikeAll, PySem.W.alike, alike_txt a b]
theorem depth_txt : ∀ a : TK, PyData.depthAll (a.map .str) = 0
  | [] => rfl
  | x :: a => by
    rw [List.map_cons]
    simp [PyData.depthAll, PyData.depth, depth_txt a]
/-- sorted of rows of texts, none empty -/
theorem rdSorted_txt {l : List TK} {P : D → Prop} (hn : ∀ k ∈ l, k ≠ []) (hl : l.length ≤ sizeLine) (hP : P (.lst ((sortK l).map kD'))) : rdSorted [.lst (l.map kD')] P := by
  refine ⟨fun d hd => ?_, fun d hd d' hd' => ?_, .inl fun d hd => ?_, fun d hd => ?_, by rw [List.length_map]; exact hl, by rw [sortD_txt]; exact hP⟩
  · obtain ⟨k, _, rfl⟩ := List.mem_map.mp hd
    show (toP (.tup (k.map .str))).isSome = true
    rw [toP_txt]
    rfl
  · obtain ⟨e, he, rfl⟩ := List.mem_map.mp hd
    obtain ⟨k, _, rfl⟩ := List.mem_map.mp he
    obtain ⟨e', he', rfl⟩ := List.mem_map.mp hd'
    obtain ⟨k', _, rfl⟩ := List.mem_map.mp he'
    show PySem.W.alike (encD (.tup (k.map .str))) (encD (.tup (k'.map .str))) = true
    rw [encD_txt, encD_txt]
    simp [PySem.W.alike, alike_txt]
  · obtain ⟨e, he, rfl⟩ := List.mem_map.mp hd
    obtain ⟨k, hk, rfl⟩ := List.mem_map.mp he
    show ∃ x r, encD (.tup (k.map .str)) = _
    rw [encD_txt]
    cases k with
    | nil => exact absurd rfl (hn _ hk)
    | cons x r => exact ⟨_, _, rfl⟩
  · obtain ⟨k, _, rfl⟩ := List.mem_map.mp hd
    show (encD (.tup (k.map .str))).depth ≤ 32
    rw [encD_txt]
    simp [PyData.depth, depth_txt]
/-! ### tables -/
abbrev Tb := List (TK × Int)
def tabD (T : Tb) : List (List Key × D) := T.map fun p => (tK p.1, .int p.2)
def val (T : Tb) (k : TK) : Int := (getT T k).getD 0
def put (T : Tb) (r : TK × Int) : Tb := setT T r.1 (val T r.1 + r.2)
def tab (rows : Tb) : Tb := rows.foldl put []
theorem getT_tab : ∀ (T : Tb) (k : TK), getT (tabD T) (tK k) = (getT T k).map D.int
  | [], k => rfl
  | p :: T, k => by
    have ih := getT_tab T k
    unfold getT tabD at *
    rw [List.map_cons, List.find?_cons, List.find?_cons]
    by_cases h : p.1 = k
    · subst h
      simp
    · have h' : tK p.1 ≠ tK k := fun z => h (tK_inj z)
      simp only [decide_eq_false h, decide_eq_false h']
      exact ih
theorem setT_tab (T : Tb) (k : TK) (v : Int) : setT (tabD T) (tK k) (.int v) = tabD (setT T k v) := by
  have e : ∀ p : TK × Int, decide (tK p.1 = tK k) = decide (p.1 = k) := fun p => by
    by_cases h : p.1 = k
    · rw [h]; simp
    · rw [decide_eq_false h, decide_eq_false fun z => h (tK_inj z)]
  have ea : ((tabD T).any fun kv => decide (kv.1 = tK k)) = (T.any fun kv => decide (kv.1 = k)) := by
    unfold tabD
    rw [List.any_map]
    congr 1
    funext p
    exact e p
  unfold setT
  rw [ea]
  split
  · unfold tabD
    rw [List.map_map, List.map_map]
    apply List.map_congr_left
    intro p _
    show (if tK p.1 = tK k then (tK p.1, D.int v) else (tK p.1, D.int p.2)) = (tK (if p.1 = k then (p.1, v) else p).1, D.int (if p.1 = k then (p.1, v) else p).2)
    by_cases h : p.1 = k
    · rw [if_pos h, if_pos (by rw [h])]
    · rw [if_neg h, if_neg fun z => h (tK_inj z)]
  · unfold tabD
    rw [List.map_append]
    rfl
theorem getT_set {T : Tb} {k k' : TK} {v : Int} : getT (setT T k v) k' = if k = k' then some v else getT T k' := by
  unfold setT
  split
  · rename_i h
    induction T with
    | nil => cases h
    | cons p T ih =>
      rw [List.map_cons]
      unfold getT at *
      rw [List.find?_cons, List.find?_cons]
      by_cases h1 : p.1 = k
      · rw [if_pos h1]
        by_cases h2 : k = k'
        · rw [if_pos h2]
          simp [h1, h2]
        · have h3 : ¬ p.1 = k' := fun z => h2 (h1.symm.trans z)
          rw [if_neg h2]
          simp only [decide_eq_false h3]
          have g : ∀ T : Tb, List.find? (fun kv => decide (kv.1 = k')) (T.map fun kv => if kv.1 = k then (kv.1, v) else kv) = List.find? (fun kv => decide (kv.1 = k')) T := by
            intro T
            induction T with
            | nil => rfl
            | cons q T ih =>
              rw [List.map_cons, List.find?_cons, List.find?_cons, ih]
              by_cases h4 : q.1 = k
              · have h5 : ¬ q.1 = k' := fun z => h2 (h4.symm.trans z)
                rw [if_pos h4]
                simp only [decide_eq_false h5]
              · rw [if_neg h4]
          rw [g]
      · rw [if_neg h1]
        rw [List.any_cons, decide_eq_false h1, Bool.false_or] at h
        have ih := ih h
        by_cases h2 : p.1 = k'
        · have h3 : ¬ k = k' := fun z => h1 (h2.trans z.symm)
          rw [if_neg h3]
          simp [h2]
        · simp only [decide_eq_false h2]
          exact ih
  · rename_i h
    unfold getT
    rw [List.find?_append, List.find?_cons]
    by_cases h1 : k = k'
    · subst h1
      have n : List.find? (fun kv => decide (kv.1 = k)) T = none := by
        rw [List.find?_eq_none]
        intro p hp z
        exact h (List.any_eq_true.mpr ⟨p, hp, z⟩)
      rw [n, if_pos rfl]
      simp
    · rw [if_neg h1]
      simp only [decide_eq_false h1]
      cases List.find? (fun kv => decide (kv.1 = k')) T <;> rfl
theorem val_put (T : Tb) (r : TK × Int) (k : TK) : val (put T r) k = val T k + if r.1 = k then r.2 else 0 := by
  unfold val put
  rw [getT_set]
  by_cases h : r.1 = k
  · rw [if_pos h, if_pos h]
    subst h
    rfl
  · rw [if_neg h, if_neg h]
    simp
/-- the sum of the numbers at k -/
def tot (rows : Tb) (k : TK) : Int := (rows.map fun r => if r.1 = k then r.2 else 0).sum
theorem tot_cons (r : TK × Int) (rows : Tb) (k : TK) : tot (r :: rows) k = (if r.1 = k then r.2 else 0) + tot rows k := rfl
theorem tot_append (a b : Tb) (k : TK) : tot (a ++ b) k = tot a k + tot b k := by
  unfold tot
  rw [List.map_append, List.sum_append]
theorem val_fold : ∀ (rows : Tb) (T : Tb) (k : TK), val (rows.foldl put T) k = val T k + tot rows k
  | [], T, k => by simp [tot]
  | r :: rows, T, k => by
    rw [List.foldl_cons, val_fold rows, val_put, tot_cons]
    omega
theorem val_tab (rows : Tb) (k : TK) : val (tab rows) k = tot rows k := by
  unfold tab
  rw [val_fold]
  show (0 : Int) + _ = _
  omega
def keys (T : Tb) : List TK := T.map (·.1)
theorem keys_set (T : Tb) (k : TK) (v : Int) : keys (setT T k v) = if k ∈ keys T then keys T else keys T ++ [k] := by
  have e : (T.any fun kv => decide (kv.1 = k)) = decide (k ∈ keys T) := by
    rw [Bool.eq_iff_iff, List.any_eq_true, decide_eq_true_iff]
    constructor
    · rintro ⟨p, hp, h⟩
      exact List.mem_map.mpr ⟨p, hp, of_decide_eq_true h⟩
    · intro h
      obtain ⟨p, hp, h⟩ := List.mem_map.mp h
      exact ⟨p, hp, decide_eq_true h⟩
  unfold setT
  rw [e]
  by_cases h : k ∈ keys T
  · rw [if_pos h, if_pos (decide_eq_true h)]
    unfold keys
    rw [List.map_map]
    apply List.map_congr_left
    intro p _
    show (if p.1 = k then (p.1, v) else p).1 = p.1
    split <;> rfl
  · rw [if_neg h, if_neg (by rw [decide_eq_false h]; exact Bool.false_ne_true)]
    unfold keys
    rw [List.map_append]
    rfl
theorem nodup_put {T : Tb} {r : TK × Int} (h : (keys T).Nodup) : (keys (put T r)).Nodup := by
  unfold put
  rw [keys_set]
  split
  · exact h
  · rename_i hk
    exact List.nodup_append.mpr ⟨h, List.nodup_cons.mpr ⟨List.not_mem_nil, List.nodup_nil⟩, fun a ha b hb e => by
      rw [List.mem_singleton.mp hb] at e
      exact hk (e ▸ ha)⟩
theorem nodup_fold : ∀ (rows : Tb) {T : Tb}, (keys T).Nodup → (keys (rows.foldl put T)).Nodup
  | [], _, h => h
  | r :: rows, _, h => nodup_fold rows (nodup_put h)
theorem nodup_tab (rows : Tb) : (keys (tab rows)).Nodup := nodup_fold rows List.nodup_nil
theorem mem_fold : ∀ (rows : Tb) (T : Tb) (k : TK), k ∈ keys (rows.foldl put T) ↔ k ∈ keys T ∨ k ∈ keys rows
  | [], T, k => by simp [keys]
  | r :: rows, T, k => by
    rw [List.foldl_cons, mem_fold rows]
    have e : k ∈ keys (put T r) ↔ k ∈ keys T ∨ k = r.1 := by
      unfold put
      rw [keys_set]
      split
      · rename_i h
        constructor
        · exact .inl
        · rintro (h' | rfl)
          · exact h'
          · exact h
      · simp
    rw [e]
    unfold keys
    rw [List.map_cons, List.mem_cons]
    constructor
    · rintro ((h | h) | h)
      · exact .inl h
      · exact .inr (.inl h)
      · exact .inr (.inr h)
    · rintro (h | h | h)
      · exact .inl (.inl h)
      · exact .inl (.inr h)
      · exact .inr h
theorem mem_tab (rows : Tb) (k : TK) : k ∈ keys (tab rows) ↔ k ∈ keys rows := by
  unfold tab
  rw [mem_fold]
  simp [keys]
theorem tab_len (rows : Tb) : (tab rows).length ≤ rows.length := by
  have g : ∀ (rows T : Tb), (rows.foldl put T).length ≤ T.length + rows.length := fun rows => by
    induction rows with
    | nil => intro T; exact Nat.le_refl _
    | cons r rows ih =>
      intro T
      rw [List.foldl_cons]
      have h1 := ih (put T r)
      have h2 : (put T r).length ≤ T.length + 1 := setT_len _ _ _
      rw [List.length_cons]
      omega
  have := g rows []
  simpa [tab] using this
theorem getT_mem {T : Tb} {k : TK} (h : k ∈ keys T) : getT T k = some (val T k) := by
  unfold val
  cases e : getT T k with
  | some v => rfl
  | none =>
    unfold getT at e
    rw [Option.map_eq_none_iff, List.find?_eq_none] at e
    obtain ⟨p, hp, hk⟩ := List.mem_map.mp h
    exact absurd (decide_eq_true hk) (e p hp)
/-! ### the canonical rows -/
def canon (rows : Tb) : Tb := (((sortK (keys (tab rows))).filter fun k => !decide (tot rows k = 0))).map fun k => (k, tot rows k)
theorem tot_zero {rows : Tb} {k : TK} (h : k ∉ keys rows) : tot rows k = 0 := by
  induction rows with
  | nil => rfl
  | cons r rows ih =>
    unfold keys at h ih
    rw [List.map_cons, List.mem_cons, not_or] at h
    rw [tot_cons, if_neg fun z => h.1 z.symm, ih h.2]
    rfl
theorem canon_congr {a b : Tb} (h : ∀ k, tot a k = tot b k) : canon a = canon b := by
  unfold canon
  rw [sortK_filter, sortK_filter]
  have e : sortK ((keys (tab a)).filter fun k => !decide (tot a k = 0)) = sortK ((keys (tab b)).filter fun k => !decide (tot b k = 0)) := by
    apply sortK_eq
    refine (List.perm_ext_iff_of_nodup ((nodup_tab a).filter _) ((nodup_tab b).filter _)).mpr fun k => ?_
    rw [List.mem_filter, List.mem_filter, mem_tab, mem_tab, h k]
    constructor
    · rintro ⟨_, h2⟩
      refine ⟨?_, h2⟩
      apply Classical.byContradiction
      intro z
      rw [tot_zero z] at h2
      cases h2
    · rintro ⟨_, h2⟩
      refine ⟨?_, h2⟩
      apply Classical.byContradiction
      intro z
      rw [← h k, tot_zero z] at h2
      cases h2
  rw [e]
  apply List.map_congr_left
  intro k _
  rw [h k]
theorem keys_canon (rows : Tb) : keys (canon rows) = (sortK (keys (tab rows))).filter fun k => !decide (tot rows k = 0) := by
  unfold keys canon
  rw [List.map_map]
  show List.map (fun k => k) _ = _
  exact List.map_id' _
theorem nodup_canon (rows : Tb) : (keys (canon rows)).Nodup := by
  rw [keys_canon]
  exact ((sortK_perm _).nodup_iff.mpr (nodup_tab rows)).filter _
theorem mem_canon {rows : Tb} {k : TK} : k ∈ keys (canon rows) ↔ tot rows k ≠ 0 := by
  rw [keys_canon, List.mem_filter, (sortK_perm _).mem_iff, mem_tab]
  constructor
  · rintro ⟨_, h⟩ z
    rw [z] at h
    cases h
  · intro h
    refine ⟨?_, by rw [decide_eq_false h]; rfl⟩
    apply Classical.byContradiction
    intro z
    exact h (tot_zero z)
theorem tot_mem {T : Tb} (hn : (keys T).Nodup) : ∀ {p : TK × Int}, p ∈ T → tot T p.1 = p.2 := by
  induction T with
  | nil => intro p h; cases h
  | cons r T ih =>
    intro p h
    unfold keys at hn ih
    rw [List.map_cons, List.nodup_cons] at hn
    rw [tot_cons]
    rcases List.mem_cons.mp h with e | e
    · subst e
      rw [if_pos rfl, tot_zero hn.1]
      omega
    · rw [if_neg (fun z : r.1 = p.1 => hn.1 (by rw [z]; exact List.mem_map_of_mem e)), ih hn.2 e]
      omega
theorem tot_canon (rows : Tb) (k : TK) : tot (canon rows) k = tot rows k := by
  by_cases h : k ∈ keys (canon rows)
  · have m : (k, tot rows k) ∈ canon rows := by
      rw [keys_canon] at h
      exact List.mem_map_of_mem (f := fun k => (k, tot rows k)) h
    exact tot_mem (nodup_canon rows) m
  · rw [tot_zero h]
    apply Classical.byContradiction
    intro z
    exact h (mem_canon.mpr fun y => z y.symm)
theorem canon_canon (rows : Tb) : canon (canon rows) = canon rows := canon_congr (tot_canon rows)
theorem canon_step (a b : Tb) : canon (canon a ++ canon b) = canon (a ++ b) := canon_congr fun k => by rw [tot_append, tot_append, tot_canon, tot_canon]
theorem canon_len (rows : Tb) : (canon rows).length ≤ rows.length := by
  have h1 : (keys (canon rows)).length = (canon rows).length := List.length_map _
  rw [← h1, keys_canon]
  refine Nat.le_trans (List.length_filter_le _ _) ?_
  rw [(sortK_perm _).length_eq]
  unfold keys
  rw [List.length_map]
  exact tab_len rows
theorem getT_canon {rows : Tb} {p : TK × Int} (h : p ∈ canon rows) : getT (canon rows) p.1 = some p.2 := by
  have m : p.1 ∈ keys (canon rows) := List.mem_map_of_mem h
  have h1 := getT_mem m
  have h2 : val (canon rows) p.1 = p.2 := by
    have hn := nodup_canon rows
    revert h hn
    generalize canon rows = T
    intro h hn
    unfold val
    induction T with
    | nil => cases h
    | cons r T ih =>
      unfold keys at hn ih
      rw [List.map_cons, List.nodup_cons] at hn
      unfold getT at *
      rw [List.find?_cons]
      rcases List.mem_cons.mp h with e | e
      · subst e
        simp
      · have ne : ¬ r.1 = p.1 := fun z => hn.1 (by rw [z]; exact List.mem_map_of_mem e)
        simp only [decide_eq_false ne]
        exact ih e hn.2
  rw [h1, h2]
end Pu
set_option maxRecDepth 100000
set_option maxHeartbeats 2000000
/-! Readings, over data; small steps -/
namespace Pu
open PySem L2 PySem.Spec PyProof.Rows
/-! ### small steps -/
theorem st_asg {i j : Nat} {w : WE} {b : WS} {env : En} {K : EnD} (A : D → D → Prop) (hw : ∀ Pk : D → En → Prop, (∀ d e, A d e → Pk (.tup [d, e]) env) → w env Pk K.ex) (hb : ∀ d e, A d e → b ((env.set i (.v d)).set j (.v e)) K) : wsSeq (wsAsg w (wgTup2 (wgName i) (wgName j))) b env K := hw _ fun d e hd => hb d e hd
theorem st_asg3 {i j k : Nat} {w : WE} {b : WS} {env : En} {K : EnD} (A : D → D → D → Prop) (hw : ∀ Pk : D → En → Prop, (∀ x y z, A x y z → Pk (.tup [x, y, z]) env) → w env Pk K.ex) (hb : ∀ x y z, A x y z → b (((env.set i (.v x)).set j (.v y)).set k (.v z)) K) : wsSeq (wsAsg w (wgTup 3 (wgCons (wgName i) (wgCons (wgName j) (wgCons (wgName k) wgNil))))) b env K := hw _ fun x y z h => ⟨rfl, hb x y z h⟩
theorem v_if {c : WT} {u v : WE} {env : En} {P : D → En → Prop} {R : QX} (k : Bool) (hc : ∀ Pk : Bool → En → Prop, Pk k env → c env Pk R) (ht : k = true → u env P R) (hf : k = false → v env P R) : wIf c u v env P R := hc _ (by
  cases k
  · exact hf rfl
  · exact ht rfl)
theorem v_and {w u : WE} {env : En} {P : D → En → Prop} {R : QX} (k : Bool) (hw : ∀ Pk : D → En → Prop, Pk (.bl k) env → w env Pk R) (ht : k = true → u env P R) (hf : k = false → P (.bl false) env) : wAndV w u env P R := hw _ (by
  cases k
  · exact hf rfl
  · exact ht rfl)
theorem v_or {w u : WE} {env : En} {P : D → En → Prop} {R : QX} (k : Bool) (hw : ∀ Pk : D → En → Prop, Pk (.bl k) env → w env Pk R) (ht : k = true → P (.bl true) env) (hf : k = false → u env P R) : wOrV w u env P R := hw _ (by
  cases k
  · exact hf rfl
  · exact ht rfl)
theorem t_or {c u : WT} {env : En} {P : Bool → En → Prop} {R : QX} (k : Bool) (hc : ∀ Pk : Bool → En → Prop, Pk k env → c env Pk R) (ht : k = true → P true env) (hf : k = false → u env P R) : wOr c u env P R := hc _ (by
  cases k
  · exact hf rfl
  · exact ht rfl)
theorem t_and {c u : WT} {env : En} {P : Bool → En → Prop} {R : QX} (k : Bool) (hc : ∀ Pk : Bool → En → Prop, Pk k env → c env Pk R) (ht : k = true → u env P R) (hf : k = false → P false env) : wAnd c u env P R := hc _ (by
  cases k
  · exact hf rfl
  · exact ht rfl)
theorem v_isi {T : TyN} {i : Nat} {env : En} {d : D} {b : Bool} {P : D → En → Prop} {R : QX} (he : env[i]? = some (.v d)) (h : isTD d T = some b) (hp : P (.bl b) env) : wIsi T (wVar i) env P R := by
  unfold wIsi wVar
  rw [he]
  show match isTD d T with | some b => P (.bl b) env | none => False
  rw [h]
  exact hp
theorem t_nisi {T : TyN} {i : Nat} {env : En} {d : D} {b : Bool} {P : Bool → En → Prop} {R : QX} (he : env[i]? = some (.v d)) (h : isTD d T = some b) (hp : P (!b) env) : wNot (wTest (wIsi T (wVar i))) env P R :=
  v_isi (R := R) (P := fun d e => match d with | .bl k => P (!k) e | _ => False) he h hp
theorem forL_nil {g : WG} {b : WS} {K : EnD} {env : En} (h : K.nx env) : wsForL g b K [] env := h
theorem forL_cons {g : WG} {b : WS} {K : EnD} {env : En} {x : D} {xs : List D} (h : g x env fun e1 => b e1 { K with nx := fun e => wsForL g b K xs e, ct := fun e => wsForL g b K xs e, bk := K.nx }) : wsForL g b K (x :: xs) env := h
theorem g_3 {i j k : Nat} {x y z : D} {env : En} {P : En → Prop} (h : P (((env.set i (.v x)).set j (.v y)).set k (.v z))) : wgTup 3 (wgCons (wgName i) (wgCons (wgName j) (wgCons (wgName k) wgNil))) (.tup [x, y, z]) env P := ⟨rfl, h⟩
theorem isi_of {d : D} {T : TyN} {b : Bool} {P : D → Prop} (h : isTD d T = some b) (hp : P (.bl b)) : (match isTD d T with | some b => P (.bl b) | none => False) := by
  rw [h]
  exact hp
theorem ite_of {c : Prop} [Decidable c] {p q : Prop} (h : c → p) (g : ¬c → q) : if c then p else q := by
  split
  · exact h ‹_›
  · exact g ‹_›
theorem at_2 {a b c : D} {r : List D} : atI (a :: b :: c :: r) 2 = some c := by
  unfold atI ixN
  rw [if_pos (by decide), if_pos (by rw [List.length_cons, List.length_cons, List.length_cons]; omega)]
  rfl
/-! ### texts -/
theorem emp_app (y : Str) : Str.empty ++ y = y := by
  cases y with
  | mk a =>
    show Str.mk (#[] ++ a) = Str.mk a
    rw [Array.empty_append]
theorem app_len (x y : Str) : (x ++ y).length = x.length + y.length := by
  cases x with
  | mk a =>
    cases y with
    | mk b =>
      show (a ++ b).size = a.size + b.size
      exact Array.size_append
theorem num_len {n : Int} (h : Sz 120 n) : (numS n).length ≤ 40 := Nat.le_trans (numS_len_le (k := 37) (by decide) (Nat.lt_trans h (by decide))) (by decide)
theorem num_log {n : Int} (h : Sz 120 n) : n.natAbs.log2 < 1920 := Nat.lt_of_lt_of_le (PySem.Flt.log2_lt_of (by decide) h) (by decide)
theorem big {n : Nat} (h : n ≤ 2000000) : n ≤ sizeLine := Nat.le_trans h (by decide)
theorem abs_sz {m : Nat} {a : Int} (h : Sz m a) : Sz m (if a < 0 then -a else a) := by
  unfold Sz at *
  split <;> omega
theorem isName_len {s : Str} (h : isName s = true) : s.length ≤ 8 := by
  unfold isName at h
  simp only [Bool.and_eq_true, decide_eq_true_iff] at h
  exact h.1.1.2
/-! ### terms -/
def tmD (p : TK × Int) : D := .tup (.int p.2 :: p.1.map .str)
def rdgD (T : Tb) : D := .ins "Reading" [("amounts", .dt (tabD T))]
structure TmOk (p : TK × Int) : Prop where
  key : ∃ k n : Str, p.1 = [k, n] ∧ (k = "level" ∨ k = "stream") ∧ isName n = true
  sz : Sz 120 p.2
inductive TermB : D → Bool → Prop
  | no {d : D} : isTD d .tuple = some false → TermB d false
  | len {l : List D} : l.length ≠ 3 → TermB (.tup l) false
  | num {a b c : D} : (isTD a .int).isSome = true → isIntB a = false → TermB (.tup [a, b, c]) false
  | str {i : Int} {b c : D} : isTD b .str = some false → TermB (.tup [.int i, b, c]) false
  | kind {i : Int} {k : Str} {c : D} : inD (.str k) [.str "level", .str "stream"] = false → TermB (.tup [.int i, .str k, c]) false
  | name {i : Int} {k : Str} {c : D} {b : Bool} : inD (.str k) [.str "level", .str "stream"] = true → isNameD c = some b → TermB (.tup [.int i, .str k, c]) b
def w_is_term (F_is_integer_value : FT) (F_is_name : FT) : WS :=
    (wsSeq (wsIf (wOr (wNot (wTest (wIsi .tuple (wVar 0)))) (wOr (wTest (wOp rdNe (wCB rdLen (wCons (wVar 0) wNil)) (wC (.int 3)))) (wNot (wTest (wCall (fun ds P R => ds.length = 1 ∧ F_is_integer_value ds P R) [] (wCons (wOp rdIx (wVar 0) (wC (.int 0))) wNil)))))) (wsRet (wC (.bl false))) wsNext)
    (wsRet (wAndV (wIsi .str (wOp rdIx (wVar 0) (wC (.int 1)))) (wAndV (wOp (rdIn false) (wOp rdIx (wVar 0) (wC (.int 1))) (wLst (wCons (wC (.str "level")) (wCons (wC (.str "stream")) wNil)))) (wCall (fun ds P R => ds.length = 1 ∧ F_is_name ds P R) [] (wCons (wOp rdIx (wVar 0) (wC (.int 2))) wNil))))))
def F_is_term : FT := fun ds P _ => ∃ d b, ds = [d] ∧ TermB d b ∧ P (.bl b)
theorem pure_is_term (ds : List D) (P : D → Prop) (R : DX → Prop) (_ : ds.length = 1) (h : F_is_term ds P R) : w_is_term F_ivX F_is_name (startE 1 ds) { nx := fun _ => P .non, rt := P, ex := fun x _ => R x } := by
  obtain ⟨d, b, rfl, h, hP⟩ := h
  have fin : ∀ i : Int, ∀ x c : D, ∀ {b : Bool}, (∀ Pk : D → En → Prop, Pk (.bl b) [.v (.tup [.int i, x, c])] → wAndV (wIsi .str (wOp rdIx (wVar 0) (wC (.int 1)))) (wAndV (wOp (rdIn false) (wOp rdIx (wVar 0) (wC (.int 1))) (wLst (wCons (wC (.str "level")) (wCons (wC (.str "stream")) wNil)))) (wCall (fun ds P R => ds.length = 1 ∧ F_is_name ds P R) [] (wCons (wOp rdIx (wVar 0) (wC (.int 2))) wNil))) [.v (.tup [.int i, x, c])] Pk (fun x _ => R x)) → P (.bl b) →
      w_is_term F_ivX F_is_name (startE 1 [.tup [.int i, x, c]]) { nx := fun _ => P .non, rt := P, ex := fun x _ => R x } := by
    intro i x c b h hP
    refine st_ifN false (fun Pk hp => ?_) (fun e => nomatch e) (fun _ => ?_)
    · exact ⟨.int i, at_0, rfl, _, rfl, rfl, hp⟩
    · exact st_ret (fun d => d = .bl b) (fun Pk hp => h _ (hp _ rfl)) (fun d e => by subst e; exact hP)
  cases h with
  | no h =>
    refine st_ifN true (fun Pk hp => t_or true (fun Pk' hp' => t_nisi (b := false) rfl h hp') (fun _ => hp) (fun e => nomatch e)) (fun _ => hP) (fun e => nomatch e)
  | @len l h =>
    refine st_ifN true (fun Pk hp => ?_) (fun _ => hP) (fun e => nomatch e)
    refine t_or false (fun Pk hp => hp) (fun e => nomatch e) fun _ => t_or true (fun Pk hp => ?_) (fun _ => hp) (fun e => nomatch e)
    have e : decide ((l.length : Int) = 3) = false := decide_eq_false (by omega)
    show Pk (!decide ((l.length : Int) = 3)) _
    rw [e]
    exact hp
  | @num a b c h1 h2 =>
    refine st_ifN true (fun Pk hp => ?_) (fun _ => hP) (fun e => nomatch e)
    refine ⟨a, at_0, rfl, _, rfl, h1, ?_⟩
    rw [h2]
    exact hp
  | @str i b c h =>
    exact fin i b c (fun Pk hp => ⟨b, at_1, isi_of (P := fun z => match z with | .bl true => _ | .bl false => _ | _ => False) h hp⟩) hP
  | @kind i k c h =>
    refine fin i (.str k) c (fun Pk hp => ⟨.str k, at_1, .str k, at_1, (by show (2 : Nat) ≤ sizeLine; decide), rfl, rfl, ?_⟩) hP
    rw [h]
    exact hp
  | @name i k c b h h2 =>
    refine fin i (.str k) c (fun Pk hp => ⟨.str k, at_1, .str k, at_1, (by show (2 : Nat) ≤ sizeLine; decide), rfl, rfl, ?_⟩) hP
    rw [h]
    exact ⟨c, at_2, rfl, _, _, rfl, h2, hp⟩
theorem term_ok {p : TK × Int} (h : TmOk p) : TermB (tmD p) true := by
  obtain ⟨k, n, e, hk, hn⟩ := h.key
  obtain ⟨q, m⟩ := p
  have e' : q = [k, n] := e
  subst e'
  refine .name (b := true) ?_ ?_
  · rcases hk with rfl | rfl <;> decide +kernel
  · show (if n.length ≤ sizeLine then some (isName n) else none) = some true
    rw [if_pos (big (by have := isName_len hn; omega)), hn]
/-! ### the constructor -/
def w_ReadingX_initX (F_is_term : FT) : WS :=
    (wsSeq (wsOwnT 2)
    (wsSeq (wsFor (wIt (wVar 1)) (wgName 3)
    (wsSeq (wsIf (wNot (wTest (wCall (fun ds P R => ds.length = 1 ∧ F_is_term ds P R) [] (wCons (wVar 3) wNil)))) (wsRaise "InvalidReading" ["given"] (wCons (wVar 3) wNil)) wsNext)
    (wsSeq (wsAsg (wVar 3) (wgTup 3 (wgCons (wgName 4) (wgCons (wgName 5) (wgCons (wgName 6) wgNil)))))
    (wsPutT 2 (wTup (wCons (wVar 5) (wCons (wVar 6) wNil))) (wOp rdAdd (wGetO 2 (wTup (wCons (wVar 5) (wCons (wVar 6) wNil))) (wC (.int 0))) (wVar 4))))))
    (wsFld 0 "Reading" "amounts" (wDt [7] (wIt (wCB rdSorted (wCons (wListO 2) wNil))) (wgName 7) (wTest (wOp rdNe (wIxO 2 (wVar 7)) (wC (.int 0)))) (wVar 7) (wIxO 2 (wVar 7))))))
def F_RdInit : FT := fun ds P R => ∃ l, ds = [.tup l] ∧ ((∃ rows : Tb, l = rows.map tmD ∧ (∀ p ∈ rows, TmOk p) ∧ rows.length ≤ 1000 ∧ P (rdgD (canon rows))) ∨ ∃ (rows : Tb) (bad : D) (rest : List D), l = rows.map tmD ++ bad :: rest ∧ (∀ p ∈ rows, TmOk p) ∧ rows.length ≤ 1000 ∧ TermB bad false ∧ R (dataX "InvalidReading" ["given"] [bad]))
def putB : WS :=
    (wsSeq (wsIf (wNot (wTest (wCall (fun ds P R => ds.length = 1 ∧ F_is_term ds P R) [] (wCons (wVar 3) wNil)))) (wsRaise "InvalidReading" ["given"] (wCons (wVar 3) wNil)) wsNext)
    (wsSeq (wsAsg (wVar 3) (wgTup 3 (wgCons (wgName 4) (wgCons (wgName 5) (wgCons (wgName 6) wgNil)))))
    (wsPutT 2 (wTup (wCons (wVar 5) (wCons (wVar 6) wNil))) (wOp rdAdd (wGetO 2 (wTup (wCons (wVar 5) (wCons (wVar 6) wNil))) (wC (.int 0))) (wVar 4)))))
theorem put_loop {K : EnD} {a b : Sl} {tail : List D} : ∀ (rows T : Tb) (l : List D) (s3 s4 s5 s6 : Sl), l = rows.map tmD ++ tail → (∀ p ∈ rows, TmOk p) → T.length + rows.length ≤ 2000 →
    (∀ s3 s4 s5 s6, wsForL (wgName 3) putB K tail [a, b, .ol (.dt (tabD (rows.foldl put T))), s3, s4, s5, s6, .no]) →
    wsForL (wgName 3) putB K l [a, b, .ol (.dt (tabD T)), s3, s4, s5, s6, .no]
  | [], T, l, s3, s4, s5, s6, el, _, _, h => by
    subst el
    exact h s3 s4 s5 s6
  | p :: rows, T, l, s3, s4, s5, s6, el, ho, hl, h => by
    subst el
    have hp := ho p List.mem_cons_self
    have tb := term_ok hp
    obtain ⟨k, n, e, _, _⟩ := hp.key
    obtain ⟨q, m⟩ := p
    have e' : q = [k, n] := e
    subst e'
    have z2 : (2 : Nat) ≤ sizeLine := by decide
    rw [List.length_cons] at hl
    refine st_ifN false (fun Pk hp => ⟨rfl, _, true, rfl, tb, hp⟩) (fun e => nomatch e) (fun _ => ?_)
    refine ⟨rfl, ⟨_, rfl⟩, z2, _, rfl, ?_⟩
    have q1 : (getT (tabD T) [Sum.inr k, Sum.inr n]).getD (.int 0) = .int (val T [k, n]) := by
      show (getT (tabD T) (tK [k, n])).getD (.int 0) = _
      rw [getT_tab]
      unfold val
      cases getT T [k, n] <;> rfl
    rw [q1]
    refine ⟨⟨_, rfl⟩, z2, tK [k, n], rfl, ?_, ?_⟩
    · unfold tabD
      rw [List.length_map]
      omega
    · show wsForL _ _ _ _ [a, b, .ol (.dt (setT (tabD T) (tK [k, n]) (.int (val T [k, n] + m)))), _, _, _, _, .no]
      rw [setT_tab]
      exact put_loop rows (put T ([k, n], m)) _ _ _ _ _ rfl (fun p hp => ho p (List.mem_cons_of_mem _ hp)) (by
        have : (put T ([k, n], m)).length ≤ T.length + 1 := setT_len _ _ _
        omega) h
theorem setT_new {κ α : Type} [DecidableEq κ] {kvs : List (κ × α)} {k : κ} {v : α} (h : ∀ p ∈ kvs, p.1 ≠ k) : setT kvs k v = kvs ++ [(k, v)] := by
  unfold setT
  rw [if_neg]
  intro z
  obtain ⟨p, hp, e⟩ := List.any_eq_true.mp z
  exact h p hp (of_decide_eq_true e)
/-- the rows of a table at keys, without zeros -/
def rowsAt (T : Tb) (ks : List TK) : Tb := (ks.filter fun k => !decide (val T k = 0)).map fun k => (k, val T k)
theorem dt_loop {a b c0 c1 c2 c3 : Sl} {T : Tb} {P : List (List Key × D) → En → Prop} : ∀ (ks : List TK) (acc : Tb) (s7 : Sl), (∀ k ∈ ks, k ∈ keys T) → ks.Nodup → (∀ p ∈ acc, p.1 ∉ ks) →
    (∀ s7, P (tabD (acc ++ rowsAt T ks)) [a, b, .ol (.dt (tabD T)), c0, c1, c2, c3, s7]) →
    wDtL (wgName 7) (wTest (wOp rdNe (wIxO 2 (wVar 7)) (wC (.int 0)))) (wVar 7) (wIxO 2 (wVar 7)) [7] (ks.map kD') (tabD acc) [a, b, .ol (.dt (tabD T)), c0, c1, c2, c3, s7] P
  | [], acc, s7, _, _, _, h => by
    have q := h s7
    unfold rowsAt at q
    rw [List.filter_nil, List.map_nil, List.append_nil] at q
    exact q
  | k :: ks, acc, s7, hm, hn, ha, h => by
    have g : getT (tabD T) (tK k) = some (.int (val T k)) := by
      rw [getT_tab, getT_mem (hm k List.mem_cons_self)]
      rfl
    rw [List.nodup_cons] at hn
    refine ⟨⟨_, rfl⟩, tK k, _, dKeys_txt k, g, ?_⟩
    have e2 : rowsAt T (k :: ks) = (if val T k = 0 then [] else [(k, val T k)]) ++ rowsAt T ks := by
      unfold rowsAt
      rw [List.filter_cons]
      by_cases z : val T k = 0
      · simp [z]
      · simp [z]
    show match !decide (val T k = 0) with | true => _ | false => _
    by_cases z : val T k = 0
    · rw [decide_eq_true z]
      refine dt_loop ks acc (.v (kD' k)) (fun k hk => hm k (List.mem_cons_of_mem _ hk)) hn.2 (fun p hp q => ha p hp (List.mem_cons_of_mem _ q)) (fun s7 => ?_)
      have q := h s7
      rw [e2, if_pos z, List.nil_append] at q
      exact q
    · rw [decide_eq_false z]
      refine ⟨⟨_, rfl⟩, tK k, _, dKeys_txt k, g, tK k, dKeys_txt k, ?_⟩
      have es : setT (tabD acc) (tK k) (.int (val T k)) = tabD (acc ++ [(k, val T k)]) := by
        rw [setT_new]
        · unfold tabD
          rw [List.map_append]
          rfl
        · intro p hp q
          unfold tabD at hp
          obtain ⟨r, hr, rfl⟩ := List.mem_map.mp hp
          exact ha r hr (by rw [tK_inj q]; exact List.mem_cons_self)
      rw [es]
      refine dt_loop ks (acc ++ [(k, val T k)]) _ (fun k hk => hm k (List.mem_cons_of_mem _ hk)) hn.2 (fun p hp q => ?_) fun s7 => ?_
      · rcases List.mem_append.mp hp with hp | hp
        · exact ha p hp (List.mem_cons_of_mem _ q)
        · rw [List.mem_singleton.mp hp] at q
          exact hn.1 q
      · have q := h s7
        rw [e2, if_neg z] at q
        rw [List.append_assoc]
        exact q
theorem rowsAt_tab (rows : Tb) : rowsAt (tab rows) (sortK (keys (tab rows))) = canon rows := by
  unfold rowsAt canon
  have e : val (tab rows) = tot rows := funext (val_tab rows)
  rw [e]
theorem keysD_tab (T : Tb) : (tabD T).map (fun p => keyD p.1) = (keys T).map kD' := by
  unfold tabD keys
  rw [List.map_map, List.map_map]
  apply List.map_congr_left
  intro p _
  exact keyD_txt p.1
theorem pure_RdInit (ds : List D) (P : D → Prop) (R : DX → Prop) (_ : ds.length = 1) (h : F_RdInit ds P R) : w_ReadingX_initX F_is_term (startI "Reading" 8 ds) (endsI "Reading" P R) := by
  obtain ⟨l, rfl, h⟩ := h
  rcases h with ⟨rows, rfl, ho, hl, hP⟩ | ⟨rows, bad, rest, rfl, ho, hl, hb, hR⟩
  · refine put_loop (tail := []) rows [] _ _ _ _ _ (by rw [List.append_nil]) ho (by show 0 + _ ≤ _; omega) (fun s3 s4 s5 s6 => ?_)
    · have nd := nodup_tab rows
      have hk : ∀ k ∈ keys (tab rows), ∃ a b : Str, k = [a, b] := fun k hk => by
        obtain ⟨p, hp, rfl⟩ := List.mem_map.mp ((mem_tab rows k).mp hk)
        obtain ⟨a, b, e, _⟩ := (ho p hp).key
        exact ⟨a, b, e⟩
      have ll : (keys (tab rows)).length ≤ 1000 := by
        unfold keys
        rw [List.length_map]
        exact Nat.le_trans (tab_len rows) hl
      refine forL_nil ?_
      dsimp only [wsFld, wDt, wIt, wCB, wCons, wNil, wListO, List.getElem?_cons_succ, List.getElem?_cons_zero]
      have e := keysD_tab (tab rows)
      unfold tab at e
      rw [e]
      show rdSorted [.lst ((keys (tab rows)).map kD')] _
      refine rdSorted_txt (fun k hk' z => ?_) (big (by omega)) ⟨?_, ?_⟩
      · obtain ⟨a, b, e⟩ := hk k hk'
        rw [e] at z
        cases z
      · rw [List.length_map, (sortK_perm _).length_eq]
        omega
      · refine dt_loop (T := tab rows) (sortK (keys (tab rows))) [] _ (fun k hk => (sortK_perm _).mem_iff.mp hk) ((sortK_perm _).nodup_iff.mpr nd) (fun p hp => nomatch hp) fun s7 => ?_
        rw [List.nil_append, rowsAt_tab]
        exact ⟨rfl, by show (0 : Nat) < 1000; decide, rfl, hP⟩
  · refine put_loop (tail := bad :: rest) rows [] _ _ _ _ _ rfl ho (by show 0 + _ ≤ _; omega) (fun s3 s4 s5 s6 => ?_)
    refine st_ifN true (fun Pk hp => ⟨rfl, _, false, rfl, hb, hp⟩) (fun _ => ?_) (fun e => nomatch e)
    exact ⟨rfl, hR⟩
/-! ### level, stream -/
def w_Reading_level (F_ReadingX_initX : FT) (F_is_name : FT) : WS :=
    (wsSeq (wsIf (wNot (wTest (wCall (fun ds P R => ds.length = 1 ∧ F_is_name ds P R) [] (wCons (wVar 1) wNil)))) (wsRaise "InvalidName" ["given"] (wCons (wVar 1) wNil)) wsNext)
    (wsRet (wIsTyp 0 "Reading" (wMakeS F_ReadingX_initX (wCons (wTup (wCons (wC (.int 1)) (wCons (wC (.str "level")) (wCons (wVar 1) wNil)))) wNil)))))
def w_Reading_stream (F_ReadingX_initX : FT) (F_is_name : FT) : WS :=
    (wsSeq (wsIf (wNot (wTest (wCall (fun ds P R => ds.length = 1 ∧ F_is_name ds P R) [] (wCons (wVar 1) wNil)))) (wsRaise "InvalidName" ["given"] (wCons (wVar 1) wNil)) wsNext)
    (wsRet (wIsTyp 0 "Reading" (wMakeS F_ReadingX_initX (wCons (wTup (wCons (wC (.int 1)) (wCons (wC (.str "stream")) (wCons (wVar 1) wNil)))) wNil)))))
def oneD (k : Str) (n : Str) : D := rdgD [([k, n], 1)]
theorem canon_one {k n : Str} : canon [([k, n], 1)] = [([k, n], 1)] := by
  have e : tot [([k, n], 1)] [k, n] = 1 := by
    rw [tot_cons, if_pos rfl]
    rfl
  have e2 : keys (tab [([k, n], 1)]) = [[k, n]] := rfl
  unfold canon
  rw [e2, show sortK [[k, n]] = [[k, n]] from List.mergeSort_singleton _]
  simp [e]
/-- kind k of a name, or the name is none -/
def F_RdOne (k : Str) : FT := fun ds P R => ∃ d, ds = [.typ "Reading", d] ∧ ((∃ n : Str, d = .str n ∧ isName n = true ∧ P (oneD k n)) ∨ (isNameD d = some false ∧ R (dataX "InvalidName" ["given"] [d])))
theorem nameD_ok {n : Str} (h : isName n = true) : isNameD (.str n) = some true := by
  show (if n.length ≤ sizeLine then some (isName n) else none) = some true
  rw [if_pos (big (by have := isName_len h; omega)), h]
theorem one_ok {k n : Str} {P : D → Prop} {R : DX → Prop} (hk : k = "level" ∨ k = "stream") (h : isName n = true) (hP : P (oneD k n)) : F_RdInit [.tup [.tup [.int 1, .str k, .str n]]] P R := by
  refine ⟨_, rfl, .inl ⟨[([k, n], 1)], rfl, fun p hp => ?_, (by show 1 ≤ 1000; decide), ?_⟩⟩
  · rw [List.mem_singleton.mp hp]
    exact ⟨⟨k, n, rfl, hk, h⟩, Sz.one (by decide)⟩
  · rw [canon_one]
    exact hP
theorem pure_RdLevel (ds : List D) (P : D → Prop) (R : DX → Prop) (_ : ds.length = 2) (h : F_RdOne "level" ds P R) : w_Reading_level F_RdInit F_is_name (startE 2 ds) { nx := fun _ => P .non, rt := P, ex := fun x _ => R x } := by
  obtain ⟨d, rfl, h⟩ := h
  rcases h with ⟨n, rfl, hn, hP⟩ | ⟨hb, hR⟩
  · refine st_ifN false (fun Pk hp => ⟨rfl, _, true, rfl, nameD_ok hn, hp⟩) (fun e => nomatch e) (fun _ => ?_)
    exact ⟨⟨_, rfl, rfl⟩, (by show (3 : Nat) ≤ sizeLine; decide), (by show (1 : Nat) ≤ sizeLine; decide), one_ok (.inl rfl) hn hP⟩
  · exact st_ifN true (fun Pk hp => ⟨rfl, _, false, rfl, hb, hp⟩) (fun _ => ⟨rfl, hR⟩) (fun e => nomatch e)
theorem pure_RdStream (ds : List D) (P : D → Prop) (R : DX → Prop) (_ : ds.length = 2) (h : F_RdOne "stream" ds P R) : w_Reading_stream F_RdInit F_is_name (startE 2 ds) { nx := fun _ => P .non, rt := P, ex := fun x _ => R x } := by
  obtain ⟨d, rfl, h⟩ := h
  rcases h with ⟨n, rfl, hn, hP⟩ | ⟨hb, hR⟩
  · refine st_ifN false (fun Pk hp => ⟨rfl, _, true, rfl, nameD_ok hn, hp⟩) (fun e => nomatch e) (fun _ => ?_)
    exact ⟨⟨_, rfl, rfl⟩, (by show (3 : Nat) ≤ sizeLine; decide), (by show (1 : Nat) ≤ sizeLine; decide), one_ok (.inr rfl) hn hP⟩
  · exact st_ifN true (fun Pk hp => ⟨rfl, _, false, rfl, hb, hp⟩) (fun _ => ⟨rfl, hR⟩) (fun e => nomatch e)
/-! ### a reading as it is: rows in order -/
structure RdOk (T : Tb) : Prop where
  ok : ∀ p ∈ T, TmOk p
  nd : (keys T).Nodup
  len : T.length ≤ 1000
theorem tmD_txt {k n : Str} {m : Int} : tmD ([k, n], m) = .tup [.int m, .str k, .str n] := rfl
def w_Reading_terms  : WA :=
    (wnLc (wLc [1] (wItD (wFld "Reading" "amounts" (wVar 0))) (wgName 1) wYes (wTup (wCons (wIxD (wFld "Reading" "amounts" (wVar 0)) (wVar 1)) (wCons (wOp rdIx (wVar 1) (wC (.int 0))) (wCons (wOp rdIx (wVar 1) (wC (.int 1))) wNil))))))
def F_RdTerms : FTN := fun ds P _ => ∃ T : Tb, ds = [rdgD T] ∧ RdOk T ∧ P (T.map tmD)
theorem getT_row {T : Tb} (h : (keys T).Nodup) : ∀ {p : TK × Int}, p ∈ T → getT T p.1 = some p.2 := by
  induction T with
  | nil => intro p hp; cases hp
  | cons r T ih =>
    intro p hp
    unfold keys at h ih
    rw [List.map_cons, List.nodup_cons] at h
    unfold getT at *
    rw [List.find?_cons]
    rcases List.mem_cons.mp hp with e | e
    · subst e
      simp
    · have ne : ¬ r.1 = p.1 := fun z => h.1 (by rw [z]; exact List.mem_map_of_mem e)
      simp only [decide_eq_false ne]
      exact ih h.2 e
theorem pure_RdTerms (ds : List D) (P : List D → Prop) (R : DX → Prop) (_ : ds.length = 1) (h : F_RdTerms ds P R) : w_Reading_terms (startE 2 ds) (fun l _ => P l) (fun x _ => R x) := by
  obtain ⟨T, rfl, ok, hP⟩ := h
  refine ⟨rfl, _, rfl, ?_⟩
  show (List.length _ ≤ 100000) ∧ _
  rw [keysD_tab]
  refine ⟨by rw [List.length_map]; unfold keys; rw [List.length_map]; have := ok.len; omega, ?_⟩
  have q : ∀ (l : Tb) (acc : List D) (s : Sl), (∀ p ∈ l, p ∈ T) → P (acc ++ l.map tmD) → wLcL (wgName 1) wYes (wTup (wCons (wIxD (wFld "Reading" "amounts" (wVar 0)) (wVar 1)) (wCons (wOp rdIx (wVar 1) (wC (.int 0))) (wCons (wOp rdIx (wVar 1) (wC (.int 1))) wNil)))) [1] ((keys l).map kD') acc [.v (rdgD T), s] fun acc _ => P acc := by
    intro l
    induction l with
    | nil =>
      intro acc s _ h
      rw [List.map_nil, List.append_nil] at h
      exact h
    | cons p l ih =>
      intro acc s hm h
      have hp := hm p List.mem_cons_self
      have g := getT_row ok.nd hp
      obtain ⟨k, n, e, _, _⟩ := (ok.ok p hp).key
      obtain ⟨q, m⟩ := p
      have e' : q = [k, n] := e
      subst e'
      have g' : getT (tabD T) (tK [k, n]) = some (.int m) := by
        rw [getT_tab, g]
        rfl
      refine ⟨rfl, _, rfl, tK [k, n], _, rfl, g', .str k, at_0, .str n, at_1, (by show (3 : Nat) ≤ sizeLine; decide), ?_⟩
      refine ih _ _ (fun p hp => hm p (List.mem_cons_of_mem _ hp)) ?_
      rw [List.append_assoc]
      exact h
  exact q T [] _ (fun p hp => hp) hP
/-! ### texts of readings -/
def termS (n : Int) (k m : Str) : Str := if n = 1 then k ++ " " ++ m else numS n ++ "*" ++ k ++ " " ++ m
def jointS (acc : Str) (n : Int) : Str := if acc = "" then (if n < 0 then "-" else "") else if n < 0 then " - " else " + "
def absI (n : Int) : Int := if n < 0 then -n else n
def stepS (acc : Str) (p : TK × Int) : Str := match p.1 with
  | [k, m] => acc ++ jointS acc p.2 ++ termS (absI p.2) k m
  | _ => acc
def textS (T : Tb) : Str := if T.foldl stepS "" = "" then "0" else T.foldl stepS ""
theorem kind_len {k : Str} (h : k = "level" ∨ k = "stream") : k.length ≤ 6 := by rcases h with rfl | rfl <;> decide
theorem termS_len {n : Int} {k m : Str} (sn : Sz 120 n) (hk : k.length ≤ 6) (hm : m.length ≤ 8) : (termS n k m).length ≤ 60 := by
  have l1 : ("*" : Str).length = 1 := rfl
  have l2 : (" " : Str).length = 1 := rfl
  have := num_len sn
  unfold termS
  split
  · rw [app_len, app_len, l2]; omega
  · rw [app_len, app_len, app_len, app_len, l1, l2]; omega
theorem jointS_len (acc : Str) (n : Int) : (jointS acc n).length ≤ 3 := by
  unfold jointS
  split <;> split <;> decide
def F_tt : FT := fun ds P _ => ∃ (n : Int) (k m : Str), ds = [.int n, .str k, .str m] ∧ Sz 120 n ∧ k.length ≤ 6 ∧ m.length ≤ 8 ∧ P (.str (termS n k m))
def w_term_text  : WS :=
    (wsRet (wIf (wTest (wOp rdEq (wVar 0) (wC (.int 1)))) (wJoin [(wFmt (wVar 1)), (wC (.str " ")), (wFmt (wVar 2))]) (wJoin [(wFmt (wVar 0)), (wC (.str "*")), (wFmt (wVar 1)), (wC (.str " ")), (wFmt (wVar 2))])))
theorem pure_term_text (ds : List D) (P : D → Prop) (R : DX → Prop) (_ : ds.length = 3) (h : F_tt ds P R) : w_term_text (startE 3 ds) { nx := fun _ => P .non, rt := P, ex := fun x _ => R x } := by
  obtain ⟨n, k, m, rfl, sn, hk, hm, hP⟩ := h
  have l1 : ("*" : Str).length = 1 := rfl
  have l2 : (" " : Str).length = 1 := rfl
  have l3 : Str.empty.length = 0 := rfl
  have ln : (Str.ofString (toString n)).length ≤ 40 := num_len sn
  unfold termS at hP
  refine v_if (decide (n = 1)) (fun Pk hp => hp) (fun e => ?_) (fun e => ?_)
  · rw [if_pos (of_decide_eq_true e)] at hP
    refine ⟨big (by omega), ?_, ?_, big (by omega), ?_, ?_⟩
    · rw [app_len, l3]; exact big (by omega)
    · rw [app_len, app_len, l2, l3]; exact big (by omega)
    · rw [app_len, app_len, app_len, l2, l3]; exact big (by omega)
    · rw [emp_app]; exact hP
  · rw [if_neg (of_decide_eq_false e)] at hP
    refine ⟨num_log sn, ?_, ?_, big (by omega), ?_, ?_, big (by omega), ?_, ?_⟩
    · rw [app_len, l3]; exact big (by omega)
    · rw [app_len, app_len, l1, l3]; exact big (by omega)
    · rw [app_len, app_len, app_len, l1, l3]; exact big (by omega)
    · rw [app_len, app_len, app_len, app_len, l1, l2, l3]; exact big (by omega)
    · rw [app_len, app_len, app_len, app_len, app_len, l1, l2, l3]; exact big (by omega)
    · rw [emp_app]; exact hP
def w_law_term_text  : WS :=
    (wsRet (wIf (wTest (wOp rdEq (wVar 0) (wC (.int 1)))) (wOp rdAdd (wOp rdAdd (wVar 1) (wC (.str " "))) (wVar 2)) (wOp rdAdd (wOp rdAdd (wOp rdAdd (wOp rdAdd (wCB rdStr (wCons (wVar 0) wNil)) (wC (.str "*"))) (wVar 1)) (wC (.str " "))) (wVar 2))))
theorem pure_law_term_text (ds : List D) (P : D → Prop) (R : DX → Prop) (_ : ds.length = 3) (h : F_tt ds P R) : w_law_term_text (startE 3 ds) { nx := fun _ => P .non, rt := P, ex := fun x _ => R x } := by
  obtain ⟨n, k, m, rfl, sn, hk, hm, hP⟩ := h
  have l1 : ("*" : Str).length = 1 := rfl
  have l2 : (" " : Str).length = 1 := rfl
  have ln : (Str.ofString (toString n)).length ≤ 40 := num_len sn
  unfold termS at hP
  refine v_if (decide (n = 1)) (fun Pk hp => hp) (fun e => ?_) (fun e => ?_)
  · rw [if_pos (of_decide_eq_true e)] at hP
    refine ⟨?_, ?_, hP⟩
    · rw [l2]; exact big (by omega)
    · rw [app_len, l2]; exact big (by omega)
  · rw [if_neg (of_decide_eq_false e)] at hP
    refine ⟨num_log sn, ?_, ?_, ?_, ?_, hP⟩
    · rw [l1]; exact big (by omega)
    · rw [app_len, l1]; exact big (by omega)
    · rw [app_len, app_len, l1, l2]; exact big (by omega)
    · rw [app_len, app_len, app_len, l1, l2]; exact big (by omega)
def textB : WS :=
    (wsSeq (wsSet 5 (wIf (wTest (wOp rdLt (wVar 2) (wC (.int 0)))) (wC (.str " - ")) (wC (.str " + "))))
    (wsSeq (wsIf (wTest (wOp rdEq (wVar 1) (wC (.str "")))) (wsSet 5 (wIf (wTest (wOp rdLt (wVar 2) (wC (.int 0)))) (wC (.str "-")) (wC (.str "")))) wsNext)
    (wsSet 1 (wOp rdAdd (wOp rdAdd (wVar 1) (wVar 5)) (wCall (fun ds P R => ds.length = 3 ∧ F_tt ds P R) [] (wCons (wCB rdAbs (wCons (wVar 2) wNil)) (wCons (wVar 3) (wCons (wVar 4) wNil))))))))
abbrev textG : WG := (wgTup 3 (wgCons (wgName 2) (wgCons (wgName 3) (wgCons (wgName 4) wgNil))))
theorem text_loop {K : EnD} {s0 : Sl} : ∀ (T : Tb) (acc : Str) (s2 s3 s4 s5 : Sl), (∀ p ∈ T, TmOk p) → acc.length + 100 * T.length ≤ 1000000 →
    (∀ s2 s3 s4 s5, K.nx [s0, .v (.str (T.foldl stepS acc)), s2, s3, s4, s5]) →
    wsForL textG textB K (T.map tmD) [s0, .v (.str acc), s2, s3, s4, s5]
  | [], acc, s2, s3, s4, s5, _, _, h => h _ _ _ _
  | p :: T, acc, s2, s3, s4, s5, ho, hl, h => by
    have hp := ho p List.mem_cons_self
    obtain ⟨k, m, e, hk, hm⟩ := hp.key
    have sz := hp.sz
    obtain ⟨q, n⟩ := p
    have e' : q = [k, m] := e
    subst e'
    rw [List.length_cons] at hl
    have lt := termS_len (abs_sz sz) (kind_len hk) (isName_len hm)
    have lj := jointS_len acc n
    have last : ∀ j : Str, j = jointS acc n → wsSet 1 (wOp rdAdd (wOp rdAdd (wVar 1) (wVar 5)) (wCall (fun ds P R => ds.length = 3 ∧ F_tt ds P R) [] (wCons (wCB rdAbs (wCons (wVar 2) wNil)) (wCons (wVar 3) (wCons (wVar 4) wNil))))) [s0, .v (.str acc), .v (.int n), .v (.str k), .v (.str m), .v (.str j)] { K with nx := fun e => wsForL textG textB K (T.map tmD) e, ct := fun e => wsForL textG textB K (T.map tmD) e, bk := K.nx } := by
      intro j hj
      subst hj
      refine ⟨big (by omega), rfl, _, k, m, rfl, abs_sz sz, kind_len hk, isName_len hm, ?_, ?_⟩
      · have lt' : (termS (if n < 0 then -n else n) k m).length ≤ 60 := lt
        rw [app_len]
        exact big (by omega)
      · refine text_loop T (stepS acc ([k, m], n)) _ _ _ _ (fun p hp => ho p (List.mem_cons_of_mem _ hp)) ?_ h
        have lt' : (termS (absI n) k m).length ≤ 60 := lt
        show (acc ++ jointS acc n ++ termS (absI n) k m).length + _ ≤ _
        rw [app_len, app_len]
        omega
    refine forL_cons (g_3 ?_)
    show textB [s0, .v (.str acc), .v (.int n), .v (.str k), .v (.str m), s5] _
    unfold textB
    refine st_set (fun d => d = .str (if n < 0 then " - " else " + ")) (fun Pk hp => ?_) (fun d hd => ?_)
    · refine v_if (decide (n < 0)) (fun Pk hp => ⟨trivial, hp⟩) (fun e => ?_) (fun e => ?_)
      · exact hp _ (by rw [if_pos (of_decide_eq_true e)])
      · exact hp _ (by rw [if_neg (of_decide_eq_false e)])
    subst hd
    refine st_if (decide (acc = "")) (fun Pk hp => hp) (fun e => ?_) (fun e => ?_)
    · refine st_set1 (fun d => d = .str (jointS acc n)) (fun Pk hp => ?_) (fun d hd => ?_)
      · have e1 := of_decide_eq_true e
        refine v_if (decide (n < 0)) (fun Pk hp => ⟨trivial, hp⟩) (fun e => ?_) (fun e => ?_)
        · exact hp _ (by unfold jointS; rw [if_pos e1, if_pos (of_decide_eq_true e)])
        · exact hp _ (by unfold jointS; rw [if_pos e1, if_neg (of_decide_eq_false e)])
      · subst hd
        exact last _ rfl
    · exact last _ (by unfold jointS; rw [if_neg (of_decide_eq_false e)])
theorem foldS_len : ∀ (T : Tb) (acc : Str), (∀ p ∈ T, TmOk p) → (T.foldl stepS acc).length ≤ acc.length + 100 * T.length
  | [], acc, _ => Nat.le_add_right _ _
  | p :: T, acc, ho => by
    have hp := ho p List.mem_cons_self
    obtain ⟨k, m, e, hk, hm⟩ := hp.key
    have sz := hp.sz
    obtain ⟨q, n⟩ := p
    have e' : q = [k, m] := e
    subst e'
    rw [List.foldl_cons, List.length_cons]
    refine Nat.le_trans (foldS_len T _ fun p hp => ho p (List.mem_cons_of_mem _ hp)) ?_
    have lt : (termS (absI n) k m).length ≤ 60 := termS_len (abs_sz sz) (kind_len hk) (isName_len hm)
    have lj := jointS_len acc n
    show (acc ++ jointS acc n ++ termS (absI n) k m).length + _ ≤ _
    rw [app_len, app_len]
    omega
theorem textS_len {T : Tb} (ho : ∀ p ∈ T, TmOk p) (hl : T.length ≤ 1000) : (textS T).length ≤ 1000000 := by
  have := foldS_len T "" ho
  have e : ("" : Str).length = 0 := rfl
  unfold textS
  split
  · decide
  · omega
def w_Reading_text (F_Reading_terms : FTN) (F_term_text : FT) : WS :=
    (wsSeq (wsSet 1 (wC (.str "")))
    (wsSeq (wsFor (wIt (wMeth "Reading" "terms" 1 F_Reading_terms.ft [] (wVar 0) wNil)) (wgTup 3 (wgCons (wgName 2) (wgCons (wgName 3) (wgCons (wgName 4) wgNil))))
    (wsSeq (wsSet 5 (wIf (wTest (wOp rdLt (wVar 2) (wC (.int 0)))) (wC (.str " - ")) (wC (.str " + "))))
    (wsSeq (wsIf (wTest (wOp rdEq (wVar 1) (wC (.str "")))) (wsSet 5 (wIf (wTest (wOp rdLt (wVar 2) (wC (.int 0)))) (wC (.str "-")) (wC (.str "")))) wsNext)
    (wsSet 1 (wOp rdAdd (wOp rdAdd (wVar 1) (wVar 5)) (wCall (fun ds P R => ds.length = 3 ∧ F_term_text ds P R) [] (wCons (wCB rdAbs (wCons (wVar 2) wNil)) (wCons (wVar 3) (wCons (wVar 4) wNil)))))))))
    (wsRet (wIf (wTest (wOp rdNe (wVar 1) (wC (.str "")))) (wVar 1) (wC (.str "0"))))))
def F_RdText : FT := fun ds P _ => ∃ T : Tb, ds = [rdgD T] ∧ RdOk T ∧ P (.str (textS T))
theorem pure_RdText (ds : List D) (P : D → Prop) (R : DX → Prop) (_ : ds.length = 1) (h : F_RdText ds P R) : w_Reading_text F_RdTerms F_tt (startE 6 ds) { nx := fun _ => P .non, rt := P, ex := fun x _ => R x } := by
  obtain ⟨T, rfl, ok, hP⟩ := h
  refine ⟨rfl, rfl, rfl, T, rfl, ok, ?_⟩
  refine text_loop T "" _ _ _ _ ok.ok (by have := ok.len; show 0 + _ ≤ _; omega) fun s2 s3 s4 s5 => ?_
  dsimp only
  refine v_if (!decide (T.foldl stepS "" = "")) (fun Pk hp => hp) (fun e => ?_) (fun e => ?_)
  · unfold textS at hP
    rw [if_neg (by intro z; rw [z] at e; cases e)] at hP
    exact hP
  · unfold textS at hP
    rw [if_pos (by apply Classical.byContradiction; intro z; rw [decide_eq_false z] at e; cases e)] at hP
    exact hP
def w_law_reading_text (F_law_term_text : FT) : WS :=
    (wsSeq (wsSet 1 (wC (.str "")))
    (wsSeq (wsFor (wIt (wVar 0)) (wgTup 3 (wgCons (wgName 2) (wgCons (wgName 3) (wgCons (wgName 4) wgNil))))
    (wsSeq (wsSet 5 (wIf (wTest (wOp rdLt (wVar 2) (wC (.int 0)))) (wC (.str " - ")) (wC (.str " + "))))
    (wsSeq (wsIf (wTest (wOp rdEq (wVar 1) (wC (.str "")))) (wsSet 5 (wIf (wTest (wOp rdLt (wVar 2) (wC (.int 0)))) (wC (.str "-")) (wC (.str "")))) wsNext)
    (wsSet 1 (wOp rdAdd (wOp rdAdd (wVar 1) (wVar 5)) (wCall (fun ds P R => ds.length = 3 ∧ F_law_term_text ds P R) [] (wCons (wCB rdAbs (wCons (wVar 2) wNil)) (wCons (wVar 3) (wCons (wVar 4) wNil)))))))))
    (wsRet (wIf (wTest (wOp rdNe (wVar 1) (wC (.str "")))) (wVar 1) (wC (.str "0"))))))
def F_lrt : FT := fun ds P _ => ∃ T : Tb, ds = [.lst (T.map tmD)] ∧ (∀ p ∈ T, TmOk p) ∧ T.length ≤ 1000 ∧ P (.str (textS T))
theorem pure_law_reading_text (ds : List D) (P : D → Prop) (R : DX → Prop) (_ : ds.length = 1) (h : F_lrt ds P R) : w_law_reading_text F_tt (startE 6 ds) { nx := fun _ => P .non, rt := P, ex := fun x _ => R x } := by
  obtain ⟨T, rfl, ok, hl, hP⟩ := h
  refine text_loop T "" _ _ _ _ ok (by show 0 + _ ≤ _; omega) fun s2 s3 s4 s5 => ?_
  dsimp only
  refine v_if (!decide (T.foldl stepS "" = "")) (fun Pk hp => hp) (fun e => ?_) (fun e => ?_)
  · unfold textS at hP
    rw [if_neg (by intro z; rw [z] at e; cases e)] at hP
    exact hP
  · unfold textS at hP
    rw [if_pos (by apply Classical.byContradiction; intro z; rw [decide_eq_false z] at e; cases e)] at hP
    exact hP
/-! ### operators, len, bool -/
def w_ReadingX_addX (F_ReadingX_initX : FT) (F_Reading_terms : FTN) : WS :=
    (wsSeq (wsIf (wNot (wTest (wIsiC "Reading" [] (wVar 1)))) wsNever wsNext)
    (wsSeq (wsSet 2 (wOp rdAdd (wMeth "Reading" "terms" 1 F_Reading_terms.ft [] (wVar 0) wNil) (wMeth "Reading" "terms" 1 F_Reading_terms.ft [] (wVar 1) wNil)))
    (wsRet (wMakeX F_ReadingX_initX (wVar 2)))))
def w_ReadingX_lenX  : WS :=
    (wsRet (wCB rdLenD (wCons (wFld "Reading" "amounts" (wVar 0)) wNil)))
def w_ReadingX_boolX  : WS :=
    (wsRet (wC (.bl true)))
def F_RdAdd : FT := fun ds P _ => ∃ A B : Tb, ds = [rdgD A, rdgD B] ∧ RdOk A ∧ RdOk B ∧ A.length + B.length ≤ 1000 ∧ P (rdgD (canon (A ++ B)))
theorem pure_RdAdd (ds : List D) (P : D → Prop) (R : DX → Prop) (_ : ds.length = 2) (h : F_RdAdd ds P R) : w_ReadingX_addX F_RdInit F_RdTerms (startE 3 ds) { nx := fun _ => P .non, rt := P, ex := fun x _ => R x } := by
  obtain ⟨A, B, rfl, oa, ob, hl, hP⟩ := h
  have hl' : (A.map tmD).length + (B.map tmD).length ≤ sizeLine := by rw [List.length_map, List.length_map]; exact big (by omega)
  refine ⟨rfl, rfl, rfl, A, rfl, oa, rfl, rfl, rfl, B, rfl, ob, hl', ?_⟩
  refine ⟨by rw [List.length_append]; exact hl', _, rfl, .inl ⟨A ++ B, by rw [List.map_append], fun p hp => (List.mem_append.mp hp).elim (oa.ok p) (ob.ok p), by rw [List.length_append]; exact hl, hP⟩⟩
def F_RdLen : FT := fun ds P _ => ∃ T : Tb, ds = [rdgD T] ∧ P (.int (T.length : Nat))
theorem pure_RdLen (ds : List D) (P : D → Prop) (R : DX → Prop) (_ : ds.length = 1) (h : F_RdLen ds P R) : w_ReadingX_lenX (startE 1 ds) { nx := fun _ => P .non, rt := P, ex := fun x _ => R x } := by
  obtain ⟨T, rfl, hP⟩ := h
  refine ⟨rfl, _, rfl, ?_⟩
  show P (.int ((tabD T).length : Nat))
  unfold tabD
  rw [List.length_map]
  exact hP
def F_RdBool : FT := fun ds P _ => P (.bl true)
theorem pure_RdBool (ds : List D) (P : D → Prop) (R : DX → Prop) (_ : ds.length = 1) (h : F_RdBool ds P R) : w_ReadingX_boolX (startE 1 ds) { nx := fun _ => P .non, rt := P, ex := fun x _ => R x } := h
end Pu
set_option maxRecDepth 100000
set_option maxHeartbeats 2000000
/-! What the laws about readings have in common -/
namespace Pu
open PySem L2 PySem.Spec PyProof.Rows
structure Tm (p : TK × Int) : Prop where
  ok : TmOk p
  s : Sz 100 p.2
theorem tot_sz {rows : Tb} {m : Nat} (k : TK) (h : ∀ p ∈ rows, p.2.natAbs ≤ m) : (tot rows k).natAbs ≤ rows.length * m := by
  induction rows with
  | nil => show (0 : Int).natAbs ≤ _; simp
  | cons r rows ih =>
    have i := ih fun p hp => h p (List.mem_cons_of_mem _ hp)
    have j := h r List.mem_cons_self
    rw [tot_cons, List.length_cons, Nat.add_mul, Nat.one_mul]
    split <;> omega
theorem canon_ok {rows : Tb} (h : ∀ p ∈ rows, Tm p) (hl : rows.length ≤ 1000) : RdOk (canon rows) := by
  refine ⟨fun p hp => ?_, nodup_canon rows, Nat.le_trans (canon_len rows) hl⟩
  have hk : p.1 ∈ keys (canon rows) := List.mem_map_of_mem hp
  have e : p.2 = tot rows p.1 := by rw [← tot_canon, tot_mem (nodup_canon rows) hp]
  have h0 := mem_canon.mp hk
  have hm : p.1 ∈ keys rows := Classical.byContradiction fun z => h0 (tot_zero z)
  obtain ⟨r, hr, er⟩ := List.mem_map.mp hm
  refine ⟨?_, ?_⟩
  · obtain ⟨a, b, e1, e2⟩ := (h r hr).ok.key
    exact ⟨a, b, er.symm.trans e1, e2⟩
  · rw [e]
    have q := tot_sz (rows := rows) (m := 2 ^ 100) p.1 fun p hp => Nat.le_of_lt (h p hp).s
    unfold Sz
    refine Nat.lt_of_le_of_lt q (Nat.lt_of_le_of_lt (Nat.mul_le_mul_right _ hl) (by decide))
theorem canon_fix {T : Tb} : canon (canon T) = canon T := canon_canon T
theorem rowsAt_mem {T : Tb} : ∀ {ks : List TK}, rowsAt T ks = (ks.filter fun k => !decide (val T k = 0)).map fun k => (k, val T k) := rfl
/-! ### _law_terms -/
def w_law_terms  : WS :=
    (wsSeq (wsOwnT 1)
    (wsSeq (wsFor (wIt (wVar 0)) (wgTup 3 (wgCons (wgName 2) (wgCons (wgName 3) (wgCons (wgName 4) wgNil))))
    (wsPutT 1 (wTup (wCons (wVar 3) (wCons (wVar 4) wNil))) (wOp rdAdd (wGetO 1 (wTup (wCons (wVar 3) (wCons (wVar 4) wNil))) (wC (.int 0))) (wVar 2))))
    (wsRet (wLc [5] (wIt (wCB rdSorted (wCons (wListO 1) wNil))) (wgName 5) (wTest (wOp rdNe (wIxO 1 (wVar 5)) (wC (.int 0)))) (wTup (wCons (wIxO 1 (wVar 5)) (wCons (wOp rdIx (wVar 5) (wC (.int 0))) (wCons (wOp rdIx (wVar 5) (wC (.int 1))) wNil))))))))
def F_lterms : FT := fun ds P _ => ∃ rows : Tb, ds = [.lst (rows.map tmD)] ∧ (∀ p ∈ rows, TmOk p) ∧ rows.length ≤ 1000 ∧ P (.lst ((canon rows).map tmD))
def putB2 : WS := (wsPutT 1 (wTup (wCons (wVar 3) (wCons (wVar 4) wNil))) (wOp rdAdd (wGetO 1 (wTup (wCons (wVar 3) (wCons (wVar 4) wNil))) (wC (.int 0))) (wVar 2)))
theorem put_loop2 {K : EnD} {a : Sl} : ∀ (rows T : Tb) (s2 s3 s4 : Sl), (∀ p ∈ rows, TmOk p) → T.length + rows.length ≤ 2000 →
    (∀ s2 s3 s4, K.nx [a, .ol (.dt (tabD (rows.foldl put T))), s2, s3, s4, .no]) →
    wsForL textG putB2 K (rows.map tmD) [a, .ol (.dt (tabD T)), s2, s3, s4, .no]
  | [], T, s2, s3, s4, _, _, h => h s2 s3 s4
  | p :: rows, T, s2, s3, s4, ho, hl, h => by
    have hp := ho p List.mem_cons_self
    obtain ⟨k, n, e, _, _⟩ := hp.key
    obtain ⟨q, m⟩ := p
    have e' : q = [k, n] := e
    subst e'
    have z2 : (2 : Nat) ≤ sizeLine := by decide
    rw [List.length_cons] at hl
    refine forL_cons (g_3 ?_)
    refine ⟨⟨_, rfl⟩, z2, _, rfl, ?_⟩
    have q1 : (getT (tabD T) [Sum.inr k, Sum.inr n]).getD (.int 0) = .int (val T [k, n]) := by
      show (getT (tabD T) (tK [k, n])).getD (.int 0) = _
      rw [getT_tab]
      unfold val
      cases getT T [k, n] <;> rfl
    rw [q1]
    refine ⟨⟨_, rfl⟩, z2, tK [k, n], rfl, ?_, ?_⟩
    · unfold tabD
      rw [List.length_map]
      omega
    · show wsForL _ _ _ _ [a, .ol (.dt (setT (tabD T) (tK [k, n]) (.int (val T [k, n] + m)))), _, _, _, .no]
      rw [setT_tab]
      exact put_loop2 rows (put T ([k, n], m)) _ _ _ (fun p hp => ho p (List.mem_cons_of_mem _ hp)) (by
        have : (put T ([k, n], m)).length ≤ T.length + 1 := setT_len _ _ _
        omega) h
def termE : WE := (wTup (wCons (wIxO 1 (wVar 5)) (wCons (wOp rdIx (wVar 5) (wC (.int 0))) (wCons (wOp rdIx (wVar 5) (wC (.int 1))) wNil))))
theorem lc_loop {a c2 c3 c4 : Sl} {T : Tb} {P : List D → En → Prop} : ∀ (ks : List TK) (acc : List D) (s5 : Sl), (∀ k ∈ ks, k ∈ keys T) → (∀ k ∈ ks, ∃ a b : Str, k = [a, b]) →
    (∀ s5, P (acc ++ (rowsAt T ks).map tmD) [a, .ol (.dt (tabD T)), c2, c3, c4, s5]) →
    wLcL (wgName 5) (wTest (wOp rdNe (wIxO 1 (wVar 5)) (wC (.int 0)))) termE [5] (ks.map kD') acc [a, .ol (.dt (tabD T)), c2, c3, c4, s5] P
  | [], acc, s5, _, _, h => by
    have q := h s5
    unfold rowsAt at q
    rw [List.filter_nil, List.map_nil, List.map_nil, List.append_nil] at q
    exact q
  | k :: ks, acc, s5, hm, hk, h => by
    have g : getT (tabD T) (tK k) = some (.int (val T k)) := by
      rw [getT_tab, getT_mem (hm k List.mem_cons_self)]
      rfl
    obtain ⟨x, y, e⟩ := hk k List.mem_cons_self
    subst e
    refine ⟨⟨_, rfl⟩, tK [x, y], _, rfl, g, ?_⟩
    have e2 : rowsAt T ([x, y] :: ks) = (if val T [x, y] = 0 then [] else [([x, y], val T [x, y])]) ++ rowsAt T ks := by
      unfold rowsAt
      rw [List.filter_cons]
      by_cases z : val T [x, y] = 0
      · simp [z]
      · simp [z]
    show match !decide (val T [x, y] = 0) with | true => _ | false => _
    by_cases z : val T [x, y] = 0
    · rw [decide_eq_true z]
      refine lc_loop ks acc _ (fun k hk => hm k (List.mem_cons_of_mem _ hk)) (fun k h => hk k (List.mem_cons_of_mem _ h)) (fun s5 => ?_)
      have q := h s5
      rw [e2, if_pos z, List.nil_append] at q
      exact q
    · rw [decide_eq_false z]
      refine ⟨⟨_, rfl⟩, tK [x, y], _, rfl, g, .str x, at_0, .str y, at_1, (by show (3 : Nat) ≤ sizeLine; decide), ?_⟩
      refine lc_loop ks (acc ++ [tmD ([x, y], val T [x, y])]) _ (fun k hk => hm k (List.mem_cons_of_mem _ hk)) (fun k h => hk k (List.mem_cons_of_mem _ h)) (fun s5 => ?_)
      have q := h s5
      rw [e2, if_neg z, List.map_append, ← List.append_assoc] at q
      exact q
theorem pure_law_terms (ds : List D) (P : D → Prop) (R : DX → Prop) (_ : ds.length = 1) (h : F_lterms ds P R) : w_law_terms (startE 6 ds) { nx := fun _ => P .non, rt := P, ex := fun x _ => R x } := by
  obtain ⟨rows, rfl, ho, hl, hP⟩ := h
  refine put_loop2 rows [] _ _ _ ho (by show 0 + _ ≤ _; omega) (fun s2 s3 s4 => ?_)
  have nd := nodup_tab rows
  have hk : ∀ k ∈ keys (tab rows), ∃ a b : Str, k = [a, b] := fun k hk => by
    obtain ⟨p, hp, rfl⟩ := List.mem_map.mp ((mem_tab rows k).mp hk)
    obtain ⟨a, b, e, _⟩ := (ho p hp).key
    exact ⟨a, b, e⟩
  have ll : (keys (tab rows)).length ≤ 1000 := by
    unfold keys
    rw [List.length_map]
    exact Nat.le_trans (tab_len rows) hl
  dsimp only [wsRet, wLc, wIt, wCB, wCons, wNil, wListO, List.getElem?_cons_succ, List.getElem?_cons_zero]
  have e := keysD_tab (tab rows)
  unfold tab at e
  rw [e]
  show rdSorted [.lst ((keys (tab rows)).map kD')] _
  refine rdSorted_txt (fun k hk' z => ?_) (big (by omega)) ⟨?_, ?_⟩
  · obtain ⟨a, b, e⟩ := hk k hk'
    rw [e] at z
    cases z
  · rw [List.length_map, (sortK_perm _).length_eq]
    omega
  · refine lc_loop (T := tab rows) (sortK (keys (tab rows))) [] _ (fun k hk => (sortK_perm _).mem_iff.mp hk) (fun k h => hk k ((sortK_perm _).mem_iff.mp h)) fun s5 => ?_
    rw [List.nil_append, rowsAt_tab]
    exact hP
/-! ### _law_reading -/
def w_law_reading (F_ReadingX_addX : FT) (F_ReadingX_initX : FT) : WS :=
    (wsSeq (wsIf (wTest (wOp rdEq (wCB rdLen (wCons (wVar 0) wNil)) (wC (.int 1)))) (wsRet (wMakeS F_ReadingX_initX (wCons (wOp rdIx (wVar 0) (wC (.int 0))) wNil))) wsNext)
    (wsSeq (wsIf (wTest (wOp rdEq (wCB rdLen (wCons (wVar 0) wNil)) (wC (.int 2)))) (wsRet (wMakeS F_ReadingX_initX (wCons (wOp rdIx (wVar 0) (wC (.int 0))) (wCons (wOp rdIx (wVar 0) (wC (.int 1))) wNil)))) wsNext)
    (wsSeq (wsIf (wTest (wOp rdEq (wCB rdLen (wCons (wVar 0) wNil)) (wC (.int 3)))) (wsRet (wMakeS F_ReadingX_initX (wCons (wOp rdIx (wVar 0) (wC (.int 0))) (wCons (wOp rdIx (wVar 0) (wC (.int 1))) (wCons (wOp rdIx (wVar 0) (wC (.int 2))) wNil))))) wsNext)
    (wsSeq (wsSet 1 (wMakeS F_ReadingX_initX wNil))
    (wsSeq (wsFor (wIt (wVar 0)) (wgName 2)
    (wsSet 1 (wBinO "Reading" rdAdd (insOnly F_ReadingX_addX) (fun _ _ _ => False) (wVar 1) (wMakeS F_ReadingX_initX (wCons (wVar 2) wNil)))))
    (wsRet (wVar 1)))))))
def F_lreading : FT := fun ds P _ => ∃ rows : Tb, ds = [.lst (rows.map tmD)] ∧ (∀ p ∈ rows, Tm p) ∧ rows.length ≤ 500 ∧ P (rdgD (canon rows))
theorem rdInit_ok {rows : Tb} {l : List D} {P : D → Prop} {R : DX → Prop} (e : l = rows.map tmD) (ho : ∀ p ∈ rows, Tm p) (hl : rows.length ≤ 500) (hP : P (rdgD (canon rows))) : F_RdInit [.tup l] P R :=
  ⟨l, rfl, .inl ⟨rows, e, fun p hp => (ho p hp).ok, by omega, hP⟩⟩
theorem read_loop {K : EnD} {a : Sl} : ∀ (rows pre : Tb) (s2 : Sl), (∀ p ∈ pre ++ rows, Tm p) → (pre ++ rows).length ≤ 500 → (∀ s2, K.nx [a, .v (rdgD (canon (pre ++ rows))), s2]) →
    wsForL (wgName 2) (wsSet 1 (wBinO "Reading" rdAdd (insOnly F_RdAdd) (fun _ _ _ => False) (wVar 1) (wMakeS F_RdInit (wCons (wVar 2) wNil)))) K (rows.map tmD) [a, .v (rdgD (canon pre)), s2]
  | [], pre, s2, _, _, h => by
    have q := h s2
    rw [List.append_nil] at q
    exact q
  | p :: rows, pre, s2, ho, hl, h => by
    have z1 : (1 : Nat) ≤ sizeLine := by decide
    rw [List.length_append, List.length_cons] at hl
    have o1 : ∀ q ∈ [p], Tm q := fun q hq => ho q (List.mem_append_right _ (by rw [List.mem_singleton.mp hq]; exact List.mem_cons_self))
    have o2 : ∀ q ∈ pre, Tm q := fun q hq => ho q (List.mem_append_left _ hq)
    refine ⟨z1, rdInit_ok (rows := [p]) rfl o1 (by show 1 ≤ 500; decide) ⟨⟨rfl, rfl⟩, ⟨_, _, _, _, rfl⟩, _, _, rfl, canon_ok o2 (by omega), canon_ok o1 (by show 1 ≤ 1000; decide), ?_, ?_⟩⟩
    · have := canon_len pre
      have := canon_len [p]
      have : ([p] : Tb).length = 1 := rfl
      omega
    · rw [canon_step]
      have e : pre ++ p :: rows = (pre ++ [p]) ++ rows := by simp
      refine read_loop rows (pre ++ [p]) _ (fun q hq => ho q (by rw [e]; exact hq)) (by rw [List.length_append, List.length_append]; show _ + 1 + _ ≤ _; omega) fun s2 => ?_
      rw [← e]
      exact h s2
theorem pure_law_reading (ds : List D) (P : D → Prop) (R : DX → Prop) (_ : ds.length = 1) (h : F_lreading ds P R) : w_law_reading F_RdAdd F_RdInit (startE 3 ds) { nx := fun _ => P .non, rt := P, ex := fun x _ => R x } := by
  obtain ⟨rows, rfl, ho, hl, hP⟩ := h
  have z3 : (3 : Nat) ≤ sizeLine := by decide
  have el : (rows.map tmD).length = rows.length := List.length_map _
  have tt : ∀ {i : Int} {P : Bool → En → Prop} {R : QX}, P (decide ((rows.length : Int) = i)) [.v (.lst (rows.map tmD)), .no, .no] → wTest (wOp rdEq (wCB rdLen (wCons (wVar 0) wNil)) (wC (.int i))) [.v (.lst (rows.map tmD)), .no, .no] P R := by
    intro i P R h
    show P (decide (((rows.map tmD).length : Int) = i)) _
    rw [el]
    exact h
  refine st_ifN (decide ((rows.length : Int) = 1)) (fun Pk hp => tt hp) (fun e => ?_) (fun e1 => ?_)
  · have e := of_decide_eq_true e
    match rows, ho, hl, hP, e with
    | [r0], ho, hl, hP, _ => exact ⟨_, at_0, big (by show 1 ≤ _; omega), rdInit_ok (rows := [r0]) rfl ho hl hP⟩
  refine st_ifN (decide ((rows.length : Int) = 2)) (fun Pk hp => tt hp) (fun e => ?_) (fun e2 => ?_)
  · have e := of_decide_eq_true e
    match rows, ho, hl, hP, e with
    | [r0, r1], ho, hl, hP, _ => exact ⟨_, at_0, _, at_1, big (by show 2 ≤ _; omega), rdInit_ok (rows := [r0, r1]) rfl ho hl hP⟩
  refine st_ifN (decide ((rows.length : Int) = 3)) (fun Pk hp => tt hp) (fun e => ?_) (fun e3 => ?_)
  · have e := of_decide_eq_true e
    match rows, ho, hl, hP, e with
    | [r0, r1, r2], ho, hl, hP, _ => exact ⟨_, at_0, _, at_1, _, at_2, big (by show 3 ≤ _; omega), rdInit_ok (rows := [r0, r1, r2]) rfl ho hl hP⟩
  refine st_set (fun d => d = rdgD (canon [])) (fun Pk hp => ⟨Nat.zero_le _, rdInit_ok (rows := []) rfl (fun p hp => nomatch hp) (Nat.zero_le _) (hp _ rfl)⟩) (fun d hd => ?_)
  subst hd
  exact read_loop rows [] _ ho hl fun s2 => hP
/-! ### _law_reading_so -/
def w_law_reading_so (F_ReadingX_boolX : FT) (F_ReadingX_lenX : FT) (F_Reading_terms : FTN) (F_Reading_text : FT) (F_law_reading_text : FT) (F_law_same : FT) : WS :=
    (wsSeq (wsIf (wNot (wTest (wIsiC "Reading" [] (wVar 0)))) (wsRet (wC (.bl false))) wsNext)
    (wsRet (wCall (fun ds P R => ds.length = 2 ∧ F_law_same ds P R) [] (wCons (wLst (wCons (wMeth "Reading" "terms" 1 F_Reading_terms.ft [] (wVar 0) wNil) (wCons (wProp "Reading" F_Reading_text (wVar 0)) (wCons (wCB (rdLenO "Reading" F_ReadingX_lenX) (wCons (wVar 0) wNil)) (wCons (wCB (rdBoolO "Reading" F_ReadingX_boolX) (wCons (wVar 0) wNil)) wNil))))) (wCons (wLst (wCons (wVar 1) (wCons (wCall (fun ds P R => ds.length = 1 ∧ F_law_reading_text ds P R) [] (wCons (wVar 1) wNil)) (wCons (wCB rdLen (wCons (wVar 1) wNil)) (wCons (wC (.bl true)) wNil))))) wNil)))))
def F_rso : FT := fun ds P _ => ∃ T : Tb, ds = [rdgD T, .lst (T.map tmD)] ∧ RdOk T ∧ P (.bl true)
theorem dep_tm {p : TK × Int} (h : TmOk p) (n : Nat) : dep (n + 1) (tmD p) = true := by
  obtain ⟨k, m, e, _, _⟩ := h.key
  obtain ⟨q, i⟩ := p
  have e' : q = [k, m] := e
  subst e'
  simp [tmD, dep]
theorem dep_tms {T : Tb} (h : RdOk T) (n : Nat) : dep (n + 2) (.lst (T.map tmD)) = true := by
  have := h.len
  have q : (T.map tmD).all (dep (n + 1)) = true := List.all_eq_true.mpr fun d hd => by
    obtain ⟨p, hp, rfl⟩ := List.mem_map.mp hd
    exact dep_tm (h.ok p hp) n
  have e : (T.map tmD).length ≤ 100000 := by rw [List.length_map]; omega
  show (decide (_ ≤ 100000) && _) = true
  rw [q, decide_eq_true e]
  rfl
theorem pure_law_reading_so (ds : List D) (P : D → Prop) (R : DX → Prop) (_ : ds.length = 2) (h : F_rso ds P R) : w_law_reading_so F_RdBool F_RdLen F_RdTerms F_RdText F_lrt (F_same 4) (startE 2 ds) { nx := fun _ => P .non, rt := P, ex := fun x _ => R x } := by
  obtain ⟨T, rfl, ok, hP⟩ := h
  have z4 : (4 : Nat) ≤ sizeLine := by decide
  have hl := ok.len
  refine st_ifN false (fun Pk hp => hp) (fun e => nomatch e) (fun _ => ?_)
  refine ⟨rfl, rfl, rfl, T, rfl, ok, rfl, T, rfl, ok, rfl, T, rfl, ⟨by omega, by omega, rfl, ⟨_, rfl⟩, z4, rfl, T, rfl, ok.ok, ok.len, z4, rfl, .lst [.lst (T.map tmD), .str (textS T), .int (T.length : Nat), .bl true], ?_, ?_, hP⟩⟩
  · show [D.lst _, D.lst [.lst (T.map tmD), .str (textS T), .int (((T.map tmD).length : Nat) : Int), .bl true]] = _
    rw [List.length_map]
  · have q := dep_tms ok 1
    simp only [dep, List.all_cons, List.all_nil, Bool.and_true, Bool.and_eq_true, decide_eq_true_iff] at q ⊢
    exact ⟨(by show (4 : Nat) ≤ 100000; decide), q⟩
/-! ### _law_any_terms -/
def w_law_any_terms (F_law_draw : FT) (F_law_of : FT) : WS :=
    (wsSeq (wsOwnVL 3 4 (wCall (fun ds P R => ds.length = 2 ∧ F_law_of ds P R) [] (wCons (wVar 0) (wCons (wLst (wCons (wLst (wCons (wC (.str "a")) (wCons (wC (.str "b")) wNil))) (wCons (wLst (wCons (wC (.str "a")) (wCons (wC (.str "ab")) (wCons (wC (.str "stream")) (wCons (wC (.str "level")) (wCons (wC (.str "zzzzzzzz")) wNil)))))) wNil))) wNil))) (wnLst wNil))
    (wsSeq (wsFor (wRng1 (wCall (fun ds P R => ds.length = 2 ∧ F_law_draw ds P R) [] (wCons (wVar 0) (wCons (wOp rdAdd (wVar 1) (wC (.int 1))) wNil)))) (wgName 5)
    (wsSeq (wsSet 6 (wOp rdSub (wCall (fun ds P R => ds.length = 2 ∧ F_law_draw ds P R) [] (wCons (wVar 0) (wCons (wOp rdAdd (wOp rdMul (wC (.int 2)) (wVar 2)) (wC (.int 1))) wNil))) (wVar 2)))
    (wsApp 4 (wTup (wCons (wVar 6) (wCons (wCall (fun ds P R => ds.length = 2 ∧ F_law_of ds P R) [] (wCons (wVar 0) (wCons (wLst (wCons (wC (.str "level")) (wCons (wC (.str "stream")) wNil))) wNil))) (wCons (wCall (fun ds P R => ds.length = 2 ∧ F_law_of ds P R) [] (wCons (wVar 0) (wCons (wVar 3) wNil))) wNil)))))))
    (wsRet (wVar 4))))
def F_any_terms : FT := fun ds P _ => ∃ m v : Int, ds = [.bag, .int m, .int v] ∧ 0 ≤ m ∧ m ≤ 100 ∧ 0 ≤ v ∧ Sz 98 v ∧ ∀ rows : Tb, (∀ p ∈ rows, Tm p ∧ p.2.natAbs ≤ v.natAbs) → (rows.length : Int) ≤ m → P (.lst (rows.map tmD))
theorem any_loop {K : EnD} {m v : Int} {names : List Str} (hn : names ≠ []) (hn2 : names.length ≤ 100) (hN : ∀ s ∈ names, isName s = true) (hv : 0 ≤ v) (sv : Sz 98 v) : ∀ (l : List D) (rows : Tb) (s5 s6 : Sl), (∀ p ∈ rows, Tm p ∧ p.2.natAbs ≤ v.natAbs) → rows.length + l.length ≤ 100 →
    (∀ (rs : Tb) s5 s6, (∀ p ∈ rs, Tm p ∧ p.2.natAbs ≤ v.natAbs) → rs.length = rows.length + l.length → K.nx [.v .bag, .v (.int m), .v (.int v), .v (.lst (names.map .str)), .ol (.lst (rs.map tmD)), s5, s6]) →
    wsForL (wgName 5)
    (wsSeq (wsSet 6 (wOp rdSub (wCall (fun ds P R => ds.length = 2 ∧ F_draw ds P R) [] (wCons (wVar 0) (wCons (wOp rdAdd (wOp rdMul (wC (.int 2)) (wVar 2)) (wC (.int 1))) wNil))) (wVar 2)))
    (wsApp 4 (wTup (wCons (wVar 6) (wCons (wCall (fun ds P R => ds.length = 2 ∧ F_of ds P R) [] (wCons (wVar 0) (wCons (wLst (wCons (wC (.str "level")) (wCons (wC (.str "stream")) wNil))) wNil))) (wCons (wCall (fun ds P R => ds.length = 2 ∧ F_of ds P R) [] (wCons (wVar 0) (wCons (wVar 3) wNil))) wNil)))))) K l [.v .bag, .v (.int m), .v (.int v), .v (.lst (names.map .str)), .ol (.lst (rows.map tmD)), s5, s6]
  | [], rows, s5, s6, ho, hl, h => h rows s5 s6 ho rfl
  | x :: l, rows, s5, s6, ho, hl, h => by
    rw [List.length_cons] at hl
    have sv' : Sz 98 v := sv
    refine forL_cons ?_
    have s2 : Sz 2 2 := by unfold Sz; decide
    refine st_set (fun d => ∃ n : Int, d = .int n ∧ n.natAbs ≤ v.natAbs) (fun Pk hp => ?_) (fun d hd => ?_)
    · have sm : Sz 100 (2 * v) := Sz.mul s2 sv
      refine ⟨s2.mulOk sv (by decide) (by decide) (by decide), rfl, 2 * v + 1, rfl, by omega, (sm.add (Sz.one (by decide))).log (by decide) (by decide), fun z h0 h1 => ?_⟩
      refine ⟨trivial, hp _ ⟨_, rfl, ?_⟩⟩
      omega
    obtain ⟨n, rfl, hn0⟩ := hd
    refine ⟨(by show (2 : Nat) ≤ sizeLine; decide), rfl, _, .inl rfl, (fun e => nomatch e), (by show (2 : Nat) < 2 ^ 60; decide), fun k hk => ?_⟩
    refine ⟨rfl, _, .inl rfl, (fun e => hn (List.map_eq_nil_iff.mp e)), (by rw [List.length_map]; exact Nat.lt_of_le_of_lt hn2 (by decide)), fun w hw => ?_⟩
    obtain ⟨s, hs, rfl⟩ := List.mem_map.mp hw
    refine ⟨(by show (3 : Nat) ≤ sizeLine; decide), ?_⟩
    have hk' : ∃ k' : Str, k = .str k' ∧ (k' = "level" ∨ k' = "stream") := by
      rcases List.mem_cons.mp hk with e | e
      · exact ⟨_, e, .inl rfl⟩
      · exact ⟨_, List.mem_singleton.mp e, .inr rfl⟩
    obtain ⟨k', rfl, hk'⟩ := hk'
    have tn : Tm ([k', s], n) := ⟨⟨⟨k', s, rfl, hk', hN s hs⟩, Sz.mono (m := 98) (Nat.lt_of_le_of_lt hn0 sv) (by decide)⟩, Sz.mono (m := 98) (Nat.lt_of_le_of_lt hn0 sv) (by decide)⟩
    refine ⟨by rw [List.length_map]; omega, ?_⟩
    have e : rows.map tmD ++ [D.tup [.int n, .str k', .str s]] = (rows ++ [([k', s], n)]).map tmD := by
      rw [List.map_append]
      rfl
    rw [e]
    refine any_loop hn hn2 hN hv sv l (rows ++ [([k', s], n)]) _ _ (fun p hp => ?_) (by rw [List.length_append]; show _ + 1 + _ ≤ _; omega) fun rs s5 s6 h1 h2 => h rs s5 s6 h1 (by simp only [List.length_append, List.length_cons, List.length_nil] at h2 ⊢; omega)
    rcases List.mem_append.mp hp with q | q
    · exact ho p q
    · rw [List.mem_singleton.mp q]
      exact ⟨tn, hn0⟩
theorem pure_any_terms (ds : List D) (P : D → Prop) (R : DX → Prop) (_ : ds.length = 3) (h : F_any_terms ds P R) : w_law_any_terms F_draw F_of (startE 7 ds) { nx := fun _ => P .non, rt := P, ex := fun x _ => R x } := by
  obtain ⟨m, v, rfl, h0, h1, hv, sv, hP⟩ := h
  have z2 : (2 : Nat) ≤ sizeLine := by decide
  have go : ∀ names : List Str, names ≠ [] → names.length ≤ 100 → (∀ s ∈ names, isName s = true) → ∀ s5 s6, wsSeq (wsFor (wRng1 (wCall (fun ds P R => ds.length = 2 ∧ F_draw ds P R) [] (wCons (wVar 0) (wCons (wOp rdAdd (wVar 1) (wC (.int 1))) wNil)))) (wgName 5)
    (wsSeq (wsSet 6 (wOp rdSub (wCall (fun ds P R => ds.length = 2 ∧ F_draw ds P R) [] (wCons (wVar 0) (wCons (wOp rdAdd (wOp rdMul (wC (.int 2)) (wVar 2)) (wC (.int 1))) wNil))) (wVar 2)))
    (wsApp 4 (wTup (wCons (wVar 6) (wCons (wCall (fun ds P R => ds.length = 2 ∧ F_of ds P R) [] (wCons (wVar 0) (wCons (wLst (wCons (wC (.str "level")) (wCons (wC (.str "stream")) wNil))) wNil))) (wCons (wCall (fun ds P R => ds.length = 2 ∧ F_of ds P R) [] (wCons (wVar 0) (wCons (wVar 3) wNil))) wNil)))))))
    (wsRet (wVar 4)) [.v .bag, .v (.int m), .v (.int v), .v (.lst (names.map .str)), .ol (.lst []), s5, s6] { nx := fun _ => P .non, rt := P, ex := fun x _ => R x } := by
    intro names hn hn2 hN s5 s6
    refine ⟨rfl, m + 1, rfl, by omega, (Sz.log (n := 10) (by unfold Sz; omega) (by decide) (by decide)), fun z hz0 hz1 => ?_⟩
    refine ⟨⟨by omega, by omega⟩, ?_⟩
    have lz : (rangeD 0 z.toNat).length = z.toNat := by unfold rangeD; rw [List.length_map, List.length_range]
    refine any_loop hn hn2 hN hv sv _ [] _ _ (fun p hp => nomatch hp) (by rw [lz]; show 0 + _ ≤ _; omega) fun rs s5 s6 h1 h2 => ?_
    exact hP rs h1 (by rw [h2, lz]; show ((0 + _ : Nat) : Int) ≤ _; omega)
  refine ⟨z2, (by show (5 : Nat) ≤ sizeLine; decide), z2, rfl, _, .inl rfl, (fun e => nomatch e), (by show (2 : Nat) < 2 ^ 60; decide), fun k hk => ⟨Nat.zero_le _, ?_⟩⟩
  rcases List.mem_cons.mp hk with e | e
  · subst e
    exact go ["a", "b"] (fun e => nomatch e) (by decide) (fun s hs => by
      have : ∀ s ∈ (["a", "b"] : List Str), isName s = true := by decide +kernel
      exact this s hs) _ _
  · rw [List.mem_singleton.mp e]
    exact go ["a", "ab", "stream", "level", "zzzzzzzz"] (fun e => nomatch e) (by decide) (fun s hs => by
      have : ∀ s ∈ (["a", "ab", "stream", "level", "zzzzzzzz"] : List Str), isName s = true := by decide +kernel
      exact this s hs) _ _
end Pu
set_option maxRecDepth 100000
set_option maxHeartbeats 2000000
/-! More small steps; canonical rows of given rows -/
namespace Pu
open PySem L2 PySem.Spec PyProof.Rows
theorem nx_mk {f : En → Prop} {rt : D → Prop} {ex : QX} {bk ct : En → Prop} {E : En} (h : f E) : ({ nx := f, rt := rt, ex := ex, bk := bk, ct := ct } : EnD).nx E := h
theorem t_not {w : WT} {env : En} {P : Bool → En → Prop} {R : QX} (h : w env (fun k e => P (!k) e) R) : wNot w env P R := h
theorem t_test {w : WE} {env : En} {P : Bool → En → Prop} {R : QX} (h : w env (fun d e => match d with | .bl k => P k e | _ => False) R) : wTest w env P R := h
/-- an if whose test changes the frame -/
theorem st_ifNE {c : WT} {t b : WS} {env : En} {K : EnD} (E : En → Prop) (k : Bool) (hc : ∀ Pk : Bool → En → Prop, (∀ e, E e → Pk k e) → c env Pk K.ex) (ht : k = true → ∀ e, E e → t e { K with nx := fun e => b e K }) (he : k = false → ∀ e, E e → b e K) : wsSeq (wsIf c t wsNext) b env K := hc _ fun e h => (by
  cases k
  · exact he rfl e h
  · exact ht rfl e h)
/-- all([.. for ..]), each true -/
theorem all_lc {g : WG} {we : WE} {own : List Nat} {env : En} {wi : WA} {P : D → En → Prop} {R : QX} (l : List D) (hl : l.length ≤ 100000) (hwi : ∀ Pk : List D → En → Prop, Pk l env → wi env Pk R)
    (h : ∀ x ∈ l, ∀ Pk : D → En → Prop, (∀ e3, wipeE e3 own = wipeE env own → Pk (.bl true) e3) → g x (wipeE env own) fun e1 => we e1 Pk fun _ _ => False) (hP : P (.bl true) (backE env env own)) : wCB rdAll (wCons (wLc own wi g wYes we) wNil) env P R := by
  refine wLc_in (P := fun d e => rdAll [d] fun z => P z e) (fun ds => ds = l) (fun _ d => d = .bl true) (fun Pk h => hwi _ (h l rfl)) (fun ds e => by rw [e]; exact hl) (fun ds e x hx Pk hk => ?_) (fun ds out e ho => ?_)
  · subst e
    exact h x hx Pk fun e3 h3 => hk _ _ rfl h3
  · rw [ho.trues]
    exact ⟨_, bools_true _, by rw [all_true]; exact hP⟩
theorem st_own {i : Nat} {w : WA} {b : WS} {env : En} {K : EnD} (A : List D → Prop) (hw : ∀ Pk : List D → En → Prop, (∀ l, A l → Pk l env) → w env Pk K.ex) (hb : ∀ l, A l → b (env.set i (.ol (.lst l))) K) : wsSeq (wsOwn i w) b env K := hw _ fun l hl => hb l hl
theorem st_app {i : Nat} {w : WE} {b : WS} {env : En} {K : EnD} {l : List D} (A : D → Prop) (he : env[i]? = some (.ol (.lst l))) (hl : l.length < 100000) (hw : ∀ Pk : D → En → Prop, (∀ d, A d → Pk d env) → w env Pk K.ex) (hb : ∀ d, A d → b (env.set i (.ol (.lst (l ++ [d])))) K) : wsSeq (wsApp i w) b env K := by
  show wsApp i w env _
  unfold wsApp
  rw [he]
  refine hw _ fun d hd => ?_
  rw [he]
  exact ⟨hl, hb d hd⟩
/-- _law_of a written list -/
theorem of_lst {l : List D} {P : D → Prop} {R : DX → Prop} (h0 : l ≠ []) (h : l.length < 1000) (hP : ∀ d ∈ l, P d) : F_of [.bag, .lst l] P R := ⟨l, .inl rfl, h0, Nat.lt_trans h (by decide), hP⟩
theorem of_tup {l : List D} {P : D → Prop} {R : DX → Prop} (h0 : l ≠ []) (h : l.length < 1000) (hP : ∀ d ∈ l, P d) : F_of [.bag, .tup l] P R := ⟨l, .inr rfl, h0, Nat.lt_trans h (by decide), hP⟩
theorem mem_c {α : Type} {p : α → Prop} {z : α} {l : List α} (h : p z) (g : ∀ w ∈ l, p w) : ∀ w ∈ z :: l, p w := fun w hw => (List.mem_cons.mp hw).elim (fun e => by rw [e]; exact h) (g w)
theorem mem_n {α : Type} {p : α → Prop} : ∀ w ∈ ([] : List α), p w := fun w hw => nomatch hw
theorem tot_perm {a b : Tb} (p : a.Perm b) (k : TK) : tot a k = tot b k := by
  induction p with
  | nil => rfl
  | cons x _ ih => rw [tot_cons, tot_cons, ih]
  | swap x y l => rw [tot_cons, tot_cons, tot_cons, tot_cons]; omega
  | trans _ _ h1 h2 => exact h1.trans h2
theorem canon_sorted {T : Tb} (h1 : (keys T).Pairwise (fun a b => leK a b = true)) (nd : (keys T).Nodup) (nz : ∀ p ∈ T, p.2 ≠ 0) : canon T = T := by
  have e0 : ∀ k ∈ keys T, tot T k ≠ 0 := fun k hk => by
    obtain ⟨p, hp, rfl⟩ := List.mem_map.mp hk
    rw [tot_mem nd hp]
    exact nz p hp
  have e1 : sortK (keys (tab T)) = keys T := by
    refine sort_one' (sortK_pw _) h1 ((sortK_perm _).trans ?_)
    exact (List.perm_ext_iff_of_nodup (nodup_tab T) nd).mpr fun k => mem_tab T k
  unfold canon
  rw [e1]
  have e2 : (keys T).filter (fun k => !decide (tot T k = 0)) = keys T := List.filter_eq_self.mpr fun k hk => by
    rw [decide_eq_false (e0 k hk)]
    rfl
  rw [e2]
  unfold keys
  rw [List.map_map]
  refine (List.map_congr_left fun p hp => ?_).trans (List.map_id' T)
  show (p.1, tot T p.1) = p
  rw [tot_mem nd hp]
theorem canon_of {a T : Tb} (p : a.Perm T) (h1 : (keys T).Pairwise (fun a b => leK a b = true)) (nd : (keys T).Nodup) (nz : ∀ p ∈ T, p.2 ≠ 0) : canon a = T := by
  rw [canon_congr (b := T) (tot_perm p)]
  exact canon_sorted h1 nd nz
end Pu
set_option maxRecDepth 100000
set_option maxHeartbeats 2000000
/-! == of dicts keyed by tuples, with ints as values -/
namespace Pu
open PySem L2 PySem.Spec PyProof.Rows PySem.W
open PySem.SeqAt (EqIn EqAt)
abbrev XT := List (List Key × Addr × Value)
def findX (xs : XT) (k : List Key) : Option Value := (xs.find? fun x => decide (x.1 = k)).map (·.2.2)
def intOf : Value → Option Int
  | .int i _ => some i
  | _ => none
def IsIntX (xs : XT) : Prop := ∀ x ∈ xs, ∃ i t, x.2.2 = .int i t
/-- the other dict has this entry's number at its key -/
def hitB (xb : XT) (x : List Key × Addr × Value) : Bool := match findX xb x.1 with
  | some y => decide (intOf x.2.2 = intOf y)
  | none => false
theorem findX_none {xb : XT} {k : List Key} (h : ∀ (j : Nat) (p : Addr × Value), xb[j]? ≠ some (k, p)) : findX xb k = none := by
  unfold findX
  rw [Option.map_eq_none_iff, List.find?_eq_none]
  intro x hx z
  obtain ⟨j, hj, e⟩ := List.mem_iff_getElem.mp hx
  refine h j x.2 ?_
  rw [List.getElem?_eq_getElem hj, e]
  have := of_decide_eq_true z
  rw [← this]
theorem findX_some {xb : XT} (hn : (xb.map (·.1)).Nodup) {k : List Key} {j : Nat} {p : Addr × Value} (h : xb[j]? = some (k, p)) : findX xb k = some p.2 := by
  induction xb generalizing j with
  | nil => simp at h
  | cons x xb ih =>
    rw [List.map_cons, List.nodup_cons] at hn
    unfold findX at *
    rw [List.find?_cons]
    cases j with
    | zero =>
      simp at h
      subst h
      simp
    | succ j =>
      simp at h
      have hm : k ∈ xb.map (·.1) := List.mem_map.mpr ⟨(k, p), List.mem_of_getElem? h, rfl⟩
      have ne : ¬ x.1 = k := fun z => hn.1 (z ▸ hm)
      simp only [decide_eq_false ne]
      exact ih hn.2 h
/-- the indices that a counted walk still has before it -/
theorem range_step {n i x : Nat} {l : List Nat} (h : x :: l = List.range' i (n - i)) : x = i ∧ i < n ∧ l = List.range' (i + 1) (n - (i + 1)) := by
  cases e : n - i with
  | zero => rw [e] at h; cases h
  | succ m =>
    rw [e, List.range'_succ] at h
    cases h
    exact ⟨rfl, by omega, by congr 1; omega⟩
theorem range_end {n i : Nat} (h : [] = List.range' i (n - i)) : n ≤ i := by
  cases e : n - i with
  | zero => omega
  | succ m => rw [e, List.range'_succ] at h; cases h
section
variable {prog : Program} {w : World} {A : Around} {E : Value → Shared → Prop} {s : Shared}
abbrev kT (prog : Program) (w : World) := tupleKind (prog := prog) (w := w) (mixKind prog w)
/-- one turn of the walk: is this entry in the other dict? -/
theorem turn_same {b : Addr} {xb : XT} {x : List Key × Addr × Value} {ob : Obj} {fs : Array DictEntry} {fp : Nat} {bad : Sem Bool} {Q : Bool → Shared → Prop} (hu : A.units < cLine) (hb : s.heap.get? b = some ob) (hd : ob.data = .dict fs fp) (hf : fs.toList = xb.map (entryOfKey (kT prog w)))
    (hk : ∀ y ∈ xb, (kT prog w).is s.heap y.1 y.2.1) (hn : (xb.map (·.1)).Nodup) (ib : IsIntX xb) (hx : (kT prog w).is s.heap x.1 x.2.1) (ix : ∃ i t, x.2.2 = .int i t) (h : Q (hitB xb x) s) :
    wpAny (model prog w) A (do
      let some j ← dictFind b (.ref x.2.1) ((kT prog w).hash x.1) | pure false
      let some f := (← dictEntries b)[j]? | bad
      holding [f.val] (eqBool x.2.2 f.val)) Q E s := by
  refine wpAny_bind (wpAny_dictFind_heap hu hx hb hd hf hk hn (fun no => ?_) fun j p at_ => ?_)
  · have e : hitB xb x = false := by unfold hitB; rw [findX_none no]
    rw [e] at h
    exact wpAny_pure h
  · obtain ⟨i1, t1, e1⟩ := ix
    obtain ⟨i2, t2, e2⟩ := ib (x.1, p) (List.mem_of_getElem? at_)
    have e2 : p.2 = .int i2 t2 := e2
    have e : hitB xb x = (i1 == i2) := by
      unfold hitB
      rw [findX_some hn at_, e1, e2, Bool.eq_iff_iff]
      simp [intOf]
    refine wpAny_bind (wpAny_dictEntries hb hd ?_)
    have ef : fs[j]? = some (entryOfKey (kT prog w) (x.1, p)) := by rw [entry_at hf j, at_]; rfl
    rw [ef]
    have q : EqIn prog w A s x.2.2 p.2 (hitB xb x) := by
      rw [e, e1, e2]
      exact (EqAt.int_int (A := A) (s := s) i1 t1 i2 t2).inModel prog w
    exact wpAny_holding (q _ _ h)
theorem same_pairsH {nm : String} {a b : Addr} {xa xb : XT} {Q : Bool → Shared → Prop} (ha : (a == sysModules) = false) (hb : (b == sysModules) = false) (hu : A.units < cLine) (da : s.heap.DictOfH (kT prog w) a xa) (db : s.heap.DictOfH (kT prog w) b xb) (ia : IsIntX xa) (ib : IsIntX xb)
    (h : Q (xa.length == xb.length && xa.all (hitB xb)) s) : wpAny (model prog w) A (Builtin.Dict.samePairs nm a b) Q E s := by
  obtain ⟨oa, es, ep, a1, _, a2, a3, a4, _⟩ := da
  obtain ⟨ob, fs, fp, b1, _, b2, b3, b4, b5⟩ := db
  have la := size_of_entries a3
  have lb := size_of_entries b3
  unfold Builtin.Dict.samePairs Builtin.Dict.showsAll
  rw [if_neg (by rw [ha]; decide), if_neg (by rw [hb]; decide)]
  refine wpAny_bind (wpAny_pure (wpAny_bind (wpAny_pure (wpAny_bind (wpAny_dictEntries a1 a2 ?_)))))
  dsimp only
  refine wpAny_bind (wpAny_dictEntries b1 b2 ?_)
  rw [la, lb]
  by_cases hl : xa.length = xb.length
  · rw [if_neg (by simp [hl])]
    have h : Q (xa.all (hitB xb)) s := by simpa [hl] using h
    refine wpAny_bind (wpAny_dictEpoch a1 a2 (wpAny_bind ?_))
    rw [Std.Legacy.Range.forIn_eq_forIn_range']
    simp only [Std.Legacy.Range.size, Nat.sub_zero, Nat.add_sub_cancel, Nat.div_one]
    refine wpAny_forIn_list _ (fun l r s' => s' = s ∧ r = (none, ()) ∧ ∃ i, l = List.range' i (xa.length - i) ∧ i ≤ xa.length ∧ (xa.drop i).all (hitB xb) = xa.all (hitB xb)) _ ?_ ?_ _ _ ⟨rfl, rfl, 0, by simp, Nat.zero_le _, by simp⟩
    · rintro n l r s' ⟨rfl, rfl, i, hr, _, hall⟩
      obtain ⟨rfl, lt, hl'⟩ := range_step hr
      have dr : xa.drop n = xa[n] :: xa.drop (n + 1) := List.drop_eq_getElem_cons lt
      have en : es[n]? = some (entryOfKey (kT prog w) xa[n]) := by rw [entry_at a3 n, List.getElem?_eq_getElem lt]; rfl
      have mem : xa[n] ∈ xa := List.getElem_mem lt
      rw [dr, List.all_cons] at hall
      refine wpAny_bind (wpAny_dictEntries a1 a2 ?_)
      rw [en]
      refine wpAny_bind (wpAny_holding (turn_same hu b1 b2 b3 b4 b5 ib (a4 _ mem) (ia _ mem) ?_))
      cases hh : hitB xb xa[n] with
      | false =>
        rw [hh, Bool.false_and] at hall
        rw [← hall] at h
        exact wpAny_pure (wpAny_pure h)
      | true =>
        rw [hh, Bool.true_and] at hall
        refine wpAny_bind (wpAny_dictEpoch a1 a2 ?_)
        rw [if_neg (by simp)]
        exact wpAny_pure ⟨rfl, rfl, n + 1, hl', lt, hall⟩
    · rintro r s' ⟨rfl, rfl, i, hr, _, hall⟩
      have le := range_end hr
      rw [List.drop_eq_nil_of_le le] at hall
      refine wpAny_pure ?_
      rw [← hall] at h
      exact h
  · rw [if_pos (by simpa using hl)]
    have e : (xa.length == xb.length) = false := by simpa using hl
    rw [e, Bool.false_and] at h
    exact wpAny_bind (wpAny_rule (wpAny_pure h))
/-- == of two such dicts -/
theorem keq_eqH {a b : Addr} {xa xb : XT} {Q : Value → Shared → Prop} (ha : (a == sysModules) = false) (hb : (b == sysModules) = false) (da : s.heap.DictOfH (kT prog w) a xa) (db : s.heap.DictOfH (kT prog w) b xb) (hu : A.units + 1 < cLine) (ia : IsIntX xa) (ib : IsIntX xb)
    (h : Q (.bool (xa.length == xb.length && xa.all (hitB xb))) s) : wpAny (model prog w) A (compareOp .Eq (.ref a) (.ref b)) Q E s := by
  have ta := da.typeIs
  have tb := db.typeIs
  refine wpAny_richCompare_same_room (op := .Eq) ta tb PySem.F.slot_dict_eq (wpAny_call_entry PySem.F.slot_dict_eq ta PySem.F.entry_dict_eq (wpAny_bind ?_) (PySem.F.args_dict_eq_2 _ _)) (Nat.lt_of_le_of_lt (Nat.le_succ _) hu)
  unfold Builtin.Dict.dictSlotArgs
  refine wpAny_bind (wpAny_notOrdered_dict ta (wpAny_pure (wpAny_bind (wpAny_isInstance (T := "dict") tb PySem.F.sub_dict_dict ?_))))
  rw [if_neg (by decide)]
  refine wpAny_bind (wpAny_pure (wpAny_bind (wpAny_pure (wpAny_bind (same_pairsH ha hb (by show A.units + 1 < cLine; exact hu) da db ia ib ?_)))))
  exact wpAny_pure ⟨_, rfl, (fun z => nomatch z), by simpa using h⟩
end
/-! ### over data -/
abbrev IT := List (List Key × Int)
def itD (A : IT) : List (List Key × D) := A.map fun p => (p.1, .int p.2)
def eqIT (A B : IT) : Bool := A.length == B.length && A.all fun p => decide (getT B p.1 = some p.2)
theorem kt_find {H : Hp} {k : List Key} : ∀ {B : IT} {xb : XT}, KT H (B.map fun p => (p.1, V.int p.2)) xb → (∀ n, getT B k = some n → ∃ t, findX xb k = some (.int n t)) ∧ (getT B k = none → findX xb k = none)
  | [], [], .nil => ⟨(fun n h => nomatch h), fun _ => rfl⟩
  | p :: B, x :: xb, .cons h t => by
    obtain ⟨e1, _, t0, e2⟩ := h
    have e1 : p.1 = x.1 := e1
    have ih := kt_find (k := k) t
    unfold getT findX at *
    rw [List.find?_cons, List.find?_cons]
    by_cases e : p.1 = k
    · have e' : x.1 = k := e1 ▸ e
      simp only [decide_eq_true e, decide_eq_true e']
      refine ⟨fun n hn => ⟨t0, ?_⟩, fun hn => by cases hn⟩
      cases hn
      exact congrArg some e2
    · have e' : ¬ x.1 = k := e1 ▸ e
      simp only [decide_eq_false e, decide_eq_false e']
      exact ih
theorem kt_hits {H : Hp} {B : IT} {xb : XT} (hb : KT H (B.map fun p => (p.1, V.int p.2)) xb) : ∀ {A : IT} {xa : XT}, KT H (A.map fun p => (p.1, V.int p.2)) xa → IsIntX xa ∧ xa.all (hitB xb) = A.all fun p => decide (getT B p.1 = some p.2)
  | [], [], .nil => ⟨(fun x h => nomatch h), rfl⟩
  | p :: A, x :: xa, .cons h t => by
    obtain ⟨e1, _, t0, e2⟩ := h
    have e1 : p.1 = x.1 := e1
    have e2 : x.2.2 = .int p.2 t0 := e2
    obtain ⟨ih1, ih2⟩ := kt_hits hb t
    obtain ⟨f1, f2⟩ := kt_find (k := p.1) hb
    refine ⟨fun y hy => (List.mem_cons.mp hy).elim (fun e => by rw [e]; exact ⟨_, _, e2⟩) (ih1 y), ?_⟩
    rw [List.all_cons, List.all_cons, ih2]
    congr 1
    unfold hitB
    rw [← e1]
    cases g : getT B p.1 with
    | none =>
      rw [f2 g]
      simp
    | some n =>
      obtain ⟨t1, f⟩ := f1 n g
      rw [f, e2, Bool.eq_iff_iff]
      simp [intOf]
      exact eq_comm
theorem op_eqT {X : Cx} (hu : X.A.units + 64 < cLine) : OpR X (compareOp .Eq) (fun x y H Q => ∃ (a b : Addr) (A B : IT), x = .ref a ∧ y = .ref b ∧ Rd H a (.dT (A.map fun p => (p.1, V.int p.2))) ∧ Rd H b (.dT (B.map fun p => (p.1, V.int p.2))) ∧ Q (.bl (eqIT A B)) H) := by
  intro pins s σ H x y v u Q I rx ry h
  obtain ⟨a, b, A, B, rfl, rfl, h1, h2, q⟩ := h
  obtain rfl : v = .ref a := rx
  obtain rfl : u = .ref b := ry
  obtain ⟨_, y1, xa, r1, d1⟩ := dt_rd I.hok h1
  obtain ⟨_, y2, xb, r2, d2⟩ := dt_rd I.hok h2
  have l1 : A.length = xa.length := by have := Paired.length r1; rwa [List.length_map] at this
  have l2 : B.length = xb.length := by have := Paired.length r2; rwa [List.length_map] at this
  refine keq_eqH y1 y2 d1 d2 (by omega) (kt_hits r2 r1).1 (kt_hits r2 r2).1 ?_
  rw [(kt_hits r2 r1).2]
  refine ⟨.bl (eqIT A B), H, I, ?_, q⟩
  show Value.bool _ = Value.bool _
  unfold eqIT
  rw [l1, l2]
def rdEqT : RD2 := fun x y P => match x, y with
  | .dt a, .dt b => ∃ A B : IT, a = itD A ∧ b = itD B ∧ P (.bl (eqIT A B))
  | _, _ => False
theorem repT_ints {w : Wd} {G : Hp} : ∀ {A : IT} {kvs : List (List Key × V)}, RepT w G kvs (itD A) → kvs = A.map fun p => (p.1, V.int p.2)
  | [], _, .nil => rfl
  | p :: A, _, .cons (vs := vs) r t => by
    cases r
    rw [repT_ints (A := A) t]
    rfl
theorem pr_eqT {X : Cx} (hu : X.A.units + 64 < cLine) : PR2 X (compareOp .Eq) rdEqT := by
  refine ⟨_, op_eqT hu, ?_⟩
  intro w G H x y vx vy P Q hK hm hp rx ry h hq
  unfold rdEqT at h
  split at h
  · obtain ⟨A, B, rfl, rfl, h⟩ := h
    cases rx with
    | dt g1 r1 =>
      cases ry with
      | dt g2 r2 =>
        rw [repT_ints r1] at g1
        rw [repT_ints r2] at g2
        exact ⟨_, _, A, B, rfl, rfl, .inr ⟨_, hp.exG _ _ g1⟩, .inr ⟨_, hp.exG _ _ g2⟩, hq _ _ G H h (Post.refl hp) .bl⟩
  · exact h.elim
end Pu
set_option maxRecDepth 100000
set_option maxHeartbeats 2000000
/-! Readings' operators, over data -/
namespace Pu
open PySem L2 PySem.Spec PyProof.Rows
/-! ### rows mapped -/
def negT (T : Tb) : Tb := T.map fun p => (p.1, -p.2)
def mulT (n : Int) (T : Tb) : Tb := T.map fun p => (p.1, p.2 * n)
theorem tot_neg (T : Tb) (k : TK) : tot (negT T) k = - tot T k := by
  induction T with
  | nil => rfl
  | cons p T ih =>
    show tot ((p.1, -p.2) :: negT T) k = _
    rw [tot_cons, tot_cons, ih]
    show (if p.1 = k then -p.2 else 0) + _ = _
    split <;> omega
theorem tot_mul (n : Int) (T : Tb) (k : TK) : tot (mulT n T) k = tot T k * n := by
  induction T with
  | nil => show (0 : Int) = 0 * n; omega
  | cons p T ih =>
    show tot ((p.1, p.2 * n) :: mulT n T) k = _
    rw [tot_cons, tot_cons, ih, Int.add_mul]
    show (if p.1 = k then p.2 * n else 0) + _ = _
    split <;> simp
theorem keys_map {T : Tb} {f : TK × Int → TK × Int} (h : ∀ p, (f p).1 = p.1) : keys (T.map f) = keys T := by
  unfold keys
  rw [List.map_map]
  exact List.map_congr_left fun p _ => h p
theorem canon_neg (T : Tb) : canon (negT (canon T)) = canon (negT T) := canon_congr fun k => by rw [tot_neg, tot_neg, tot_canon]
theorem canon_mul (n : Int) (T : Tb) : canon (mulT n (canon T)) = canon (mulT n T) := canon_congr fun k => by rw [tot_mul, tot_mul, tot_canon]
theorem keys_pw (T : Tb) : (keys (canon T)).Pairwise (fun a b => leK a b = true) := by
  rw [keys_canon]
  exact (sortK_pw _).sublist List.filter_sublist
theorem canon_nz {T : Tb} {p : TK × Int} (h : p ∈ canon T) : p.2 ≠ 0 := by
  have hk : p.1 ∈ keys (canon T) := List.mem_map_of_mem h
  rw [← tot_mem (nodup_canon T) h, tot_canon]
  exact mem_canon.mp hk
theorem neg_canon (T : Tb) : canon (negT (canon T)) = negT (canon T) := by
  have e : keys (negT (canon T)) = keys (canon T) := keys_map fun p => rfl
  refine canon_sorted (by rw [e]; exact keys_pw T) (by rw [e]; exact nodup_canon T) fun p hp => ?_
  obtain ⟨q, hq, rfl⟩ := List.mem_map.mp hp
  have := canon_nz hq
  show -q.2 ≠ 0
  omega
theorem tm_neg {p : TK × Int} (h : TmOk p) : TmOk (p.1, -p.2) := ⟨h.key, h.sz.neg⟩
theorem tmD_inj {p q : TK × Int} (h : tmD p = tmD q) : p = q := by
  obtain ⟨a, n⟩ := p
  obtain ⟨b, m⟩ := q
  unfold tmD at h
  injection h with h
  injection h with h1 h2
  injection h1 with h1
  have inj : ∀ {x y : List Str}, x.map D.str = y.map D.str → x = y := by
    intro x
    induction x with
    | nil => intro y h; cases y with | nil => rfl | cons _ _ => cases h
    | cons s x ih =>
      intro y h
      cases y with
      | nil => cases h
      | cons t y =>
        rw [List.map_cons, List.map_cons] at h
        injection h with h1 h2
        injection h1 with h1
        rw [h1, ih h2]
  have h1' : n = m := h1
  have h2' : a = b := inj h2
  rw [h2', h1']
/-- [g of each row for number, kind, name in rows] -/
theorem lc_rows {i j k : Nat} {we : WE} {own : List Nat} {env : En} {wi : WA} {P : D → En → Prop} {R : QX} (T : Tb) (g : TK × Int → TK × Int) (ok : ∀ p ∈ T, TmOk p) (hl : T.length ≤ 1000)
    (hwi : ∀ Pk : List D → En → Prop, Pk (T.map tmD) env → wi env Pk R)
    (h : ∀ (n : Int) (a b : Str), ([a, b], n) ∈ T → ∀ Pk : D → En → Prop, (∀ e3, wipeE e3 own = wipeE env own → Pk (tmD (g ([a, b], n))) e3) → we ((((wipeE env own).set i (.v (.int n))).set j (.v (.str a))).set k (.v (.str b))) Pk fun _ _ => False)
    (hP : P (.lst ((T.map g).map tmD)) (backE env env own)) : wLc own wi (wgTup 3 (wgCons (wgName i) (wgCons (wgName j) (wgCons (wgName k) wgNil)))) wYes we env P R := by
  refine wLc_in (fun ds => ds = T.map tmD) (fun x d => ∃ p ∈ T, x = tmD p ∧ d = tmD (g p)) (fun Pk h => hwi _ (h _ rfl)) (fun ds e => by rw [e, List.length_map]; omega) (fun ds e x hx Pk hk => ?_) (fun ds out e ho => ?_)
  · subst e
    obtain ⟨p, hp, rfl⟩ := List.mem_map.mp hx
    obtain ⟨a, b, e, _, _⟩ := (ok p hp).key
    obtain ⟨q, n⟩ := p
    have e' : q = [a, b] := e
    subst e'
    exact ⟨rfl, h n a b hp Pk fun e3 h3 => hk _ _ ⟨_, hp, rfl, rfl⟩ h3⟩
  · subst e
    have q : ∀ {S : Tb} {o : List D}, Rels (fun x d => ∃ p ∈ T, x = tmD p ∧ d = tmD (g p)) (S.map tmD) o → o = (S.map g).map tmD := by
      intro S
      induction S with
      | nil => intro o h; cases h; rfl
      | cons p S ih =>
        intro o h
        cases h with
        | cons h t =>
          obtain ⟨r, _, e1, e2⟩ := h
          rw [tmD_inj e1, List.map_cons, List.map_cons, e2, ih t]
    rw [q ho]
    exact hP
/-! ### the operators -/
def w_ReadingX_negX (F_ReadingX_initX : FT) (F_Reading_terms : FTN) : WS :=
    (wsSeq (wsSet 1 (wLc [2, 3, 4] (wIt (wMeth "Reading" "terms" 1 F_Reading_terms.ft [] (wVar 0) wNil)) (wgTup 3 (wgCons (wgName 2) (wgCons (wgName 3) (wgCons (wgName 4) wgNil)))) wYes (wTup (wCons (wNeg (wVar 2)) (wCons (wVar 3) (wCons (wVar 4) wNil))))))
    (wsRet (wMakeX F_ReadingX_initX (wVar 1))))
def w_ReadingX_subX (F_ReadingX_addX : FT) (F_ReadingX_negX : FT) : WS :=
    (wsSeq (wsIf (wNot (wTest (wIsiC "Reading" [] (wVar 1)))) wsNever wsNext)
    (wsRet (wBinO "Reading" rdAdd (insOnly F_ReadingX_addX) (fun _ _ _ => False) (wVar 0) (wNegO "Reading" F_ReadingX_negX (wVar 1)))))
def w_ReadingX_mulX (F_ReadingX_initX : FT) (F_Reading_terms : FTN) (F_is_integer_value : FT) : WS :=
    (wsSeq (wsIf (wNot (wTest (wCall (fun ds P R => ds.length = 1 ∧ F_is_integer_value ds P R) [] (wCons (wVar 1) wNil)))) wsNever wsNext)
    (wsSeq (wsSet 2 (wLc [3, 4, 5] (wIt (wMeth "Reading" "terms" 1 F_Reading_terms.ft [] (wVar 0) wNil)) (wgTup 3 (wgCons (wgName 3) (wgCons (wgName 4) (wgCons (wgName 5) wgNil)))) wYes (wTup (wCons (wOp rdMul (wVar 3) (wVar 1)) (wCons (wVar 4) (wCons (wVar 5) wNil))))))
    (wsRet (wMakeX F_ReadingX_initX (wVar 2)))))
def w_ReadingX_rmulX (F_ReadingX_mulX : FT) : WS :=
    (wsRet (wBinO "Reading" rdMul F_ReadingX_mulX (fun _ _ _ => False) (wVar 0) (wVar 1)))
def w_ReadingX_eqX  : WS :=
    (wsRet (wAndV (wIsiC "Reading" [] (wVar 1)) (wOp rdEqT (wFld "Reading" "amounts" (wVar 0)) (wFld "Reading" "amounts" (wVar 1)))))
def F_RdNeg : FT := fun ds P _ => ∃ A : Tb, ds = [rdgD A] ∧ RdOk A ∧ P (rdgD (canon (negT A)))
theorem pure_RdNeg (ds : List D) (P : D → Prop) (R : DX → Prop) (_ : ds.length = 1) (h : F_RdNeg ds P R) : w_ReadingX_negX F_RdInit F_RdTerms (startE 5 ds) { nx := fun _ => P .non, rt := P, ex := fun x _ => R x } := by
  obtain ⟨A, rfl, oa, hP⟩ := h
  have hl := oa.len
  refine st_set (fun d => d = .lst ((negT A).map tmD)) (fun Pk hp => ?_) (fun d hd => ?_)
  · refine lc_rows A (fun p => (p.1, -p.2)) oa.ok hl (fun Pk h => ⟨rfl, rfl, rfl, A, rfl, oa, h⟩) (fun n a b hm Pk hk => ⟨(by show (3 : Nat) ≤ sizeLine; decide), hk _ rfl⟩) (hp _ rfl)
  subst hd
  refine ⟨by rw [List.length_map]; unfold negT; rw [List.length_map]; exact big (by omega), _, rfl, .inl ⟨negT A, rfl, fun p hp => ?_, by unfold negT; rw [List.length_map]; exact hl, hP⟩⟩
  obtain ⟨q, hq, rfl⟩ := List.mem_map.mp hp
  exact tm_neg (oa.ok q hq)
theorem rdOk_canon_neg {A : Tb} (oa : RdOk A) : RdOk (canon (negT A)) := by
  refine ⟨fun p hp => ?_, nodup_canon _, Nat.le_trans (canon_len _) (by unfold negT; rw [List.length_map]; exact oa.len)⟩
  have hk : p.1 ∈ keys (canon (negT A)) := List.mem_map_of_mem hp
  have hv : p.2 = - tot A p.1 := by rw [← tot_neg, ← tot_canon (negT A), tot_mem (nodup_canon _) hp]
  have h0 := mem_canon.mp hk
  rw [tot_neg] at h0
  have hm : p.1 ∈ keys A := Classical.byContradiction fun z => h0 (by rw [tot_zero z]; rfl)
  obtain ⟨q, hq, e⟩ := List.mem_map.mp hm
  have hq2 : tot A p.1 = q.2 := by rw [← e]; exact tot_mem oa.nd hq
  rw [hq2] at hv
  exact ⟨by rw [← e]; exact (oa.ok q hq).key, by rw [hv]; exact (oa.ok q hq).sz.neg⟩
def F_RdSub : FT := fun ds P _ => ∃ A B : Tb, ds = [rdgD A, rdgD B] ∧ RdOk A ∧ RdOk B ∧ A.length + B.length ≤ 1000 ∧ P (rdgD (canon (A ++ negT B)))
theorem canon_app {A B C : Tb} (h : ∀ k, tot B k = tot C k) : canon (A ++ B) = canon (A ++ C) := canon_congr fun k => by rw [tot_append, tot_append, h]
theorem pure_RdSub (ds : List D) (P : D → Prop) (R : DX → Prop) (_ : ds.length = 2) (h : F_RdSub ds P R) : w_ReadingX_subX F_RdAdd F_RdNeg (startE 2 ds) { nx := fun _ => P .non, rt := P, ex := fun x _ => R x } := by
  obtain ⟨A, B, rfl, oa, ob, hl, hP⟩ := h
  refine ⟨rfl, B, rfl, ob, ⟨rfl, rfl⟩, ⟨_, _, _, _, rfl⟩, A, canon (negT B), rfl, oa, rdOk_canon_neg ob, ?_, ?_⟩
  · have := canon_len (negT B)
    have : (negT B).length = B.length := List.length_map _
    omega
  · rw [canon_app (C := negT B) (tot_canon (negT B))]
    exact hP
def F_RdMul : FT := fun ds P _ => ∃ (A : Tb) (n : Int), ds = [rdgD A, .int n] ∧ RdOk A ∧ (∀ p ∈ mulT n A, TmOk p) ∧ (∀ p ∈ A, IntMulOk p.2 n) ∧ P (rdgD (canon (mulT n A)))
theorem pure_RdMul (ds : List D) (P : D → Prop) (R : DX → Prop) (_ : ds.length = 2) (h : F_RdMul ds P R) : w_ReadingX_mulX F_RdInit F_RdTerms F_ivX (startE 6 ds) { nx := fun _ => P .non, rt := P, ex := fun x _ => R x } := by
  obtain ⟨A, n, rfl, oa, om, oi, hP⟩ := h
  have hl := oa.len
  refine st_ifN false (fun Pk hp => ⟨rfl, _, rfl, rfl, hp⟩) (fun e => nomatch e) (fun _ => ?_)
  refine st_set (fun d => d = .lst ((mulT n A).map tmD)) (fun Pk hp => ?_) (fun d hd => ?_)
  · refine lc_rows A (fun p => (p.1, p.2 * n)) oa.ok hl (fun Pk h => ⟨rfl, rfl, rfl, A, rfl, oa, h⟩) (fun m a b hm Pk hk => ⟨oi _ hm, (by show (3 : Nat) ≤ sizeLine; decide), hk _ rfl⟩) (hp _ rfl)
  subst hd
  exact ⟨by rw [List.length_map]; unfold mulT; rw [List.length_map]; exact big (by omega), _, rfl, .inl ⟨mulT n A, rfl, om, by unfold mulT; rw [List.length_map]; exact hl, hP⟩⟩
theorem pure_RdRmul (ds : List D) (P : D → Prop) (R : DX → Prop) (_ : ds.length = 2) (h : F_RdMul ds P R) : w_ReadingX_rmulX F_RdMul (startE 2 ds) { nx := fun _ => P .non, rt := P, ex := fun x _ => R x } := by
  obtain ⟨A, n, rfl, h⟩ := h
  exact ⟨rfl, A, n, rfl, h⟩
/-! ### == -/
theorem perm_of_sub {α : Type} [DecidableEq α] : ∀ {A B : List α}, A.Nodup → (∀ x ∈ A, x ∈ B) → B.length ≤ A.length → A.Perm B
  | [], [], _, _, _ => .nil
  | [], _ :: _, _, _, h => by cases h
  | a :: A, B, hn, hs, hl => by
    rw [List.nodup_cons] at hn
    have ha := hs a List.mem_cons_self
    have p := List.perm_cons_erase ha
    have le : (B.erase a).length = B.length - 1 := List.length_erase_of_mem ha
    have l0 : 0 < B.length := List.length_pos_of_mem ha
    rw [List.length_cons] at hl
    refine (List.Perm.cons a (perm_of_sub hn.2 (fun x hx => ?_) (by omega))).trans p.symm
    exact (List.mem_erase_of_ne fun e => hn.1 (by rw [← e]; exact hx)).mpr (hs x (List.mem_cons_of_mem _ hx))
def intT (T : Tb) : IT := T.map fun p => (tK p.1, p.2)
theorem itD_tab (T : Tb) : tabD T = itD (intT T) := by
  unfold tabD itD intT
  rw [List.map_map]
  rfl
theorem getT_int (T : Tb) (k : TK) : getT (intT T) (tK k) = getT T k := by
  induction T with
  | nil => rfl
  | cons p T ih =>
    unfold getT intT at *
    rw [List.map_cons, List.find?_cons, List.find?_cons]
    by_cases h : p.1 = k
    · subst h
      simp
    · have h' : tK p.1 ≠ tK k := fun z => h (tK_inj z)
      simp only [decide_eq_false h, decide_eq_false h']
      exact ih
/-- tables in order are equal as dicts just if they are the same rows -/
theorem eqIT_canon {A B : Tb} (ha : canon A = A) (hb : canon B = B) : eqIT (intT A) (intT B) = decide (A = B) := by
  have na : (keys A).Nodup := by rw [← ha]; exact nodup_canon A
  have nb : (keys B).Nodup := by rw [← hb]; exact nodup_canon B
  rw [Bool.eq_iff_iff, decide_eq_true_iff]
  unfold eqIT
  rw [Bool.and_eq_true, beq_iff_eq, List.all_eq_true]
  constructor
  · rintro ⟨hl, h⟩
    unfold intT at hl
    rw [List.length_map, List.length_map] at hl
    have sub : ∀ p ∈ A, p ∈ B := fun p hp => by
      have q := of_decide_eq_true (h (tK p.1, p.2) (List.mem_map.mpr ⟨p, hp, rfl⟩))
      rw [getT_int] at q
      unfold getT at q
      obtain ⟨r, hr, e⟩ := Option.map_eq_some_iff.mp q
      have hk := List.find?_some hr
      have hm := List.mem_of_find?_eq_some hr
      have e1 : r.1 = p.1 := of_decide_eq_true hk
      obtain ⟨r1, r2⟩ := r
      obtain ⟨p1, p2⟩ := p
      simp only at e1 e
      rw [← e1, ← e]
      exact hm
    have nA : A.Nodup := by
      unfold keys at na
      exact (List.pairwise_map.mp na).imp fun h e => h (by rw [e])
    have pm := perm_of_sub nA sub (by omega)
    rw [← ha, ← hb]
    exact canon_congr (tot_perm pm)
  · rintro rfl
    refine ⟨rfl, fun p hp => ?_⟩
    obtain ⟨q, hq, rfl⟩ := List.mem_map.mp hp
    rw [getT_int, getT_row na hq]
    exact decide_eq_true rfl
def F_RdEq : FT := fun ds P _ => (∃ A B : Tb, ds = [rdgD A, rdgD B] ∧ P (.bl (eqIT (intT A) (intT B)))) ∨ ∃ (A : Tb) (d : D), ds = [rdgD A, d] ∧ isCD "Reading" [] d = some false ∧ P (.bl false)
theorem pure_RdEq (ds : List D) (P : D → Prop) (R : DX → Prop) (_ : ds.length = 2) (h : F_RdEq ds P R) : w_ReadingX_eqX (startE 2 ds) { nx := fun _ => P .non, rt := P, ex := fun x _ => R x } := by
  rcases h with ⟨A, B, rfl, hP⟩ | ⟨A, d, rfl, hd, hP⟩
  · exact ⟨rfl, _, rfl, rfl, _, rfl, intT A, intT B, itD_tab A, itD_tab B, hP⟩
  · refine v_and false (fun Pk h => ?_) (fun e => nomatch e) (fun _ => hP)
    show match isCD "Reading" [] d with | some b => Pk (.bl b) _ | none => False
    rw [hd]
    exact h
/-- lists of rows as data -/
def pyRow (p : TK × Int) : PyData := .tuple (.int p.2 :: p.1.map .str)
theorem toPs_rows : ∀ T : Tb, toPs (T.map tmD) = some (T.map pyRow)
  | [] => rfl
  | p :: T => by
    rw [List.map_cons]
    unfold toPs
    rw [toPs_rows T]
    show (match (toPs (.int p.2 :: p.1.map .str)).map PyData.tuple, some (T.map pyRow) with | some d, some l => some (d :: l) | _, _ => none) = _
    unfold toPs
    rw [toPs_txt]
    rfl
theorem eqvAll_txt : ∀ a b : TK, PyData.eqvAll (a.map .str) (b.map .str) = decide (a = b)
  | [], [] => rfl
  | [], _ :: _ => rfl
  | _ :: _, [] => rfl
  | x :: a, y :: b => by
    rw [List.map_cons, List.map_cons]
    simp only [PyData.eqvAll, PyData.eqv]
    rw [eqvAll_txt a b, Bool.eq_iff_iff]
    simp
theorem eqv_row (p q : TK × Int) : PyData.eqv (pyRow p) (pyRow q) = decide (p = q) := by
  unfold pyRow
  simp only [PyData.eqvAll, PyData.eqv]
  rw [eqvAll_txt, Bool.eq_iff_iff]
  obtain ⟨a, n⟩ := p
  obtain ⟨b, m⟩ := q
  simp
  exact and_comm
theorem eqvAll_rows : ∀ A B : Tb, PyData.eqvAll (A.map pyRow) (B.map pyRow) = decide (A = B)
  | [], [] => rfl
  | [], _ :: _ => rfl
  | _ :: _, [] => rfl
  | p :: A, q :: B => by
    rw [List.map_cons, List.map_cons]
    simp only [PyData.eqvAll]
    rw [eqv_row, eqvAll_rows A B, Bool.eq_iff_iff]
    simp
theorem name_strOk {s : Str} (h : isName s = true) : PyData.strOk s = true := by
  refine small_ok fun c hc => ?_
  unfold isName at h
  rw [Bool.and_eq_true] at h
  exact of_decide_eq_true (List.all_eq_true.mp h.2 c hc)
theorem kind_strOk {s : Str} (h : s = "level" ∨ s = "stream") : PyData.strOk s = true := by rcases h with rfl | rfl <;> decide +kernel
theorem rows_shaped {T : Tb} (ho : ∀ p ∈ T, TmOk p) : SeqAt.shaped (.list (T.map pyRow)) = true := by
  have h1 : PyData.canLayAll0 (T.map pyRow) = true ∧ PyData.depthAll (T.map pyRow) ≤ 1 := by
    induction T with
    | nil => exact ⟨rfl, by simp [PyData.depthAll]⟩
    | cons p T ih =>
      obtain ⟨i1, i2⟩ := ih fun p hp => ho p (List.mem_cons_of_mem _ hp)
      obtain ⟨a, b, e, hk, hn⟩ := (ho p List.mem_cons_self).key
      obtain ⟨q, n⟩ := p
      have e' : q = [a, b] := e
      subst e'
      rw [List.map_cons]
      refine ⟨?_, ?_⟩
      · simp [PyData.canLayAll0, pyRow, PyData.canLay0, i1, kind_strOk hk, name_strOk hn]
      · simp only [PyData.depthAll, pyRow, PyData.depth, List.map_cons, List.map_nil]
        omega
  show (PyData.canLay0 _ && decide (PyData.depth _ ≤ 64)) = true
  rw [Bool.and_eq_true]
  refine ⟨by simp only [PyData.canLay0]; exact h1.1, decide_eq_true ?_⟩
  simp only [PyData.depth]
  omega
theorem rdEq_rows {A B : Tb} {P : D → Prop} (ha : ∀ p ∈ A, TmOk p) (hb : ∀ p ∈ B, TmOk p) (hP : P (.bl (decide (A = B)))) : rdEq (.lst (A.map tmD)) (.lst (B.map tmD)) P := by
  refine ⟨.list (A.map pyRow), .list (B.map pyRow), ?_, ?_, rows_shaped ha, rows_shaped hb, ?_⟩
  · show (toPs (A.map tmD)).map PyData.list = _
    rw [toPs_rows]
    rfl
  · show (toPs (B.map tmD)).map PyData.list = _
    rw [toPs_rows]
    rfl
  · show P (.bl (PyData.eqv (.list (A.map pyRow)) (.list (B.map pyRow))))
    have e : PyData.eqv (.list (A.map pyRow)) (.list (B.map pyRow)) = PyData.eqvAll (A.map pyRow) (B.map pyRow) := by simp only [PyData.eqv]
    rw [e, eqvAll_rows]
    exact hP
theorem toP_rows (T : Tb) : toP (.lst (T.map tmD)) = some (.list (T.map pyRow)) := by
  show (toPs (T.map tmD)).map PyData.list = _
  rw [toPs_rows]
  rfl
theorem eqv_rows (A B : Tb) : PyData.eqv (.list (A.map pyRow)) (.list (B.map pyRow)) = decide (A = B) := by
  have e : PyData.eqv (.list (A.map pyRow)) (.list (B.map pyRow)) = PyData.eqvAll (A.map pyRow) (B.map pyRow) := by simp only [PyData.eqv]
  rw [e, eqvAll_rows]
end Pu
namespace Pu
open PySem L2 PySem.Spec PyProof.Rows
/-! ### the text by its places -/
def top (i : Nat) : Stmt := PySem.Challenge.pw_partswing_k37_readings_added.main.body.getD i (.Pass ⟨0, 0, 0, 0⟩)
structure Txt (P : Program) (w : World) (K : PySem.W.Frag) (mg : Str → Option Value) where
  f_law_bag : Addr
  fd_law_bag : FuncData
  fn_law_bag : Fun K "_law_bag" "_law_bag" (top 20) f_law_bag fd_law_bag
  g_law_bag : mg "_law_bag" = some (.ref f_law_bag)
  bd_law_bag : Binds K fd_law_bag ["_law_script"] []
  f_law_draw : Addr
  fd_law_draw : FuncData
  fn_law_draw : Fun K "_law_draw" "_law_draw" (top 21) f_law_draw fd_law_draw
  g_law_draw : mg "_law_draw" = some (.ref f_law_draw)
  bd_law_draw : Binds K fd_law_draw ["_law_bag_here", "_law_many"] []
  f_law_of : Addr
  fd_law_of : FuncData
  fn_law_of : Fun K "_law_of" "_law_of" (top 22) f_law_of fd_law_of
  g_law_of : mg "_law_of" = some (.ref f_law_of)
  bd_law_of : Binds K fd_law_of ["_law_bag_here", "_law_some"] []
  f_law_mixed : Addr
  fd_law_mixed : FuncData
  fn_law_mixed : Fun K "_law_mixed" "_law_mixed" (top 23) f_law_mixed fd_law_mixed
  g_law_mixed : mg "_law_mixed" = some (.ref f_law_mixed)
  bd_law_mixed : Binds K fd_law_mixed ["_law_bag_here", "_law_some"] []
  f_law_same : Addr
  fd_law_same : FuncData
  fn_law_same : Fun K "_law_same" "_law_same" (top 24) f_law_same fd_law_same
  g_law_same : mg "_law_same" = some (.ref f_law_same)
  bd_law_same : Binds K fd_law_same ["_law_found", "_law_due"] []
  f_is_integer_value : Addr
  fd_is_integer_value : FuncData
  fn_is_integer_value : Fun K "is_integer_value" "is_integer_value" (top 6) f_is_integer_value fd_is_integer_value
  g_is_integer_value : mg "is_integer_value" = some (.ref f_is_integer_value)
  bd_is_integer_value : Binds K fd_is_integer_value ["value"] []
  f_is_name : Addr
  fd_is_name : FuncData
  fn_is_name : Fun K "is_name" "is_name" (top 10) f_is_name fd_is_name
  g_is_name : mg "is_name" = some (.ref f_is_name)
  bd_is_name : Binds K fd_is_name ["value"] []
  f_is_term : Addr
  fd_is_term : FuncData
  fn_is_term : Fun K "is_term" "is_term" (top 14) f_is_term fd_is_term
  g_is_term : mg "is_term" = some (.ref f_is_term)
  bd_is_term : Binds K fd_is_term ["value"] []
  f_term_text : Addr
  fd_term_text : FuncData
  fn_term_text : Fun K "term_text" "term_text" (top 15) f_term_text fd_term_text
  g_term_text : mg "term_text" = some (.ref f_term_text)
  bd_term_text : Binds K fd_term_text ["number", "kind", "name"] []
  f_ReadingX_initX : Addr
  fn_ReadingX_initX : FunS K "__init__" "Reading.__init__" (inClass (top 18) 0) f_ReadingX_initX "terms"
  f_Reading_terms : Addr
  fd_Reading_terms : FuncData
  fn_Reading_terms : Fun K "terms" "Reading.terms" (inClass (top 18) 5) f_Reading_terms fd_Reading_terms
  bd_Reading_terms : Binds K fd_Reading_terms ["self"] []
  f_Reading_text : Addr
  fd_Reading_text : FuncData
  fn_Reading_text : Fun K "text" "Reading.text" (inClass (top 18) 4) f_Reading_text fd_Reading_text
  bd_Reading_text : Binds K fd_Reading_text ["self"] []
  f_ReadingX_addX : Addr
  fd_ReadingX_addX : FuncData
  fn_ReadingX_addX : Fun K "__add__" "Reading.__add__" (inClass (top 18) 6) f_ReadingX_addX fd_ReadingX_addX
  bd_ReadingX_addX : Binds K fd_ReadingX_addX ["self", "other"] []
  f_ReadingX_negX : Addr
  fd_ReadingX_negX : FuncData
  fn_ReadingX_negX : Fun K "__neg__" "Reading.__neg__" (inClass (top 18) 8) f_ReadingX_negX fd_ReadingX_negX
  bd_ReadingX_negX : Binds K fd_ReadingX_negX ["self"] []
  f_ReadingX_subX : Addr
  fd_ReadingX_subX : FuncData
  fn_ReadingX_subX : Fun K "__sub__" "Reading.__sub__" (inClass (top 18) 7) f_ReadingX_subX fd_ReadingX_subX
  bd_ReadingX_subX : Binds K fd_ReadingX_subX ["self", "other"] []
  f_ReadingX_mulX : Addr
  fd_ReadingX_mulX : FuncData
  fn_ReadingX_mulX : Fun K "__mul__" "Reading.__mul__" (inClass (top 18) 9) f_ReadingX_mulX fd_ReadingX_mulX
  bd_ReadingX_mulX : Binds K fd_ReadingX_mulX ["self", "other"] []
  f_ReadingX_rmulX : Addr
  fd_ReadingX_rmulX : FuncData
  fn_ReadingX_rmulX : Fun K "__rmul__" "Reading.__rmul__" (inClass (top 18) 10) f_ReadingX_rmulX fd_ReadingX_rmulX
  bd_ReadingX_rmulX : Binds K fd_ReadingX_rmulX ["self", "other"] []
  f_ReadingX_eqX : Addr
  fd_ReadingX_eqX : FuncData
  fn_ReadingX_eqX : Fun K "__eq__" "Reading.__eq__" (inClass (top 18) 11) f_ReadingX_eqX fd_ReadingX_eqX
  bd_ReadingX_eqX : Binds K fd_ReadingX_eqX ["self", "other"] []
  f_ReadingX_lenX : Addr
  fd_ReadingX_lenX : FuncData
  fn_ReadingX_lenX : Fun K "__len__" "Reading.__len__" (inClass (top 18) 12) f_ReadingX_lenX fd_ReadingX_lenX
  bd_ReadingX_lenX : Binds K fd_ReadingX_lenX ["self"] []
  f_ReadingX_boolX : Addr
  fd_ReadingX_boolX : FuncData
  fn_ReadingX_boolX : Fun K "__bool__" "Reading.__bool__" (inClass (top 18) 13) f_ReadingX_boolX fd_ReadingX_boolX
  bd_ReadingX_boolX : Binds K fd_ReadingX_boolX ["self"] []
  f_law_terms : Addr
  fd_law_terms : FuncData
  fn_law_terms : Fun K "_law_terms" "_law_terms" (top 25) f_law_terms fd_law_terms
  g_law_terms : mg "_law_terms" = some (.ref f_law_terms)
  bd_law_terms : Binds K fd_law_terms ["_law_rows"] []
  f_law_term_text : Addr
  fd_law_term_text : FuncData
  fn_law_term_text : Fun K "_law_term_text" "_law_term_text" (top 26) f_law_term_text fd_law_term_text
  g_law_term_text : mg "_law_term_text" = some (.ref f_law_term_text)
  bd_law_term_text : Binds K fd_law_term_text ["_law_number", "_law_kind", "_law_name"] []
  f_law_reading_text : Addr
  fd_law_reading_text : FuncData
  fn_law_reading_text : Fun K "_law_reading_text" "_law_reading_text" (top 27) f_law_reading_text fd_law_reading_text
  g_law_reading_text : mg "_law_reading_text" = some (.ref f_law_reading_text)
  bd_law_reading_text : Binds K fd_law_reading_text ["_law_terms_here"] []
  f_law_reading : Addr
  fd_law_reading : FuncData
  fn_law_reading : Fun K "_law_reading" "_law_reading" (top 28) f_law_reading fd_law_reading
  g_law_reading : mg "_law_reading" = some (.ref f_law_reading)
  bd_law_reading : Binds K fd_law_reading ["_law_rows"] []
  f_law_reading_so : Addr
  fd_law_reading_so : FuncData
  fn_law_reading_so : Fun K "_law_reading_so" "_law_reading_so" (top 29) f_law_reading_so fd_law_reading_so
  g_law_reading_so : mg "_law_reading_so" = some (.ref f_law_reading_so)
  bd_law_reading_so : Binds K fd_law_reading_so ["_law_found", "_law_terms_here"] []
  f_law_any_terms : Addr
  fd_law_any_terms : FuncData
  fn_law_any_terms : Fun K "_law_any_terms" "_law_any_terms" (top 30) f_law_any_terms fd_law_any_terms
  g_law_any_terms : mg "_law_any_terms" = some (.ref f_law_any_terms)
  bd_law_any_terms : Binds K fd_law_any_terms ["_law_bag_here", "_law_most", "_law_wide"] []
  f_law : Addr
  fd_law : FuncData
  fn_law : Fun K "law" "law" (top 31) f_law fd_law
  g_law : mg "law" = some (.ref f_law)
  bd_law : Binds K fd_law ["_law_script"] []
  C_Reading : Addr
  g_Reading : mg "Reading" = some (.ref C_Reading)
  ci_Reading : CI K C_Reading
  na_Reading_amounts : NoAttr K C_Reading "amounts"
  me_Reading_terms : Meth K C_Reading "terms" f_Reading_terms
  mk_Reading : Mk K C_Reading f_ReadingX_initX
  un_Reading_neg : PySem.W.findIn K (.ref C_Reading) "__neg__" = some (some (.ref f_ReadingX_negX)) ∧ PySem.W.isFn K (.ref f_ReadingX_negX) = true
  bz_Reading_add : BinF0 K C_Reading f_ReadingX_addX "add"
  bf_Reading_mul : BinF K C_Reading f_ReadingX_mulX f_ReadingX_rmulX "mul"
  un_Reading_bool : PySem.W.findIn K (.ref C_Reading) "__bool__" = some (some (.ref f_ReadingX_boolX)) ∧ PySem.W.isFn K (.ref f_ReadingX_boolX) = true
  un_Reading_len : PySem.W.findIn K (.ref C_Reading) "__len__" = some (some (.ref f_ReadingX_lenX)) ∧ PySem.W.isFn K (.ref f_ReadingX_lenX) = true
  pa_Reading_text : Addr
  pp_Reading_text : PropOf K C_Reading "text" pa_Reading_text f_Reading_text
  eq_Reading : EqF K C_Reading f_ReadingX_eqX
  bz_Reading_sub : BinF0 K C_Reading f_ReadingX_subX "sub"
  C_InvalidReading : Addr
  g_InvalidReading : mg "InvalidReading" = some (.ref C_InvalidReading)
  fX_InvalidReading : Addr
  fdX_InvalidReading : FuncData
  x_InvalidReading : PuExc.XDef K P PuExc.bVE "InvalidReading" C_InvalidReading fX_InvalidReading fdX_InvalidReading ["given"]
  xc_InvalidReading : XC K C_InvalidReading (("code" : Str) :: ["given"])
  b_int : mg "int" = none
  b_list : mg "list" = none
  b_len : mg "len" = none
  b_range : mg "range" = none
  b_isinstance : mg "isinstance" = none
  b_tuple : mg "tuple" = none
  b_zip : mg "zip" = none
  b_all : mg "all" = none
  b_bool : mg "bool" = none
  b_str : mg "str" = none
  b_sorted : mg "sorted" = none
  b_abs : mg "abs" = none
  c_SMALL : ∃ u, mg "SMALL" = some u ∧ RelV (.str "abcdefghijklmnopqrstuvwxyz") u
  c_STREAM : ∃ u, mg "STREAM" = some u ∧ RelV (.str "stream") u
  c_LEVEL : ∃ u, mg "LEVEL" = some u ∧ RelV (.str "level") u
/-! ### _law_bag -/
abbrev s_law_bag : Stmt := top 20
abbrev N_law_bag : List Str := ["_law_script", "_law_mixed_here", "_law_cell"]
abbrev ps_law_bag : List Str := ["_law_script"]
theorem sc_law_bag : FnScope N_law_bag ps_law_bag (defScope s_law_bag) := ⟨rfl, rfl, rfl, by decide +kernel, rfl, by decide +kernel, by decide +kernel⟩
theorem ok_law_bag {P : Program} {w : World} {K : PySem.W.Frag} {mg : Str → Option Value} {base : Heap} (T : Txt P w K mg) : FnOk P w K mg base (L2.CX P w) 1 T.f_law_bag T.fd_law_bag ps_law_bag (spBag K) := by
  refine T.fn_law_bag.okX sc_law_bag (fun vs H Q E h => ?_) (fun cdv A outer s H vs Q E hr h => ⟨t_bag K, ?_, pure_bag rfl h⟩)
  · obtain ⟨a, ns, rfl, _⟩ := h
    rfl
  · exact (pss_cons (ps_set (i := 1) sc_law_bag.nd rfl (by first | exact Or.inl rfl | exact Or.inr rfl) pe_int) (pss_cons (ps_for (passes_of rfl) rfl (pi_list (pe_slice sl_list (pv 0) po_none (po_some pe_int))) (pg_name (i := 2) sc_law_bag.nd rfl (by first | exact Or.inl rfl | exact Or.inr rfl)) (pss_one (ps_set (i := 1) sc_law_bag.nd rfl (by first | exact Or.inl rfl | exact Or.inr rfl) (pe_op op_mod (pe_callTy call_int1 (by rfl) T.b_int (by decide +kernel) (pa_cons (pe_op op_add (pe_op op_add (pe_op op_mul (pv 1) pe_int) (pe_op op_mod (pe_callTy call_int1 (by rfl) T.b_int (by decide +kernel) (pa_cons (pv 2) pa_nil)) pe_int)) pe_int) pa_nil)) pe_int)))) (pss_one (ps_ret (pe_lst (pa_cons (pe_callTy call_list_of (by rfl) T.b_list (by decide +kernel) (pa_cons (pe_slice sl_list (pv 0) po_none (po_some pe_int)) pa_nil)) (pa_cons pe_int (pa_cons pe_int (pa_cons (pv 1) (pa_cons pe_int pa_nil))))))))))
/-! ### _law_draw -/
abbrev s_law_draw : Stmt := top 21
abbrev N_law_draw : List Str := ["_law_bag_here", "_law_many", "_law_cell", "_law_digit", "_law_seed"]
abbrev ps_law_draw : List Str := ["_law_bag_here", "_law_many"]
theorem sc_law_draw : FnScope N_law_draw ps_law_draw (defScope s_law_draw) := ⟨rfl, rfl, rfl, by decide +kernel, rfl, by decide +kernel, by decide +kernel⟩
theorem ok_law_draw {P : Program} {w : World} {K : PySem.W.Frag} {mg : Str → Option Value} {base : Heap} (T : Txt P w K mg) : FnOk P w K mg base (L2.CX P w) 1 T.f_law_draw T.fd_law_draw ps_law_draw (spP K mg 2 F_draw) := by
  refine T.fn_law_draw.okX sc_law_draw (fun vs H Q E h => spP_len h) (fun cdv A outer s H vs Q E hr h => ⟨t_draw K, ?_, pure_draw rfl h⟩)
  exact (pss_cons (ps_asg (pe_op op_add (pe_ix ix_list (pv 0) pe_int (fun _ _ => rfl)) pe_int) (pg_sub (pv 0) pe_int set_list)) (pss_cons (ps_if (pw_and (pt_cmpR op_eq (pe_ix ix_list (pv 0) pe_int (fun _ _ => rfl)) pe_int (nomark _)) (pw_and1 (pt_cmpR op_lt (pe_ix ix_list (pv 0) pe_int (fun _ _ => rfl)) (pe_callB call_len_seq (by rfl) T.b_len (by decide +kernel) (pa_cons (pe_ix ix_list (pv 0) pe_int (fun _ _ => rfl)) pa_nil)) (nomark _)))).pt (pss_cons (ps_set (i := 2) sc_law_draw.nd rfl (by first | exact Or.inl rfl | exact Or.inr rfl) (pe_ix ix_list (pe_ix ix_list (pv 0) pe_int (fun _ _ => rfl)) (pe_ix ix_list (pv 0) pe_int (fun _ _ => rfl)) (fun _ _ => rfl))) (pss_cons (ps_asg (pe_op op_add (pe_ix ix_list (pv 0) pe_int (fun _ _ => rfl)) pe_int) (pg_sub (pv 0) pe_int set_list)) (pss_one (ps_if (pt_cmpR op_ge (pv 2) (pe_op op_pow pe_int pe_int) (nomark _)) (pss_one (ps_asg (pv 2) (pg_sub (pv 0) pe_int set_list))) (pss_one (ps_asg (pe_op op_mod (pe_callTy call_int1 (by rfl) T.b_int (by decide +kernel) (pa_cons (pe_op op_add (pe_op op_add (pe_op op_mul (pe_ix ix_list (pv 0) pe_int (fun _ _ => rfl)) pe_int) (pe_op op_mul (pe_op op_mod (pe_callTy call_int1 (by rfl) T.b_int (by decide +kernel) (pa_cons (pv 2) pa_nil)) pe_int) pe_int)) pe_int) pa_nil)) pe_int) (pg_sub (pv 0) pe_int set_list))))))) pss_nil) (pss_cons (ps_if (pt_cmpR op_gt (pe_ix ix_list (pv 0) pe_int (fun _ _ => rfl)) pe_int (nomark _)) (pss_cons (ps_set (i := 3) sc_law_draw.nd rfl (by first | exact Or.inl rfl | exact Or.inr rfl) (pe_op op_mod (pe_callTy call_int1 (by rfl) T.b_int (by decide +kernel) (pa_cons (pe_ix ix_list (pv 0) pe_int (fun _ _ => rfl)) pa_nil)) (pv 1))) (pss_cons (ps_asg (pe_op op_fdivW (pe_ix ix_list (pv 0) pe_int (fun _ _ => rfl)) (pv 1)) (pg_sub (pv 0) pe_int set_list)) (pss_one (ps_ret (pv 3))))) pss_nil) (pss_cons (ps_set (i := 4) sc_law_draw.nd rfl (by first | exact Or.inl rfl | exact Or.inr rfl) (pe_callTy call_int1 (by rfl) T.b_int (by decide +kernel) (pa_cons (pe_ix ix_list (pv 0) pe_int (fun _ _ => rfl)) pa_nil))) (pss_cons (ps_asg (pe_op op_mod (pe_callTy call_int1 (by rfl) T.b_int (by decide +kernel) (pa_cons (pe_op op_add (pe_op op_add (pe_op op_add (pe_op op_pow (pv 4) pe_int) (pe_op op_mul (pv 4) pe_int)) (pe_op op_mul (pe_ix ix_list (pv 0) pe_int (fun _ _ => rfl)) pe_int)) pe_int) pa_nil)) pe_int) (pg_sub (pv 0) pe_int set_list)) (pss_one (ps_ret (pe_op op_mod (pe_callTy call_int1 (by rfl) T.b_int (by decide +kernel) (pa_cons (pe_op op_add (pe_op op_fdiv (pe_ix ix_list (pv 0) pe_int (fun _ _ => rfl)) pe_int) (pe_op op_mul (pe_op op_mod (pe_callTy call_int1 (by rfl) T.b_int (by decide +kernel) (pa_cons (pe_ix ix_list (pv 0) pe_int (fun _ _ => rfl)) pa_nil)) pe_int) pe_int)) pa_nil)) (pv 1)))))))))
/-! ### _law_of -/
abbrev s_law_of : Stmt := top 22
abbrev N_law_of : List Str := ["_law_bag_here", "_law_some"]
abbrev ps_law_of : List Str := ["_law_bag_here", "_law_some"]
theorem sc_law_of : FnScope N_law_of ps_law_of (defScope s_law_of) := ⟨rfl, rfl, rfl, by decide +kernel, rfl, by decide +kernel, by decide +kernel⟩
section
variable {P : Program} {w : World} {K : PySem.W.Frag} {mg : Str → Option Value} {base : Heap}
theorem ok_law_of {F : FT} {k : Nat} (T : Txt P w K mg) {k_law_draw : Nat} (h_law_draw : k_law_draw ≤ k) {F_law_draw : FT} (G_law_draw : FnOk P w K mg base (L2.CX P w) k_law_draw T.f_law_draw T.fd_law_draw ps_law_draw (spP K mg 2 F_law_draw))
    (pure : ∀ (ds : List D) (Pd : D → Prop) (R : DX → Prop), ds.length = 2 → F ds Pd R → w_law_of F_law_draw (startE 2 ds) { nx := fun _ => Pd .non, rt := Pd, ex := fun x _ => R x }) :
    FnOk P w K mg base (L2.CX P w) (k + 1) T.f_law_of T.fd_law_of ps_law_of (spP K mg 2 F) := by
  refine def_ok T.fn_law_of sc_law_of fun cdv A outer s H E hr => ⟨w_law_of F_law_draw, ?_, pure⟩
  have tk := takes_of (X := cxOf (L2.CX P w) P w K mg base N_law_of "_law_of" (defScope s_law_of) T.f_law_of cdv A outer s H E) rfl rfl rfl rfl
  have po := passes_of (X := cxOf (L2.CX P w) P w K mg base N_law_of "_law_of" (defScope s_law_of) T.f_law_of cdv A outer s H E) rfl
  have hc : (cxOf (L2.CX P w) P w K mg base N_law_of "_law_of" (defScope s_law_of) T.f_law_of cdv A outer s H E).calm = true := rfl
  have hu := hr.units
  exact (pb_one (ps_ret' (px_ix (px_var 1 (pv 1)) (px_call' G_law_draw (hr.mono (by omega)) (by rfl) T.g_law_draw T.fn_law_draw.kp T.bd_law_draw tk (pa_cons' (px_var 0 (pv 0)) (pa_cons' (px_callB pc_len (by rfl) T.b_len (by decide +kernel) (pa_cons' (px_var 1 (pv 1)) pa_nil')) pa_nil')) rfl) (fun _ _ => rfl))))
end
/-! ### _law_mixed -/
abbrev s_law_mixed : Stmt := top 23
abbrev N_law_mixed : List Str := ["_law_bag_here", "_law_some", "_law_left", "_law_found", "_law_lap"]
abbrev ps_law_mixed : List Str := ["_law_bag_here", "_law_some"]
theorem sc_law_mixed : FnScope N_law_mixed ps_law_mixed (defScope s_law_mixed) := ⟨rfl, rfl, rfl, by decide +kernel, rfl, by decide +kernel, by decide +kernel⟩
section
variable {P : Program} {w : World} {K : PySem.W.Frag} {mg : Str → Option Value} {base : Heap}
theorem ok_law_mixed {F : FT} {k : Nat} (T : Txt P w K mg) {k_law_draw : Nat} (h_law_draw : k_law_draw ≤ k) {F_law_draw : FT} (G_law_draw : FnOk P w K mg base (L2.CX P w) k_law_draw T.f_law_draw T.fd_law_draw ps_law_draw (spP K mg 2 F_law_draw))
    (pure : ∀ (ds : List D) (Pd : D → Prop) (R : DX → Prop), ds.length = 2 → F ds Pd R → w_law_mixed F_law_draw (startE 5 ds) { nx := fun _ => Pd .non, rt := Pd, ex := fun x _ => R x }) :
    FnOk P w K mg base (L2.CX P w) (k + 1) T.f_law_mixed T.fd_law_mixed ps_law_mixed (spP K mg 2 F) := by
  refine def_ok T.fn_law_mixed sc_law_mixed fun cdv A outer s H E hr => ⟨w_law_mixed F_law_draw, ?_, pure⟩
  have tk := takes_of (X := cxOf (L2.CX P w) P w K mg base N_law_mixed "_law_mixed" (defScope s_law_mixed) T.f_law_mixed cdv A outer s H E) rfl rfl rfl rfl
  have po := passes_of (X := cxOf (L2.CX P w) P w K mg base N_law_mixed "_law_mixed" (defScope s_law_mixed) T.f_law_mixed cdv A outer s H E) rfl
  have hc : (cxOf (L2.CX P w) P w K mg base N_law_mixed "_law_mixed" (defScope s_law_mixed) T.f_law_mixed cdv A outer s H E).calm = true := rfl
  have hu := hr.units
  exact (pb_cons (ps_own2 (i := 2) (j := 3) hc sc_law_mixed.nd rfl rfl (by decide) rfl rfl (pn_list hc (by rfl) T.b_list (by decide +kernel) (px_var 1 (pv 1))) (pn_lst pa_nil') (by with_unfolding_all rfl))
    (pb_cons (ps_for' po hc (pi_rng1 (by rfl) T.b_range (px_callB pc_len (by rfl) T.b_len (by decide +kernel) (pa_cons' (px_var 1 (pv 1)) pa_nil'))) (pg_name' (pg_name (i := 4) sc_law_mixed.nd rfl (by first | exact Or.inl rfl | exact Or.inr rfl))) (pb_one (ps_app (i := 3) (pv 3) (px_popV 2 (pv 2) (px_call' G_law_draw (hr.mono (by omega)) (by rfl) T.g_law_draw T.fn_law_draw.kp T.bd_law_draw tk (pa_cons' (px_var 0 (pv 0)) (pa_cons' (px_lenV 2 (by rfl) T.b_len (by decide +kernel) (pv 2)) pa_nil')) rfl)))))
    (pb_one (ps_ret' (px_var 3 (pv 3))))))
end
/-! ### _law_same -/
abbrev s_law_same : Stmt := top 24
abbrev N_law_same : List Str := ["_law_found", "_law_due", "_law_one", "_law_two"]
abbrev ps_law_same : List Str := ["_law_found", "_law_due"]
theorem sc_law_same : FnScope N_law_same ps_law_same (defScope s_law_same) := ⟨rfl, rfl, rfl, by decide +kernel, rfl, by decide +kernel, by decide +kernel⟩
section
variable {P : Program} {w : World} {K : PySem.W.Frag} {mg : Str → Option Value} {base : Heap}
theorem ok_law_same {F : FT} {k : Nat} (T : Txt P w K mg) {k_law_same : Nat} (h_law_same : k_law_same ≤ k) {F_law_same : FT} (G_law_same : FnOk P w K mg base (L2.CX P w) k_law_same T.f_law_same T.fd_law_same ps_law_same (spP K mg 2 F_law_same))
    (pure : ∀ (ds : List D) (Pd : D → Prop) (R : DX → Prop), ds.length = 2 → F ds Pd R → w_law_same F_law_same (startE 4 ds) { nx := fun _ => Pd .non, rt := Pd, ex := fun x _ => R x }) :
    FnOk P w K mg base (L2.CX P w) (k + 1) T.f_law_same T.fd_law_same ps_law_same (spP K mg 2 F) := by
  refine def_ok T.fn_law_same sc_law_same fun cdv A outer s H E hr => ⟨w_law_same F_law_same, ?_, pure⟩
  have tk := takes_of (X := cxOf (L2.CX P w) P w K mg base N_law_same "_law_same" (defScope s_law_same) T.f_law_same cdv A outer s H E) rfl rfl rfl rfl
  have po := passes_of (X := cxOf (L2.CX P w) P w K mg base N_law_same "_law_same" (defScope s_law_same) T.f_law_same cdv A outer s H E) rfl
  have hc : (cxOf (L2.CX P w) P w K mg base N_law_same "_law_same" (defScope s_law_same) T.f_law_same cdv A outer s H E).calm = true := rfl
  have hu := hr.units
  exact (pb_cons (ps_if' (pw_pt (pw_or' (pt_cmp' pr_is (px_var 1 (pv 1)) px_non) (pw_or1' (pt_cmp' pr_is (px_var 0 (pv 0)) px_non)))) (pb_one (ps_ret' (px_and (px_cmp pr_is (px_var 1 (pv 1)) px_non) (px_one (px_cmp pr_is (px_var 0 (pv 0)) px_non))))) pb_nil)
    (pb_cons (ps_if' (pt_bool (px_isi2 .list .tuple (by rfl) T.b_isinstance (by rfl) T.b_list (by decide +kernel) (by rfl) T.b_tuple (by decide +kernel) (px_var 1 (pv 1)))) (pb_cons (ps_if' (pw_pt (pw_or' (pt_cmp' (pr_ne hu) (px_isi .list (by rfl) T.b_isinstance (by rfl) T.b_list (by decide +kernel) (px_var 0 (pv 0))) (px_isi .list (by rfl) T.b_isinstance (by rfl) T.b_list (by decide +kernel) (px_var 1 (pv 1)))) (pw_or1' (pt_cmp' (pr_ne hu) (px_isi .tuple (by rfl) T.b_isinstance (by rfl) T.b_tuple (by decide +kernel) (px_var 0 (pv 0))) (px_isi .tuple (by rfl) T.b_isinstance (by rfl) T.b_tuple (by decide +kernel) (px_var 1 (pv 1))))))) (pb_one (ps_ret' px_bl)) pb_nil)
    (pb_one (ps_ret' (px_and (px_cmp (pr_eq hu) (px_callB pc_len (by rfl) T.b_len (by decide +kernel) (pa_cons' (px_var 0 (pv 0)) pa_nil')) (px_callB pc_len (by rfl) T.b_len (by decide +kernel) (pa_cons' (px_var 1 (pv 1)) pa_nil'))) (px_one (px_callB (pc_all hc) (by rfl) T.b_all (by decide +kernel) (pa_cons' (px_lc (own := [("_law_one", 2), ("_law_two", 3)]) ([2] ++ [3]) hc sc_law_same.nd (pi_zip2 (by rfl) T.b_zip hc (px_var 0 (pv 0)) (px_var 1 (pv 1))) (blkOk_by (own := [("_law_one", 2), ("_law_two", 3)]) (N := N_law_same) (sc := defScope s_law_same) (by decide +kernel)) (fun _ _ _ _ _ => (pg_tup2 hc (pg_name' (pg_name (i := 2) sc_law_same.nd rfl (by first | exact Or.inl rfl | exact Or.inr rfl))) (pg_name' (pg_name (i := 3) sc_law_same.nd rfl (by first | exact Or.inl rfl | exact Or.inr rfl))))) (fun _ _ _ _ _ => pts_nil') (fun _ _ _ _ _ => (px_call' G_law_same (hr.mono (by omega)) (by rfl) T.g_law_same T.fn_law_same.kp T.bd_law_same takes0 (pa_cons' (px_var 2 (pv 2)) (pa_cons' (px_var 3 (pv 3)) pa_nil')) rfl))) pa_nil'))))))) pb_nil)
    (pb_cons (ps_if' (pw_pt (pw_or' (pt_cmp' (pr_ne hu) (px_isi .bool (by rfl) T.b_isinstance (by rfl) T.b_bool (by decide +kernel) (px_var 0 (pv 0))) (px_isi .bool (by rfl) T.b_isinstance (by rfl) T.b_bool (by decide +kernel) (px_var 1 (pv 1)))) (pw_or1' (pt_cmp' (pr_ne hu) (px_isi .int (by rfl) T.b_isinstance (by rfl) T.b_int (by decide +kernel) (px_var 0 (pv 0))) (px_isi .int (by rfl) T.b_isinstance (by rfl) T.b_int (by decide +kernel) (px_var 1 (pv 1))))))) (pb_one (ps_ret' px_bl)) pb_nil)
    (pb_one (ps_ret' (px_and (px_cmp (pr_eq hu) (px_isi .str (by rfl) T.b_isinstance (by rfl) T.b_str (by decide +kernel) (px_var 0 (pv 0))) (px_isi .str (by rfl) T.b_isinstance (by rfl) T.b_str (by decide +kernel) (px_var 1 (pv 1)))) (px_one (px_cmp (pr_eq hu) (px_var 0 (pv 0)) (px_var 1 (pv 1))))))))))
end
/-! ### is_integer_value -/
abbrev s_is_integer_value : Stmt := top 6
abbrev N_is_integer_value : List Str := ["value"]
abbrev ps_is_integer_value : List Str := ["value"]
theorem sc_is_integer_value : FnScope N_is_integer_value ps_is_integer_value (defScope s_is_integer_value) := ⟨rfl, rfl, rfl, by decide +kernel, rfl, by decide +kernel, by decide +kernel⟩
section
variable {P : Program} {w : World} {K : PySem.W.Frag} {mg : Str → Option Value} {base : Heap}
theorem ok_is_integer_value {F : FT} {k : Nat} (T : Txt P w K mg)  
    (pure : ∀ (ds : List D) (Pd : D → Prop) (R : DX → Prop), ds.length = 1 → F ds Pd R → w_is_integer_value  (startE 1 ds) { nx := fun _ => Pd .non, rt := Pd, ex := fun x _ => R x }) :
    FnOk P w K mg base (L2.CX P w) (k + 1) T.f_is_integer_value T.fd_is_integer_value ps_is_integer_value (spP K mg 1 F) := by
  refine def_ok T.fn_is_integer_value sc_is_integer_value fun cdv A outer s H E hr => ⟨w_is_integer_value , ?_, pure⟩
  have tk := takes_of (X := cxOf (L2.CX P w) P w K mg base N_is_integer_value "is_integer_value" (defScope s_is_integer_value) T.f_is_integer_value cdv A outer s H E) rfl rfl rfl rfl
  have po := passes_of (X := cxOf (L2.CX P w) P w K mg base N_is_integer_value "is_integer_value" (defScope s_is_integer_value) T.f_is_integer_value cdv A outer s H E) rfl
  have hc : (cxOf (L2.CX P w) P w K mg base N_is_integer_value "is_integer_value" (defScope s_is_integer_value) T.f_is_integer_value cdv A outer s H E).calm = true := rfl
  have hu := hr.units
  exact (pb_one (ps_ret' (px_and (px_isi .int (by rfl) T.b_isinstance (by rfl) T.b_int (by decide +kernel) (px_var 0 (pv 0))) (px_one (px_not (px_isi .bool (by rfl) T.b_isinstance (by rfl) T.b_bool (by decide +kernel) (px_var 0 (pv 0))))))))
end
/-! ### is_name -/
abbrev s_is_name : Stmt := top 10
abbrev N_is_name : List Str := ["value", "sign"]
abbrev ps_is_name : List Str := ["value"]
theorem sc_is_name : FnScope N_is_name ps_is_name (defScope s_is_name) := ⟨rfl, rfl, rfl, by decide +kernel, rfl, by decide +kernel, by decide +kernel⟩
section
variable {P : Program} {w : World} {K : PySem.W.Frag} {mg : Str → Option Value} {base : Heap}
theorem ok_is_name {F : FT} {k : Nat} (T : Txt P w K mg)  
    (pure : ∀ (ds : List D) (Pd : D → Prop) (R : DX → Prop), ds.length = 1 → F ds Pd R → w_is_name  (startE 2 ds) { nx := fun _ => Pd .non, rt := Pd, ex := fun x _ => R x }) :
    FnOk P w K mg base (L2.CX P w) (k + 1) T.f_is_name T.fd_is_name ps_is_name (spP K mg 1 F) := by
  refine def_ok T.fn_is_name sc_is_name fun cdv A outer s H E hr => ⟨w_is_name , ?_, pure⟩
  have tk := takes_of (X := cxOf (L2.CX P w) P w K mg base N_is_name "is_name" (defScope s_is_name) T.f_is_name cdv A outer s H E) rfl rfl rfl rfl
  have po := passes_of (X := cxOf (L2.CX P w) P w K mg base N_is_name "is_name" (defScope s_is_name) T.f_is_name cdv A outer s H E) rfl
  have hc : (cxOf (L2.CX P w) P w K mg base N_is_name "is_name" (defScope s_is_name) T.f_is_name cdv A outer s H E).calm = true := rfl
  have hu := hr.units
  exact (pb_cons (ps_if' (pw_pt (pw_or' (pt_not' (pt_bool (px_isi .str (by rfl) T.b_isinstance (by rfl) T.b_str (by decide +kernel) (px_var 0 (pv 0))))) (pw_or' (pt_not' (pt_chain' pr_le pr_le px_int (px_callB pc_len (by rfl) T.b_len (by decide +kernel) (pa_cons' (px_var 0 (pv 0)) pa_nil')) px_int)) (pw_or1' (pt_cmp' (pr_eq hu) (px_var 0 (pv 0)) px_str))))) (pb_one (ps_ret' px_bl)) pb_nil)
    (pb_one (ps_ret' (px_callB (pc_all hc) (by rfl) T.b_all (by decide +kernel) (pa_cons' (px_lc (own := [("sign", 1)]) [1] hc sc_is_name.nd (pi_it (px_var 0 (pv 0))) (blkOk_by (own := [("sign", 1)]) (N := N_is_name) (sc := defScope s_is_name) (by decide +kernel)) (fun _ _ _ _ _ => (pg_name' (pg_name (i := 1) sc_is_name.nd rfl (by first | exact Or.inl rfl | exact Or.inr rfl)))) (fun _ _ _ _ _ => pts_nil') (fun _ _ _ _ _ => (px_cmp pr_in (px_var 1 (pv 1)) (px_globE (by rfl) T.c_SMALL (fun _ _ => .str))))) pa_nil')))))
end
/-! ### is_term -/
abbrev s_is_term : Stmt := top 14
abbrev N_is_term : List Str := ["value"]
abbrev ps_is_term : List Str := ["value"]
theorem sc_is_term : FnScope N_is_term ps_is_term (defScope s_is_term) := ⟨rfl, rfl, rfl, by decide +kernel, rfl, by decide +kernel, by decide +kernel⟩
section
variable {P : Program} {w : World} {K : PySem.W.Frag} {mg : Str → Option Value} {base : Heap}
theorem ok_is_term {F : FT} {k : Nat} (T : Txt P w K mg) {k_is_integer_value : Nat} (h_is_integer_value : k_is_integer_value ≤ k) {k_is_name : Nat} (h_is_name : k_is_name ≤ k) {F_is_integer_value : FT} (G_is_integer_value : FnOk P w K mg base (L2.CX P w) k_is_integer_value T.f_is_integer_value T.fd_is_integer_value ps_is_integer_value (spP K mg 1 F_is_integer_value)) {F_is_name : FT} (G_is_name : FnOk P w K mg base (L2.CX P w) k_is_name T.f_is_name T.fd_is_name ps_is_name (spP K mg 1 F_is_name))
    (pure : ∀ (ds : List D) (Pd : D → Prop) (R : DX → Prop), ds.length = 1 → F ds Pd R → w_is_term F_is_integer_value F_is_name (startE 1 ds) { nx := fun _ => Pd .non, rt := Pd, ex := fun x _ => R x }) :
    FnOk P w K mg base (L2.CX P w) (k + 1) T.f_is_term T.fd_is_term ps_is_term (spP K mg 1 F) := by
  refine def_ok T.fn_is_term sc_is_term fun cdv A outer s H E hr => ⟨w_is_term F_is_integer_value F_is_name, ?_, pure⟩
  have tk := takes_of (X := cxOf (L2.CX P w) P w K mg base N_is_term "is_term" (defScope s_is_term) T.f_is_term cdv A outer s H E) rfl rfl rfl rfl
  have po := passes_of (X := cxOf (L2.CX P w) P w K mg base N_is_term "is_term" (defScope s_is_term) T.f_is_term cdv A outer s H E) rfl
  have hc : (cxOf (L2.CX P w) P w K mg base N_is_term "is_term" (defScope s_is_term) T.f_is_term cdv A outer s H E).calm = true := rfl
  have hu := hr.units
  exact (pb_cons (ps_if' (pw_pt (pw_or' (pt_not' (pt_bool (px_isi .tuple (by rfl) T.b_isinstance (by rfl) T.b_tuple (by decide +kernel) (px_var 0 (pv 0))))) (pw_or' (pt_cmp' (pr_ne hu) (px_callB pc_len (by rfl) T.b_len (by decide +kernel) (pa_cons' (px_var 0 (pv 0)) pa_nil')) px_int) (pw_or1' (pt_not' (pt_bool (px_call' G_is_integer_value (hr.mono (by omega)) (by rfl) T.g_is_integer_value T.fn_is_integer_value.kp T.bd_is_integer_value tk (pa_cons' (px_ix (px_var 0 (pv 0)) px_int (fun _ _ => rfl)) pa_nil') rfl))))))) (pb_one (ps_ret' px_bl)) pb_nil)
    (pb_one (ps_ret' (px_and (px_isi .str (by rfl) T.b_isinstance (by rfl) T.b_str (by decide +kernel) (px_ix (px_var 0 (pv 0)) px_int (fun _ _ => rfl))) (px_and (px_cmp pr_in (px_ix (px_var 0 (pv 0)) px_int (fun _ _ => rfl)) (px_lst (pa_cons' (px_globE (by rfl) T.c_LEVEL (fun _ _ => .str)) (pa_cons' (px_globE (by rfl) T.c_STREAM (fun _ _ => .str)) pa_nil')))) (px_one (px_call' G_is_name (hr.mono (by omega)) (by rfl) T.g_is_name T.fn_is_name.kp T.bd_is_name tk (pa_cons' (px_ix (px_var 0 (pv 0)) px_int (fun _ _ => rfl)) pa_nil') rfl)))))))
end
/-! ### term_text -/
abbrev s_term_text : Stmt := top 15
abbrev N_term_text : List Str := ["number", "kind", "name"]
abbrev ps_term_text : List Str := ["number", "kind", "name"]
theorem sc_term_text : FnScope N_term_text ps_term_text (defScope s_term_text) := ⟨rfl, rfl, rfl, by decide +kernel, rfl, by decide +kernel, by decide +kernel⟩
section
variable {P : Program} {w : World} {K : PySem.W.Frag} {mg : Str → Option Value} {base : Heap}
theorem ok_term_text {F : FT} {k : Nat} (T : Txt P w K mg)  
    (pure : ∀ (ds : List D) (Pd : D → Prop) (R : DX → Prop), ds.length = 3 → F ds Pd R → w_term_text  (startE 3 ds) { nx := fun _ => Pd .non, rt := Pd, ex := fun x _ => R x }) :
    FnOk P w K mg base (L2.CX P w) (k + 1) T.f_term_text T.fd_term_text ps_term_text (spP K mg 3 F) := by
  refine def_ok T.fn_term_text sc_term_text fun cdv A outer s H E hr => ⟨w_term_text , ?_, pure⟩
  have tk := takes_of (X := cxOf (L2.CX P w) P w K mg base N_term_text "term_text" (defScope s_term_text) T.f_term_text cdv A outer s H E) rfl rfl rfl rfl
  have po := passes_of (X := cxOf (L2.CX P w) P w K mg base N_term_text "term_text" (defScope s_term_text) T.f_term_text cdv A outer s H E) rfl
  have hc : (cxOf (L2.CX P w) P w K mg base N_term_text "term_text" (defScope s_term_text) T.f_term_text cdv A outer s H E).calm = true := rfl
  have hu := hr.units
  exact (pb_one (ps_ret' (px_if (pt_cmp' (pr_eq hu) (px_var 0 (pv 0)) px_int) (px_joined (.cons (px_fmt (px_var 1 (pv 1))) (.cons px_str (.cons (px_fmt (px_var 2 (pv 2))) .nil)))) (px_joined (.cons (px_fmt (px_var 0 (pv 0))) (.cons px_str (.cons (px_fmt (px_var 1 (pv 1))) (.cons px_str (.cons (px_fmt (px_var 2 (pv 2))) .nil)))))))))
end
/-! ### Reading.__init__ -/
abbrev s_ReadingX_initX : Stmt := inClass (top 18) 0
abbrev N_ReadingX_initX : List Str := ["self", "terms", "table", "term", "number", "kind", "name", "key"]
abbrev ps_ReadingX_initX : List Str := ["self", "terms"]
theorem sc_ReadingX_initX : FnScope N_ReadingX_initX ps_ReadingX_initX (defScope s_ReadingX_initX) := ⟨rfl, rfl, rfl, by decide +kernel, rfl, by decide +kernel, by decide +kernel⟩
section
variable {P : Program} {w : World} {K : PySem.W.Frag} {mg : Str → Option Value} {base : Heap}
theorem ok_ReadingX_initX {F : FT} {k : Nat} (T : Txt P w K mg) (hx1 : 1 ≤ k) {k_is_term : Nat} (h_is_term : k_is_term ≤ k) {F_is_term : FT} (G_is_term : FnOk P w K mg base (L2.CX P w) k_is_term T.f_is_term T.fd_is_term ps_is_term (spP K mg 1 F_is_term))
    (pure : ∀ (ds : List D) (Pd : D → Prop) (R : DX → Prop), ds.length = 1 → F ds Pd R → w_ReadingX_initX F_is_term (startI "Reading" 8 ds) (endsI "Reading" Pd R)) :
    FnR P w K mg base (L2.CX P w) (k + 1) T.f_ReadingX_initX (spIS K mg "Reading" F) := by
  refine initS_ok T.fn_ReadingX_initX sc_ReadingX_initX (by decide) fun cdv A outer s H E hr => ⟨w_ReadingX_initX F_is_term, ?_, pure⟩
  have tk := takes_of (X := cxOf (L2.CX P w) P w K mg base N_ReadingX_initX "Reading.__init__" (defScope s_ReadingX_initX) T.f_ReadingX_initX cdv A outer s H E) rfl rfl rfl rfl
  have po := passes_of (X := cxOf (L2.CX P w) P w K mg base N_ReadingX_initX "Reading.__init__" (defScope s_ReadingX_initX) T.f_ReadingX_initX cdv A outer s H E) rfl
  have hc : (cxOf (L2.CX P w) P w K mg base N_ReadingX_initX "Reading.__init__" (defScope s_ReadingX_initX) T.f_ReadingX_initX cdv A outer s H E).calm = true := rfl
  have hu := hr.units
  exact (pb_cons (ps_ownT (i := 2) sc_ReadingX_initX.nd rfl (by first | exact Or.inl rfl | exact Or.inr rfl))
    (pb_cons (ps_for' po hc (pi_it (px_var 1 (pv 1))) (pg_name' (pg_name (i := 3) sc_ReadingX_initX.nd rfl (by first | exact Or.inl rfl | exact Or.inr rfl))) (pb_cons (ps_if' (pt_not' (pt_bool (px_call' G_is_term (hr.mono (by omega)) (by rfl) T.g_is_term T.fn_is_term.kp T.bd_is_term tk (pa_cons' (px_var 3 (pv 3)) pa_nil') rfl))) (pb_one (ps_raiseX T.x_InvalidReading T.xc_InvalidReading hc tk (k := 0) (hr.mono (by omega)) (by decide) (by rfl) T.g_InvalidReading (pa_cons' (px_var 3 (pv 3)) pa_nil'))) pb_nil)
    (pb_cons (ps_asg' (px_var 3 (pv 3)) (pg_tupN hc (pgs_cons' (pg_name' (pg_name (i := 4) sc_ReadingX_initX.nd rfl (by first | exact Or.inl rfl | exact Or.inr rfl))) (pgs_cons' (pg_name' (pg_name (i := 5) sc_ReadingX_initX.nd rfl (by first | exact Or.inl rfl | exact Or.inr rfl))) (pgs_cons' (pg_name' (pg_name (i := 6) sc_ReadingX_initX.nd rfl (by first | exact Or.inl rfl | exact Or.inr rfl))) pgs_nil')))))
    (pb_one (ps_putT (i := 2) (hu1 hu) (pv 2) (px_tup (pa_cons' (px_var 5 (pv 5)) (pa_cons' (px_var 6 (pv 6)) pa_nil'))) (px_op pr_add (px_getO (i := 2) (hu1 hu) (pv 2) (px_tup (pa_cons' (px_var 5 (pv 5)) (pa_cons' (px_var 6 (pv 6)) pa_nil'))) px_int ⟨by rfl, by rfl, by rfl, by rfl⟩) (px_var 4 (pv 4))))))))
    (pb_one (ps_fldS (i := 0) T.g_Reading T.na_Reading_amounts (pv 0) (px_dt (own := [("key", 7)]) [7] hc sc_ReadingX_initX.nd (hu1 hu) (pi_it (px_callB (pc_sorted hu) (by rfl) T.b_sorted (by decide +kernel) (pa_cons' (px_listO (i := 2) hc (by rfl) T.b_list (by decide +kernel) (pv 2)) pa_nil'))) (blkOk_by (own := [("key", 7)]) (N := N_ReadingX_initX) (sc := defScope s_ReadingX_initX) (by decide +kernel)) (fun _ _ _ _ _ => (pg_name' (pg_name (i := 7) sc_ReadingX_initX.nd rfl (by first | exact Or.inl rfl | exact Or.inr rfl)))) (fun _ _ _ _ _ => (pts_one' (pt_cmp' (pr_ne hu) (px_ixO (i := 2) (hu1 hu) (pv 2) (px_var 7 (pv 7)) (fun _ _ => rfl)) px_int))) (fun _ _ _ _ _ => (px_var 7 (pv 7))) (fun _ _ _ _ _ => (px_ixO (i := 2) (hu1 hu) (pv 2) (px_var 7 (pv 7)) (fun _ _ => rfl))))))))
end
/-! ### Reading.terms -/
abbrev s_Reading_terms : Stmt := inClass (top 18) 5
abbrev N_Reading_terms : List Str := ["self", "key"]
abbrev ps_Reading_terms : List Str := ["self"]
theorem sc_Reading_terms : FnScope N_Reading_terms ps_Reading_terms (defScope s_Reading_terms) := ⟨rfl, rfl, rfl, by decide +kernel, rfl, by decide +kernel, by decide +kernel⟩
section
variable {P : Program} {w : World} {K : PySem.W.Frag} {mg : Str → Option Value} {base : Heap}
theorem ok_Reading_terms {F : FTN} {k : Nat} (T : Txt P w K mg)  
    (pure : ∀ (ds : List D) (Pd : List D → Prop) (R : DX → Prop), ds.length = 1 → F ds Pd R → w_Reading_terms  (startE 2 ds) (fun l _ => Pd l) (fun x _ => R x)) :
    FnOk P w K mg base (L2.CX P w) (k + 1) T.f_Reading_terms T.fd_Reading_terms ps_Reading_terms (spPN K mg 1 F) := by
  refine def_okN T.fn_Reading_terms sc_Reading_terms rfl fun cdv A outer s H E hr => ⟨w_Reading_terms , ?_, pure⟩
  have tk := takes_of (X := (cxOf (L2.CX P w) P w K mg base N_Reading_terms "Reading.terms" (defScope s_Reading_terms) T.f_Reading_terms cdv A outer s H E)) rfl rfl rfl rfl
  have hc : (cxOf (L2.CX P w) P w K mg base N_Reading_terms "Reading.terms" (defScope s_Reading_terms) T.f_Reading_terms cdv A outer s H E).calm = true := rfl
  have hu := hr.units
  exact (pn_lc (own := [("key", 1)]) [1] hc sc_Reading_terms.nd (pi_itD (px_fld T.g_Reading T.na_Reading_amounts (px_var 0 (pv 0)))) (blkOk_by (own := [("key", 1)]) (N := N_Reading_terms) (sc := defScope s_Reading_terms) (by decide +kernel)) (fun _ _ _ _ _ => (pg_name' (pg_name (i := 1) sc_Reading_terms.nd rfl (by first | exact Or.inl rfl | exact Or.inr rfl)))) (fun _ _ _ _ _ => pts_nil') (fun _ _ _ _ _ => (px_tup (pa_cons' (px_ixD (hu1 hu) (px_fld T.g_Reading T.na_Reading_amounts (px_var 0 (pv 0))) (px_var 1 (pv 1)) (fun _ _ => rfl)) (pa_cons' (px_ix (px_var 1 (pv 1)) px_int (fun _ _ => rfl)) (pa_cons' (px_ix (px_var 1 (pv 1)) px_int (fun _ _ => rfl)) pa_nil'))))))
end
/-! ### Reading.text -/
abbrev s_Reading_text : Stmt := inClass (top 18) 4
abbrev N_Reading_text : List Str := ["self", "found", "number", "kind", "name", "joint"]
abbrev ps_Reading_text : List Str := ["self"]
theorem sc_Reading_text : FnScope N_Reading_text ps_Reading_text (defScope s_Reading_text) := ⟨rfl, rfl, rfl, by decide +kernel, rfl, by decide +kernel, by decide +kernel⟩
section
variable {P : Program} {w : World} {K : PySem.W.Frag} {mg : Str → Option Value} {base : Heap}
theorem ok_Reading_text {F : FT} {k : Nat} (T : Txt P w K mg) {k_Reading_terms : Nat} (h_Reading_terms : k_Reading_terms ≤ k) {k_term_text : Nat} (h_term_text : k_term_text ≤ k) {F_Reading_terms : FTN} (G_Reading_terms : FnOk P w K mg base (L2.CX P w) k_Reading_terms T.f_Reading_terms T.fd_Reading_terms ps_Reading_terms (spPN K mg 1 F_Reading_terms)) {F_term_text : FT} (G_term_text : FnOk P w K mg base (L2.CX P w) k_term_text T.f_term_text T.fd_term_text ps_term_text (spP K mg 3 F_term_text))
    (pure : ∀ (ds : List D) (Pd : D → Prop) (R : DX → Prop), ds.length = 1 → F ds Pd R → w_Reading_text F_Reading_terms F_term_text (startE 6 ds) { nx := fun _ => Pd .non, rt := Pd, ex := fun x _ => R x }) :
    FnOk P w K mg base (L2.CX P w) (k + 1) T.f_Reading_text T.fd_Reading_text ps_Reading_text (spP K mg 1 F) := by
  refine def_ok T.fn_Reading_text sc_Reading_text fun cdv A outer s H E hr => ⟨w_Reading_text F_Reading_terms F_term_text, ?_, pure⟩
  have tk := takes_of (X := cxOf (L2.CX P w) P w K mg base N_Reading_text "Reading.text" (defScope s_Reading_text) T.f_Reading_text cdv A outer s H E) rfl rfl rfl rfl
  have po := passes_of (X := cxOf (L2.CX P w) P w K mg base N_Reading_text "Reading.text" (defScope s_Reading_text) T.f_Reading_text cdv A outer s H E) rfl
  have hc : (cxOf (L2.CX P w) P w K mg base N_Reading_text "Reading.text" (defScope s_Reading_text) T.f_Reading_text cdv A outer s H E).calm = true := rfl
  have hu := hr.units
  exact (pb_cons (ps_set' (i := 1) sc_Reading_text.nd rfl (by first | exact Or.inl rfl | exact Or.inr rfl) px_str)
    (pb_cons (ps_for' po hc (pi_it (px_meth0 (T.ci_Reading.cl) T.g_Reading T.me_Reading_terms (fnSettled G_Reading_terms) (hr.mono (by omega)) T.bd_Reading_terms .nil (fun _ _ => .nil) tk (px_var 0 (pv 0)))) (pg_tupN hc (pgs_cons' (pg_name' (pg_name (i := 2) sc_Reading_text.nd rfl (by first | exact Or.inl rfl | exact Or.inr rfl))) (pgs_cons' (pg_name' (pg_name (i := 3) sc_Reading_text.nd rfl (by first | exact Or.inl rfl | exact Or.inr rfl))) (pgs_cons' (pg_name' (pg_name (i := 4) sc_Reading_text.nd rfl (by first | exact Or.inl rfl | exact Or.inr rfl))) pgs_nil')))) (pb_cons (ps_set' (i := 5) sc_Reading_text.nd rfl (by first | exact Or.inl rfl | exact Or.inr rfl) (px_if (pt_cmp' pr_lt (px_var 2 (pv 2)) px_int) px_str px_str))
    (pb_cons (ps_if' (pt_cmp' (pr_eq hu) (px_var 1 (pv 1)) px_str) (pb_one (ps_set' (i := 5) sc_Reading_text.nd rfl (by first | exact Or.inl rfl | exact Or.inr rfl) (px_if (pt_cmp' pr_lt (px_var 2 (pv 2)) px_int) px_str px_str))) pb_nil)
    (pb_one (ps_set' (i := 1) sc_Reading_text.nd rfl (by first | exact Or.inl rfl | exact Or.inr rfl) (px_op pr_add (px_op pr_add (px_var 1 (pv 1)) (px_var 5 (pv 5))) (px_call' G_term_text (hr.mono (by omega)) (by rfl) T.g_term_text T.fn_term_text.kp T.bd_term_text tk (pa_cons' (px_callB pc_abs (by rfl) T.b_abs (by decide +kernel) (pa_cons' (px_var 2 (pv 2)) pa_nil')) (pa_cons' (px_var 3 (pv 3)) (pa_cons' (px_var 4 (pv 4)) pa_nil'))) rfl)))))))
    (pb_one (ps_ret' (px_if (pt_cmp' (pr_ne hu) (px_var 1 (pv 1)) px_str) (px_var 1 (pv 1)) px_str)))))
end
/-! ### Reading.__add__ -/
abbrev s_ReadingX_addX : Stmt := inClass (top 18) 6
abbrev N_ReadingX_addX : List Str := ["self", "other", "both"]
abbrev ps_ReadingX_addX : List Str := ["self", "other"]
theorem sc_ReadingX_addX : FnScope N_ReadingX_addX ps_ReadingX_addX (defScope s_ReadingX_addX) := ⟨rfl, rfl, rfl, by decide +kernel, rfl, by decide +kernel, by decide +kernel⟩
section
variable {P : Program} {w : World} {K : PySem.W.Frag} {mg : Str → Option Value} {base : Heap}
theorem ok_ReadingX_addX {F : FT} {k : Nat} (T : Txt P w K mg) {k_ReadingX_initX : Nat} (h_ReadingX_initX : k_ReadingX_initX + 1 ≤ k) {k_Reading_terms : Nat} (h_Reading_terms : k_Reading_terms ≤ k) {F_ReadingX_initX : FT} (G_ReadingX_initX : FnR P w K mg base (L2.CX P w) k_ReadingX_initX T.f_ReadingX_initX (spIS K mg "Reading" F_ReadingX_initX)) {F_Reading_terms : FTN} (G_Reading_terms : FnOk P w K mg base (L2.CX P w) k_Reading_terms T.f_Reading_terms T.fd_Reading_terms ps_Reading_terms (spPN K mg 1 F_Reading_terms))
    (pure : ∀ (ds : List D) (Pd : D → Prop) (R : DX → Prop), ds.length = 2 → F ds Pd R → w_ReadingX_addX F_ReadingX_initX F_Reading_terms (startE 3 ds) { nx := fun _ => Pd .non, rt := Pd, ex := fun x _ => R x }) :
    FnOk P w K mg base (L2.CX P w) (k + 1) T.f_ReadingX_addX T.fd_ReadingX_addX ps_ReadingX_addX (spP K mg 2 F) := by
  refine def_ok T.fn_ReadingX_addX sc_ReadingX_addX fun cdv A outer s H E hr => ⟨w_ReadingX_addX F_ReadingX_initX F_Reading_terms, ?_, pure⟩
  have tk := takes_of (X := cxOf (L2.CX P w) P w K mg base N_ReadingX_addX "Reading.__add__" (defScope s_ReadingX_addX) T.f_ReadingX_addX cdv A outer s H E) rfl rfl rfl rfl
  have po := passes_of (X := cxOf (L2.CX P w) P w K mg base N_ReadingX_addX "Reading.__add__" (defScope s_ReadingX_addX) T.f_ReadingX_addX cdv A outer s H E) rfl
  have hc : (cxOf (L2.CX P w) P w K mg base N_ReadingX_addX "Reading.__add__" (defScope s_ReadingX_addX) T.f_ReadingX_addX cdv A outer s H E).calm = true := rfl
  have hu := hr.units
  exact (pb_cons (ps_if' (pt_not' (pt_bool (px_isiC (subs := []) T.ci_Reading (by rfl) T.g_Reading (by intro q h; cases h) (by rfl) T.b_isinstance (px_var 1 (pv 1))))) (pb_one ps_never') pb_nil)
    (pb_cons (ps_set' (i := 2) sc_ReadingX_addX.nd rfl (by first | exact Or.inl rfl | exact Or.inr rfl) (px_op pr_add (px_meth0 (T.ci_Reading.cl) T.g_Reading T.me_Reading_terms (fnSettled G_Reading_terms) (hr.mono (by omega)) T.bd_Reading_terms .nil (fun _ _ => .nil) tk (px_var 0 (pv 0))) (px_meth0 (T.ci_Reading.cl) T.g_Reading T.me_Reading_terms (fnSettled G_Reading_terms) (hr.mono (by omega)) T.bd_Reading_terms .nil (fun _ _ => .nil) tk (px_var 1 (pv 1)))))
    (pb_one (ps_ret' (px_makeX T.ci_Reading T.mk_Reading G_ReadingX_initX (hr.mono (by omega)) (by rfl) T.g_Reading tk (px_var 2 (pv 2)))))))
end
/-! ### Reading.__neg__ -/
abbrev s_ReadingX_negX : Stmt := inClass (top 18) 8
abbrev N_ReadingX_negX : List Str := ["self", "rows", "number", "kind", "name"]
abbrev ps_ReadingX_negX : List Str := ["self"]
theorem sc_ReadingX_negX : FnScope N_ReadingX_negX ps_ReadingX_negX (defScope s_ReadingX_negX) := ⟨rfl, rfl, rfl, by decide +kernel, rfl, by decide +kernel, by decide +kernel⟩
section
variable {P : Program} {w : World} {K : PySem.W.Frag} {mg : Str → Option Value} {base : Heap}
theorem ok_ReadingX_negX {F : FT} {k : Nat} (T : Txt P w K mg) {k_ReadingX_initX : Nat} (h_ReadingX_initX : k_ReadingX_initX + 1 ≤ k) {k_Reading_terms : Nat} (h_Reading_terms : k_Reading_terms ≤ k) {F_ReadingX_initX : FT} (G_ReadingX_initX : FnR P w K mg base (L2.CX P w) k_ReadingX_initX T.f_ReadingX_initX (spIS K mg "Reading" F_ReadingX_initX)) {F_Reading_terms : FTN} (G_Reading_terms : FnOk P w K mg base (L2.CX P w) k_Reading_terms T.f_Reading_terms T.fd_Reading_terms ps_Reading_terms (spPN K mg 1 F_Reading_terms))
    (pure : ∀ (ds : List D) (Pd : D → Prop) (R : DX → Prop), ds.length = 1 → F ds Pd R → w_ReadingX_negX F_ReadingX_initX F_Reading_terms (startE 5 ds) { nx := fun _ => Pd .non, rt := Pd, ex := fun x _ => R x }) :
    FnOk P w K mg base (L2.CX P w) (k + 1) T.f_ReadingX_negX T.fd_ReadingX_negX ps_ReadingX_negX (spP K mg 1 F) := by
  refine def_ok T.fn_ReadingX_negX sc_ReadingX_negX fun cdv A outer s H E hr => ⟨w_ReadingX_negX F_ReadingX_initX F_Reading_terms, ?_, pure⟩
  have tk := takes_of (X := cxOf (L2.CX P w) P w K mg base N_ReadingX_negX "Reading.__neg__" (defScope s_ReadingX_negX) T.f_ReadingX_negX cdv A outer s H E) rfl rfl rfl rfl
  have po := passes_of (X := cxOf (L2.CX P w) P w K mg base N_ReadingX_negX "Reading.__neg__" (defScope s_ReadingX_negX) T.f_ReadingX_negX cdv A outer s H E) rfl
  have hc : (cxOf (L2.CX P w) P w K mg base N_ReadingX_negX "Reading.__neg__" (defScope s_ReadingX_negX) T.f_ReadingX_negX cdv A outer s H E).calm = true := rfl
  have hu := hr.units
  exact (pb_cons (pxs_setLc (i := 1) (own := [("number", 2), ("kind", 3), ("name", 4)]) ([2] ++ ([3] ++ ([4] ++ []))) hc sc_ReadingX_negX.nd rfl rfl (sw_true rfl rfl rfl (by decide +kernel)) (pi_it (px_meth0 (T.ci_Reading.cl) T.g_Reading T.me_Reading_terms (fnSettled G_Reading_terms) (hr.mono (by omega)) T.bd_Reading_terms .nil (fun _ _ => .nil) tk (px_var 0 (pv 0)))) (blkOk_by (own := [("number", 2), ("kind", 3), ("name", 4)]) (N := N_ReadingX_negX) (sc := defScope s_ReadingX_negX) (by decide +kernel)) (fun _ _ _ _ _ => (pg_tupN hc (pgs_cons' (pg_name' (pg_name (i := 2) sc_ReadingX_negX.nd rfl (by first | exact Or.inl rfl | exact Or.inr rfl))) (pgs_cons' (pg_name' (pg_name (i := 3) sc_ReadingX_negX.nd rfl (by first | exact Or.inl rfl | exact Or.inr rfl))) (pgs_cons' (pg_name' (pg_name (i := 4) sc_ReadingX_negX.nd rfl (by first | exact Or.inl rfl | exact Or.inr rfl))) pgs_nil'))))) (fun _ _ _ _ _ => pts_nil') (fun _ _ _ _ _ => (px_tup (pa_cons' (px_neg (px_var 2 (pv 2))) (pa_cons' (px_var 3 (pv 3)) (pa_cons' (px_var 4 (pv 4)) pa_nil'))))))
    (pb_one (ps_ret' (px_makeX T.ci_Reading T.mk_Reading G_ReadingX_initX (hr.mono (by omega)) (by rfl) T.g_Reading tk (px_var 1 (pv 1))))))
end
/-! ### Reading.__sub__ -/
abbrev s_ReadingX_subX : Stmt := inClass (top 18) 7
abbrev N_ReadingX_subX : List Str := ["self", "other"]
abbrev ps_ReadingX_subX : List Str := ["self", "other"]
theorem sc_ReadingX_subX : FnScope N_ReadingX_subX ps_ReadingX_subX (defScope s_ReadingX_subX) := ⟨rfl, rfl, rfl, by decide +kernel, rfl, by decide +kernel, by decide +kernel⟩
section
variable {P : Program} {w : World} {K : PySem.W.Frag} {mg : Str → Option Value} {base : Heap}
theorem ok_ReadingX_subX {F : FT} {k : Nat} (T : Txt P w K mg) {k_ReadingX_addX : Nat} (h_ReadingX_addX : k_ReadingX_addX ≤ k) {k_ReadingX_negX : Nat} (h_ReadingX_negX : k_ReadingX_negX ≤ k) {F_ReadingX_addX : FT} (G_ReadingX_addX : FnOk P w K mg base (L2.CX P w) k_ReadingX_addX T.f_ReadingX_addX T.fd_ReadingX_addX ps_ReadingX_addX (spP K mg 2 F_ReadingX_addX)) {F_ReadingX_negX : FT} (G_ReadingX_negX : FnOk P w K mg base (L2.CX P w) k_ReadingX_negX T.f_ReadingX_negX T.fd_ReadingX_negX ps_ReadingX_negX (spP K mg 1 F_ReadingX_negX))
    (pure : ∀ (ds : List D) (Pd : D → Prop) (R : DX → Prop), ds.length = 2 → F ds Pd R → w_ReadingX_subX F_ReadingX_addX F_ReadingX_negX (startE 2 ds) { nx := fun _ => Pd .non, rt := Pd, ex := fun x _ => R x }) :
    FnOk P w K mg base (L2.CX P w) (k + 1) T.f_ReadingX_subX T.fd_ReadingX_subX ps_ReadingX_subX (spP K mg 2 F) := by
  refine def_ok T.fn_ReadingX_subX sc_ReadingX_subX fun cdv A outer s H E hr => ⟨w_ReadingX_subX F_ReadingX_addX F_ReadingX_negX, ?_, pure⟩
  have tk := takes_of (X := cxOf (L2.CX P w) P w K mg base N_ReadingX_subX "Reading.__sub__" (defScope s_ReadingX_subX) T.f_ReadingX_subX cdv A outer s H E) rfl rfl rfl rfl
  have po := passes_of (X := cxOf (L2.CX P w) P w K mg base N_ReadingX_subX "Reading.__sub__" (defScope s_ReadingX_subX) T.f_ReadingX_subX cdv A outer s H E) rfl
  have hc : (cxOf (L2.CX P w) P w K mg base N_ReadingX_subX "Reading.__sub__" (defScope s_ReadingX_subX) T.f_ReadingX_subX cdv A outer s H E).calm = true := rfl
  have hu := hr.units
  exact (pb_cons (ps_if' (pt_not' (pt_bool (px_isiC (subs := []) T.ci_Reading (by rfl) T.g_Reading (by intro q h; cases h) (by rfl) T.b_isinstance (px_var 1 (pv 1))))) (pb_one ps_never') pb_nil)
    (pb_one (ps_ret' (px_binO pr_add T.g_Reading (own_fwd0 (op := .Add) (E := L2.WE _) T.bz_Reading_add G_ReadingX_addX (hr.mono (by omega)) T.bd_ReadingX_addX (fun σ => passAt tk σ)) own_none (px_var 0 (pv 0)) (px_negO T.g_Reading T.un_Reading_neg.1 T.un_Reading_neg.2 G_ReadingX_negX (hr.mono (by omega)) T.bd_ReadingX_negX tk (px_var 1 (pv 1)))))))
end
/-! ### Reading.__mul__ -/
abbrev s_ReadingX_mulX : Stmt := inClass (top 18) 9
abbrev N_ReadingX_mulX : List Str := ["self", "other", "rows", "number", "kind", "name"]
abbrev ps_ReadingX_mulX : List Str := ["self", "other"]
theorem sc_ReadingX_mulX : FnScope N_ReadingX_mulX ps_ReadingX_mulX (defScope s_ReadingX_mulX) := ⟨rfl, rfl, rfl, by decide +kernel, rfl, by decide +kernel, by decide +kernel⟩
section
variable {P : Program} {w : World} {K : PySem.W.Frag} {mg : Str → Option Value} {base : Heap}
theorem ok_ReadingX_mulX {F : FT} {k : Nat} (T : Txt P w K mg) {k_ReadingX_initX : Nat} (h_ReadingX_initX : k_ReadingX_initX + 1 ≤ k) {k_Reading_terms : Nat} (h_Reading_terms : k_Reading_terms ≤ k) {k_is_integer_value : Nat} (h_is_integer_value : k_is_integer_value ≤ k) {F_ReadingX_initX : FT} (G_ReadingX_initX : FnR P w K mg base (L2.CX P w) k_ReadingX_initX T.f_ReadingX_initX (spIS K mg "Reading" F_ReadingX_initX)) {F_Reading_terms : FTN} (G_Reading_terms : FnOk P w K mg base (L2.CX P w) k_Reading_terms T.f_Reading_terms T.fd_Reading_terms ps_Reading_terms (spPN K mg 1 F_Reading_terms)) {F_is_integer_value : FT} (G_is_integer_value : FnOk P w K mg base (L2.CX P w) k_is_integer_value T.f_is_integer_value T.fd_is_integer_value ps_is_integer_value (spP K mg 1 F_is_integer_value))
    (pure : ∀ (ds : List D) (Pd : D → Prop) (R : DX → Prop), ds.length = 2 → F ds Pd R → w_ReadingX_mulX F_ReadingX_initX F_Reading_terms F_is_integer_value (startE 6 ds) { nx := fun _ => Pd .non, rt := Pd, ex := fun x _ => R x }) :
    FnOk P w K mg base (L2.CX P w) (k + 1) T.f_ReadingX_mulX T.fd_ReadingX_mulX ps_ReadingX_mulX (spP K mg 2 F) := by
  refine def_ok T.fn_ReadingX_mulX sc_ReadingX_mulX fun cdv A outer s H E hr => ⟨w_ReadingX_mulX F_ReadingX_initX F_Reading_terms F_is_integer_value, ?_, pure⟩
  have tk := takes_of (X := cxOf (L2.CX P w) P w K mg base N_ReadingX_mulX "Reading.__mul__" (defScope s_ReadingX_mulX) T.f_ReadingX_mulX cdv A outer s H E) rfl rfl rfl rfl
  have po := passes_of (X := cxOf (L2.CX P w) P w K mg base N_ReadingX_mulX "Reading.__mul__" (defScope s_ReadingX_mulX) T.f_ReadingX_mulX cdv A outer s H E) rfl
  have hc : (cxOf (L2.CX P w) P w K mg base N_ReadingX_mulX "Reading.__mul__" (defScope s_ReadingX_mulX) T.f_ReadingX_mulX cdv A outer s H E).calm = true := rfl
  have hu := hr.units
  exact (pb_cons (ps_if' (pt_not' (pt_bool (px_call' G_is_integer_value (hr.mono (by omega)) (by rfl) T.g_is_integer_value T.fn_is_integer_value.kp T.bd_is_integer_value tk (pa_cons' (px_var 1 (pv 1)) pa_nil') rfl))) (pb_one ps_never') pb_nil)
    (pb_cons (pxs_setLc (i := 2) (own := [("number", 3), ("kind", 4), ("name", 5)]) ([3] ++ ([4] ++ ([5] ++ []))) hc sc_ReadingX_mulX.nd rfl rfl (sw_true rfl rfl rfl (by decide +kernel)) (pi_it (px_meth0 (T.ci_Reading.cl) T.g_Reading T.me_Reading_terms (fnSettled G_Reading_terms) (hr.mono (by omega)) T.bd_Reading_terms .nil (fun _ _ => .nil) tk (px_var 0 (pv 0)))) (blkOk_by (own := [("number", 3), ("kind", 4), ("name", 5)]) (N := N_ReadingX_mulX) (sc := defScope s_ReadingX_mulX) (by decide +kernel)) (fun _ _ _ _ _ => (pg_tupN hc (pgs_cons' (pg_name' (pg_name (i := 3) sc_ReadingX_mulX.nd rfl (by first | exact Or.inl rfl | exact Or.inr rfl))) (pgs_cons' (pg_name' (pg_name (i := 4) sc_ReadingX_mulX.nd rfl (by first | exact Or.inl rfl | exact Or.inr rfl))) (pgs_cons' (pg_name' (pg_name (i := 5) sc_ReadingX_mulX.nd rfl (by first | exact Or.inl rfl | exact Or.inr rfl))) pgs_nil'))))) (fun _ _ _ _ _ => pts_nil') (fun _ _ _ _ _ => (px_tup (pa_cons' (px_op pr_mul (px_var 3 (pv 3)) (px_var 1 (pv 1))) (pa_cons' (px_var 4 (pv 4)) (pa_cons' (px_var 5 (pv 5)) pa_nil'))))))
    (pb_one (ps_ret' (px_makeX T.ci_Reading T.mk_Reading G_ReadingX_initX (hr.mono (by omega)) (by rfl) T.g_Reading tk (px_var 2 (pv 2)))))))
end
/-! ### Reading.__rmul__ -/
abbrev s_ReadingX_rmulX : Stmt := inClass (top 18) 10
abbrev N_ReadingX_rmulX : List Str := ["self", "other"]
abbrev ps_ReadingX_rmulX : List Str := ["self", "other"]
theorem sc_ReadingX_rmulX : FnScope N_ReadingX_rmulX ps_ReadingX_rmulX (defScope s_ReadingX_rmulX) := ⟨rfl, rfl, rfl, by decide +kernel, rfl, by decide +kernel, by decide +kernel⟩
section
variable {P : Program} {w : World} {K : PySem.W.Frag} {mg : Str → Option Value} {base : Heap}
theorem ok_ReadingX_rmulX {F : FT} {k : Nat} (T : Txt P w K mg) {k_ReadingX_mulX : Nat} (h_ReadingX_mulX : k_ReadingX_mulX ≤ k) {F_ReadingX_mulX : FT} (G_ReadingX_mulX : FnOk P w K mg base (L2.CX P w) k_ReadingX_mulX T.f_ReadingX_mulX T.fd_ReadingX_mulX ps_ReadingX_mulX (spP K mg 2 F_ReadingX_mulX))
    (pure : ∀ (ds : List D) (Pd : D → Prop) (R : DX → Prop), ds.length = 2 → F ds Pd R → w_ReadingX_rmulX F_ReadingX_mulX (startE 2 ds) { nx := fun _ => Pd .non, rt := Pd, ex := fun x _ => R x }) :
    FnOk P w K mg base (L2.CX P w) (k + 1) T.f_ReadingX_rmulX T.fd_ReadingX_rmulX ps_ReadingX_rmulX (spP K mg 2 F) := by
  refine def_ok T.fn_ReadingX_rmulX sc_ReadingX_rmulX fun cdv A outer s H E hr => ⟨w_ReadingX_rmulX F_ReadingX_mulX, ?_, pure⟩
  have tk := takes_of (X := cxOf (L2.CX P w) P w K mg base N_ReadingX_rmulX "Reading.__rmul__" (defScope s_ReadingX_rmulX) T.f_ReadingX_rmulX cdv A outer s H E) rfl rfl rfl rfl
  have po := passes_of (X := cxOf (L2.CX P w) P w K mg base N_ReadingX_rmulX "Reading.__rmul__" (defScope s_ReadingX_rmulX) T.f_ReadingX_rmulX cdv A outer s H E) rfl
  have hc : (cxOf (L2.CX P w) P w K mg base N_ReadingX_rmulX "Reading.__rmul__" (defScope s_ReadingX_rmulX) T.f_ReadingX_rmulX cdv A outer s H E).calm = true := rfl
  have hu := hr.units
  exact (pb_one (ps_ret' (px_binO pr_mul T.g_Reading (own_fwd (op := .Mult) (E := L2.WE _) T.bf_Reading_mul G_ReadingX_mulX (hr.mono (by omega)) T.bd_ReadingX_mulX (fun σ => passAt tk σ)) own_none (px_var 0 (pv 0)) (px_var 1 (pv 1)))))
end
/-! ### Reading.__eq__ -/
abbrev s_ReadingX_eqX : Stmt := inClass (top 18) 11
abbrev N_ReadingX_eqX : List Str := ["self", "other"]
abbrev ps_ReadingX_eqX : List Str := ["self", "other"]
theorem sc_ReadingX_eqX : FnScope N_ReadingX_eqX ps_ReadingX_eqX (defScope s_ReadingX_eqX) := ⟨rfl, rfl, rfl, by decide +kernel, rfl, by decide +kernel, by decide +kernel⟩
section
variable {P : Program} {w : World} {K : PySem.W.Frag} {mg : Str → Option Value} {base : Heap}
theorem ok_ReadingX_eqX {F : FT} {k : Nat} (T : Txt P w K mg)  
    (pure : ∀ (ds : List D) (Pd : D → Prop) (R : DX → Prop), ds.length = 2 → F ds Pd R → w_ReadingX_eqX  (startE 2 ds) { nx := fun _ => Pd .non, rt := Pd, ex := fun x _ => R x }) :
    FnOk P w K mg base (L2.CX P w) (k + 1) T.f_ReadingX_eqX T.fd_ReadingX_eqX ps_ReadingX_eqX (spP K mg 2 F) := by
  refine def_ok T.fn_ReadingX_eqX sc_ReadingX_eqX fun cdv A outer s H E hr => ⟨w_ReadingX_eqX , ?_, pure⟩
  have tk := takes_of (X := cxOf (L2.CX P w) P w K mg base N_ReadingX_eqX "Reading.__eq__" (defScope s_ReadingX_eqX) T.f_ReadingX_eqX cdv A outer s H E) rfl rfl rfl rfl
  have po := passes_of (X := cxOf (L2.CX P w) P w K mg base N_ReadingX_eqX "Reading.__eq__" (defScope s_ReadingX_eqX) T.f_ReadingX_eqX cdv A outer s H E) rfl
  have hc : (cxOf (L2.CX P w) P w K mg base N_ReadingX_eqX "Reading.__eq__" (defScope s_ReadingX_eqX) T.f_ReadingX_eqX cdv A outer s H E).calm = true := rfl
  have hu := hr.units
  exact (pb_one (ps_ret' (px_and (px_isiC (subs := []) T.ci_Reading (by rfl) T.g_Reading (by intro q h; cases h) (by rfl) T.b_isinstance (px_var 1 (pv 1))) (px_one (px_cmp (pr_eqT hu) (px_fld T.g_Reading T.na_Reading_amounts (px_var 0 (pv 0))) (px_fld T.g_Reading T.na_Reading_amounts (px_var 1 (pv 1))))))))
end
/-! ### Reading.__len__ -/
abbrev s_ReadingX_lenX : Stmt := inClass (top 18) 12
abbrev N_ReadingX_lenX : List Str := ["self"]
abbrev ps_ReadingX_lenX : List Str := ["self"]
theorem sc_ReadingX_lenX : FnScope N_ReadingX_lenX ps_ReadingX_lenX (defScope s_ReadingX_lenX) := ⟨rfl, rfl, rfl, by decide +kernel, rfl, by decide +kernel, by decide +kernel⟩
section
variable {P : Program} {w : World} {K : PySem.W.Frag} {mg : Str → Option Value} {base : Heap}
theorem ok_ReadingX_lenX {F : FT} {k : Nat} (T : Txt P w K mg)  
    (pure : ∀ (ds : List D) (Pd : D → Prop) (R : DX → Prop), ds.length = 1 → F ds Pd R → w_ReadingX_lenX  (startE 1 ds) { nx := fun _ => Pd .non, rt := Pd, ex := fun x _ => R x }) :
    FnOk P w K mg base (L2.CX P w) (k + 1) T.f_ReadingX_lenX T.fd_ReadingX_lenX ps_ReadingX_lenX (spP K mg 1 F) := by
  refine def_ok T.fn_ReadingX_lenX sc_ReadingX_lenX fun cdv A outer s H E hr => ⟨w_ReadingX_lenX , ?_, pure⟩
  have tk := takes_of (X := cxOf (L2.CX P w) P w K mg base N_ReadingX_lenX "Reading.__len__" (defScope s_ReadingX_lenX) T.f_ReadingX_lenX cdv A outer s H E) rfl rfl rfl rfl
  have po := passes_of (X := cxOf (L2.CX P w) P w K mg base N_ReadingX_lenX "Reading.__len__" (defScope s_ReadingX_lenX) T.f_ReadingX_lenX cdv A outer s H E) rfl
  have hc : (cxOf (L2.CX P w) P w K mg base N_ReadingX_lenX "Reading.__len__" (defScope s_ReadingX_lenX) T.f_ReadingX_lenX cdv A outer s H E).calm = true := rfl
  have hu := hr.units
  exact (pb_one (ps_ret' (px_callB pc_lenD (by rfl) T.b_len (by decide +kernel) (pa_cons' (px_fld T.g_Reading T.na_Reading_amounts (px_var 0 (pv 0))) pa_nil'))))
end
/-! ### Reading.__bool__ -/
abbrev s_ReadingX_boolX : Stmt := inClass (top 18) 13
abbrev N_ReadingX_boolX : List Str := ["self"]
abbrev ps_ReadingX_boolX : List Str := ["self"]
theorem sc_ReadingX_boolX : FnScope N_ReadingX_boolX ps_ReadingX_boolX (defScope s_ReadingX_boolX) := ⟨rfl, rfl, rfl, by decide +kernel, rfl, by decide +kernel, by decide +kernel⟩
section
variable {P : Program} {w : World} {K : PySem.W.Frag} {mg : Str → Option Value} {base : Heap}
theorem ok_ReadingX_boolX {F : FT} {k : Nat} (T : Txt P w K mg)  
    (pure : ∀ (ds : List D) (Pd : D → Prop) (R : DX → Prop), ds.length = 1 → F ds Pd R → w_ReadingX_boolX  (startE 1 ds) { nx := fun _ => Pd .non, rt := Pd, ex := fun x _ => R x }) :
    FnOk P w K mg base (L2.CX P w) (k + 1) T.f_ReadingX_boolX T.fd_ReadingX_boolX ps_ReadingX_boolX (spP K mg 1 F) := by
  refine def_ok T.fn_ReadingX_boolX sc_ReadingX_boolX fun cdv A outer s H E hr => ⟨w_ReadingX_boolX , ?_, pure⟩
  have tk := takes_of (X := cxOf (L2.CX P w) P w K mg base N_ReadingX_boolX "Reading.__bool__" (defScope s_ReadingX_boolX) T.f_ReadingX_boolX cdv A outer s H E) rfl rfl rfl rfl
  have po := passes_of (X := cxOf (L2.CX P w) P w K mg base N_ReadingX_boolX "Reading.__bool__" (defScope s_ReadingX_boolX) T.f_ReadingX_boolX cdv A outer s H E) rfl
  have hc : (cxOf (L2.CX P w) P w K mg base N_ReadingX_boolX "Reading.__bool__" (defScope s_ReadingX_boolX) T.f_ReadingX_boolX cdv A outer s H E).calm = true := rfl
  have hu := hr.units
  exact (pb_one (ps_ret' px_bl))
end
/-! ### _law_terms -/
abbrev s_law_terms : Stmt := top 25
abbrev N_law_terms : List Str := ["_law_rows", "_law_table", "_law_number", "_law_kind", "_law_name", "_law_mark"]
abbrev ps_law_terms : List Str := ["_law_rows"]
theorem sc_law_terms : FnScope N_law_terms ps_law_terms (defScope s_law_terms) := ⟨rfl, rfl, rfl, by decide +kernel, rfl, by decide +kernel, by decide +kernel⟩
section
variable {P : Program} {w : World} {K : PySem.W.Frag} {mg : Str → Option Value} {base : Heap}
theorem ok_law_terms {F : FT} {k : Nat} (T : Txt P w K mg)  
    (pure : ∀ (ds : List D) (Pd : D → Prop) (R : DX → Prop), ds.length = 1 → F ds Pd R → w_law_terms  (startE 6 ds) { nx := fun _ => Pd .non, rt := Pd, ex := fun x _ => R x }) :
    FnOk P w K mg base (L2.CX P w) (k + 1) T.f_law_terms T.fd_law_terms ps_law_terms (spP K mg 1 F) := by
  refine def_ok T.fn_law_terms sc_law_terms fun cdv A outer s H E hr => ⟨w_law_terms , ?_, pure⟩
  have tk := takes_of (X := cxOf (L2.CX P w) P w K mg base N_law_terms "_law_terms" (defScope s_law_terms) T.f_law_terms cdv A outer s H E) rfl rfl rfl rfl
  have po := passes_of (X := cxOf (L2.CX P w) P w K mg base N_law_terms "_law_terms" (defScope s_law_terms) T.f_law_terms cdv A outer s H E) rfl
  have hc : (cxOf (L2.CX P w) P w K mg base N_law_terms "_law_terms" (defScope s_law_terms) T.f_law_terms cdv A outer s H E).calm = true := rfl
  have hu := hr.units
  exact (pb_cons (ps_ownT (i := 1) sc_law_terms.nd rfl (by first | exact Or.inl rfl | exact Or.inr rfl))
    (pb_cons (ps_for' po hc (pi_it (px_var 0 (pv 0))) (pg_tupN hc (pgs_cons' (pg_name' (pg_name (i := 2) sc_law_terms.nd rfl (by first | exact Or.inl rfl | exact Or.inr rfl))) (pgs_cons' (pg_name' (pg_name (i := 3) sc_law_terms.nd rfl (by first | exact Or.inl rfl | exact Or.inr rfl))) (pgs_cons' (pg_name' (pg_name (i := 4) sc_law_terms.nd rfl (by first | exact Or.inl rfl | exact Or.inr rfl))) pgs_nil')))) (pb_one (ps_putT (i := 1) (hu1 hu) (pv 1) (px_tup (pa_cons' (px_var 3 (pv 3)) (pa_cons' (px_var 4 (pv 4)) pa_nil'))) (px_op pr_add (px_getO (i := 1) (hu1 hu) (pv 1) (px_tup (pa_cons' (px_var 3 (pv 3)) (pa_cons' (px_var 4 (pv 4)) pa_nil'))) px_int ⟨by rfl, by rfl, by rfl, by rfl⟩) (px_var 2 (pv 2))))))
    (pb_one (ps_ret' (px_lc (own := [("_law_mark", 5)]) [5] hc sc_law_terms.nd (pi_it (px_callB (pc_sorted hu) (by rfl) T.b_sorted (by decide +kernel) (pa_cons' (px_listO (i := 1) hc (by rfl) T.b_list (by decide +kernel) (pv 1)) pa_nil'))) (blkOk_by (own := [("_law_mark", 5)]) (N := N_law_terms) (sc := defScope s_law_terms) (by decide +kernel)) (fun _ _ _ _ _ => (pg_name' (pg_name (i := 5) sc_law_terms.nd rfl (by first | exact Or.inl rfl | exact Or.inr rfl)))) (fun _ _ _ _ _ => (pts_one' (pt_cmp' (pr_ne hu) (px_ixO (i := 1) (hu1 hu) (pv 1) (px_var 5 (pv 5)) (fun _ _ => rfl)) px_int))) (fun _ _ _ _ _ => (px_tup (pa_cons' (px_ixO (i := 1) (hu1 hu) (pv 1) (px_var 5 (pv 5)) (fun _ _ => rfl)) (pa_cons' (px_ix (px_var 5 (pv 5)) px_int (fun _ _ => rfl)) (pa_cons' (px_ix (px_var 5 (pv 5)) px_int (fun _ _ => rfl)) pa_nil'))))))))))
end
/-! ### _law_term_text -/
abbrev s_law_term_text : Stmt := top 26
abbrev N_law_term_text : List Str := ["_law_number", "_law_kind", "_law_name"]
abbrev ps_law_term_text : List Str := ["_law_number", "_law_kind", "_law_name"]
theorem sc_law_term_text : FnScope N_law_term_text ps_law_term_text (defScope s_law_term_text) := ⟨rfl, rfl, rfl, by decide +kernel, rfl, by decide +kernel, by decide +kernel⟩
section
variable {P : Program} {w : World} {K : PySem.W.Frag} {mg : Str → Option Value} {base : Heap}
theorem ok_law_term_text {F : FT} {k : Nat} (T : Txt P w K mg)  
    (pure : ∀ (ds : List D) (Pd : D → Prop) (R : DX → Prop), ds.length = 3 → F ds Pd R → w_law_term_text  (startE 3 ds) { nx := fun _ => Pd .non, rt := Pd, ex := fun x _ => R x }) :
    FnOk P w K mg base (L2.CX P w) (k + 1) T.f_law_term_text T.fd_law_term_text ps_law_term_text (spP K mg 3 F) := by
  refine def_ok T.fn_law_term_text sc_law_term_text fun cdv A outer s H E hr => ⟨w_law_term_text , ?_, pure⟩
  have tk := takes_of (X := cxOf (L2.CX P w) P w K mg base N_law_term_text "_law_term_text" (defScope s_law_term_text) T.f_law_term_text cdv A outer s H E) rfl rfl rfl rfl
  have po := passes_of (X := cxOf (L2.CX P w) P w K mg base N_law_term_text "_law_term_text" (defScope s_law_term_text) T.f_law_term_text cdv A outer s H E) rfl
  have hc : (cxOf (L2.CX P w) P w K mg base N_law_term_text "_law_term_text" (defScope s_law_term_text) T.f_law_term_text cdv A outer s H E).calm = true := rfl
  have hu := hr.units
  exact (pb_one (ps_ret' (px_if (pt_cmp' (pr_eq hu) (px_var 0 (pv 0)) px_int) (px_op pr_add (px_op pr_add (px_var 1 (pv 1)) px_str) (px_var 2 (pv 2))) (px_op pr_add (px_op pr_add (px_op pr_add (px_op pr_add (px_callTy pc_str (by rfl) T.b_str (by decide +kernel) (pa_cons' (px_var 0 (pv 0)) pa_nil')) px_str) (px_var 1 (pv 1))) px_str) (px_var 2 (pv 2))))))
end
/-! ### _law_reading_text -/
abbrev s_law_reading_text : Stmt := top 27
abbrev N_law_reading_text : List Str := ["_law_terms_here", "_law_found", "_law_number", "_law_kind", "_law_name", "_law_joint"]
abbrev ps_law_reading_text : List Str := ["_law_terms_here"]
theorem sc_law_reading_text : FnScope N_law_reading_text ps_law_reading_text (defScope s_law_reading_text) := ⟨rfl, rfl, rfl, by decide +kernel, rfl, by decide +kernel, by decide +kernel⟩
section
variable {P : Program} {w : World} {K : PySem.W.Frag} {mg : Str → Option Value} {base : Heap}
theorem ok_law_reading_text {F : FT} {k : Nat} (T : Txt P w K mg) {k_law_term_text : Nat} (h_law_term_text : k_law_term_text ≤ k) {F_law_term_text : FT} (G_law_term_text : FnOk P w K mg base (L2.CX P w) k_law_term_text T.f_law_term_text T.fd_law_term_text ps_law_term_text (spP K mg 3 F_law_term_text))
    (pure : ∀ (ds : List D) (Pd : D → Prop) (R : DX → Prop), ds.length = 1 → F ds Pd R → w_law_reading_text F_law_term_text (startE 6 ds) { nx := fun _ => Pd .non, rt := Pd, ex := fun x _ => R x }) :
    FnOk P w K mg base (L2.CX P w) (k + 1) T.f_law_reading_text T.fd_law_reading_text ps_law_reading_text (spP K mg 1 F) := by
  refine def_ok T.fn_law_reading_text sc_law_reading_text fun cdv A outer s H E hr => ⟨w_law_reading_text F_law_term_text, ?_, pure⟩
  have tk := takes_of (X := cxOf (L2.CX P w) P w K mg base N_law_reading_text "_law_reading_text" (defScope s_law_reading_text) T.f_law_reading_text cdv A outer s H E) rfl rfl rfl rfl
  have po := passes_of (X := cxOf (L2.CX P w) P w K mg base N_law_reading_text "_law_reading_text" (defScope s_law_reading_text) T.f_law_reading_text cdv A outer s H E) rfl
  have hc : (cxOf (L2.CX P w) P w K mg base N_law_reading_text "_law_reading_text" (defScope s_law_reading_text) T.f_law_reading_text cdv A outer s H E).calm = true := rfl
  have hu := hr.units
  exact (pb_cons (ps_set' (i := 1) sc_law_reading_text.nd rfl (by first | exact Or.inl rfl | exact Or.inr rfl) px_str)
    (pb_cons (ps_for' po hc (pi_it (px_var 0 (pv 0))) (pg_tupN hc (pgs_cons' (pg_name' (pg_name (i := 2) sc_law_reading_text.nd rfl (by first | exact Or.inl rfl | exact Or.inr rfl))) (pgs_cons' (pg_name' (pg_name (i := 3) sc_law_reading_text.nd rfl (by first | exact Or.inl rfl | exact Or.inr rfl))) (pgs_cons' (pg_name' (pg_name (i := 4) sc_law_reading_text.nd rfl (by first | exact Or.inl rfl | exact Or.inr rfl))) pgs_nil')))) (pb_cons (ps_set' (i := 5) sc_law_reading_text.nd rfl (by first | exact Or.inl rfl | exact Or.inr rfl) (px_if (pt_cmp' pr_lt (px_var 2 (pv 2)) px_int) px_str px_str))
    (pb_cons (ps_if' (pt_cmp' (pr_eq hu) (px_var 1 (pv 1)) px_str) (pb_one (ps_set' (i := 5) sc_law_reading_text.nd rfl (by first | exact Or.inl rfl | exact Or.inr rfl) (px_if (pt_cmp' pr_lt (px_var 2 (pv 2)) px_int) px_str px_str))) pb_nil)
    (pb_one (ps_set' (i := 1) sc_law_reading_text.nd rfl (by first | exact Or.inl rfl | exact Or.inr rfl) (px_op pr_add (px_op pr_add (px_var 1 (pv 1)) (px_var 5 (pv 5))) (px_call' G_law_term_text (hr.mono (by omega)) (by rfl) T.g_law_term_text T.fn_law_term_text.kp T.bd_law_term_text tk (pa_cons' (px_callB pc_abs (by rfl) T.b_abs (by decide +kernel) (pa_cons' (px_var 2 (pv 2)) pa_nil')) (pa_cons' (px_var 3 (pv 3)) (pa_cons' (px_var 4 (pv 4)) pa_nil'))) rfl)))))))
    (pb_one (ps_ret' (px_if (pt_cmp' (pr_ne hu) (px_var 1 (pv 1)) px_str) (px_var 1 (pv 1)) px_str)))))
end
/-! ### _law_reading -/
abbrev s_law_reading : Stmt := top 28
abbrev N_law_reading : List Str := ["_law_rows", "_law_found", "_law_row"]
abbrev ps_law_reading : List Str := ["_law_rows"]
theorem sc_law_reading : FnScope N_law_reading ps_law_reading (defScope s_law_reading) := ⟨rfl, rfl, rfl, by decide +kernel, rfl, by decide +kernel, by decide +kernel⟩
section
variable {P : Program} {w : World} {K : PySem.W.Frag} {mg : Str → Option Value} {base : Heap}
theorem ok_law_reading {F : FT} {k : Nat} (T : Txt P w K mg) {k_ReadingX_addX : Nat} (h_ReadingX_addX : k_ReadingX_addX ≤ k) {k_ReadingX_initX : Nat} (h_ReadingX_initX : k_ReadingX_initX + 1 ≤ k) {F_ReadingX_addX : FT} (G_ReadingX_addX : FnOk P w K mg base (L2.CX P w) k_ReadingX_addX T.f_ReadingX_addX T.fd_ReadingX_addX ps_ReadingX_addX (spP K mg 2 F_ReadingX_addX)) {F_ReadingX_initX : FT} (G_ReadingX_initX : FnR P w K mg base (L2.CX P w) k_ReadingX_initX T.f_ReadingX_initX (spIS K mg "Reading" F_ReadingX_initX))
    (pure : ∀ (ds : List D) (Pd : D → Prop) (R : DX → Prop), ds.length = 1 → F ds Pd R → w_law_reading F_ReadingX_addX F_ReadingX_initX (startE 3 ds) { nx := fun _ => Pd .non, rt := Pd, ex := fun x _ => R x }) :
    FnOk P w K mg base (L2.CX P w) (k + 1) T.f_law_reading T.fd_law_reading ps_law_reading (spP K mg 1 F) := by
  refine def_ok T.fn_law_reading sc_law_reading fun cdv A outer s H E hr => ⟨w_law_reading F_ReadingX_addX F_ReadingX_initX, ?_, pure⟩
  have tk := takes_of (X := cxOf (L2.CX P w) P w K mg base N_law_reading "_law_reading" (defScope s_law_reading) T.f_law_reading cdv A outer s H E) rfl rfl rfl rfl
  have po := passes_of (X := cxOf (L2.CX P w) P w K mg base N_law_reading "_law_reading" (defScope s_law_reading) T.f_law_reading cdv A outer s H E) rfl
  have hc : (cxOf (L2.CX P w) P w K mg base N_law_reading "_law_reading" (defScope s_law_reading) T.f_law_reading cdv A outer s H E).calm = true := rfl
  have hu := hr.units
  exact (pb_cons (ps_if' (pt_cmp' (pr_eq hu) (px_callB pc_len (by rfl) T.b_len (by decide +kernel) (pa_cons' (px_var 0 (pv 0)) pa_nil')) px_int) (pb_one (ps_ret' (px_makeS T.ci_Reading T.mk_Reading G_ReadingX_initX (hr.mono (by omega)) (by rfl) T.g_Reading tk (pa_cons' (px_ix (px_var 0 (pv 0)) px_int (fun _ _ => rfl)) pa_nil')))) pb_nil)
    (pb_cons (ps_if' (pt_cmp' (pr_eq hu) (px_callB pc_len (by rfl) T.b_len (by decide +kernel) (pa_cons' (px_var 0 (pv 0)) pa_nil')) px_int) (pb_one (ps_ret' (px_makeS T.ci_Reading T.mk_Reading G_ReadingX_initX (hr.mono (by omega)) (by rfl) T.g_Reading tk (pa_cons' (px_ix (px_var 0 (pv 0)) px_int (fun _ _ => rfl)) (pa_cons' (px_ix (px_var 0 (pv 0)) px_int (fun _ _ => rfl)) pa_nil'))))) pb_nil)
    (pb_cons (ps_if' (pt_cmp' (pr_eq hu) (px_callB pc_len (by rfl) T.b_len (by decide +kernel) (pa_cons' (px_var 0 (pv 0)) pa_nil')) px_int) (pb_one (ps_ret' (px_makeS T.ci_Reading T.mk_Reading G_ReadingX_initX (hr.mono (by omega)) (by rfl) T.g_Reading tk (pa_cons' (px_ix (px_var 0 (pv 0)) px_int (fun _ _ => rfl)) (pa_cons' (px_ix (px_var 0 (pv 0)) px_int (fun _ _ => rfl)) (pa_cons' (px_ix (px_var 0 (pv 0)) px_int (fun _ _ => rfl)) pa_nil')))))) pb_nil)
    (pb_cons (ps_set' (i := 1) sc_law_reading.nd rfl (by first | exact Or.inl rfl | exact Or.inr rfl) (px_makeS0 T.ci_Reading T.mk_Reading G_ReadingX_initX (hr.mono (by omega)) (by rfl) T.g_Reading tk))
    (pb_cons (ps_for' po hc (pi_it (px_var 0 (pv 0))) (pg_name' (pg_name (i := 2) sc_law_reading.nd rfl (by first | exact Or.inl rfl | exact Or.inr rfl))) (pb_one (ps_set' (i := 1) sc_law_reading.nd rfl (by first | exact Or.inl rfl | exact Or.inr rfl) (px_binO pr_add T.g_Reading (own_fwd0 (op := .Add) (E := L2.WE _) T.bz_Reading_add G_ReadingX_addX (hr.mono (by omega)) T.bd_ReadingX_addX (fun σ => passAt tk σ)) own_none (px_var 1 (pv 1)) (px_makeS T.ci_Reading T.mk_Reading G_ReadingX_initX (hr.mono (by omega)) (by rfl) T.g_Reading tk (pa_cons' (px_var 2 (pv 2)) pa_nil'))))))
    (pb_one (ps_ret' (px_var 1 (pv 1)))))))))
end
/-! ### _law_reading_so -/
abbrev s_law_reading_so : Stmt := top 29
abbrev N_law_reading_so : List Str := ["_law_found", "_law_terms_here"]
abbrev ps_law_reading_so : List Str := ["_law_found", "_law_terms_here"]
theorem sc_law_reading_so : FnScope N_law_reading_so ps_law_reading_so (defScope s_law_reading_so) := ⟨rfl, rfl, rfl, by decide +kernel, rfl, by decide +kernel, by decide +kernel⟩
section
variable {P : Program} {w : World} {K : PySem.W.Frag} {mg : Str → Option Value} {base : Heap}
theorem ok_law_reading_so {F : FT} {k : Nat} (T : Txt P w K mg) {k_ReadingX_boolX : Nat} (h_ReadingX_boolX : k_ReadingX_boolX + 2 ≤ k) {k_ReadingX_lenX : Nat} (h_ReadingX_lenX : k_ReadingX_lenX + 1 ≤ k) {k_Reading_terms : Nat} (h_Reading_terms : k_Reading_terms ≤ k) {k_Reading_text : Nat} (h_Reading_text : k_Reading_text + 1 ≤ k) {k_law_reading_text : Nat} (h_law_reading_text : k_law_reading_text ≤ k) {k_law_same : Nat} (h_law_same : k_law_same ≤ k) {F_ReadingX_boolX : FT} (G_ReadingX_boolX : FnOk P w K mg base (L2.CX P w) k_ReadingX_boolX T.f_ReadingX_boolX T.fd_ReadingX_boolX ps_ReadingX_boolX (spP K mg 1 F_ReadingX_boolX)) {F_ReadingX_lenX : FT} (G_ReadingX_lenX : FnOk P w K mg base (L2.CX P w) k_ReadingX_lenX T.f_ReadingX_lenX T.fd_ReadingX_lenX ps_ReadingX_lenX (spP K mg 1 F_ReadingX_lenX)) {F_Reading_terms : FTN} (G_Reading_terms : FnOk P w K mg base (L2.CX P w) k_Reading_terms T.f_Reading_terms T.fd_Reading_terms ps_Reading_terms (spPN K mg 1 F_Reading_terms)) {F_Reading_text : FT} (G_Reading_text : FnOk P w K mg base (L2.CX P w) k_Reading_text T.f_Reading_text T.fd_Reading_text ps_Reading_text (spP K mg 1 F_Reading_text)) {F_law_reading_text : FT} (G_law_reading_text : FnOk P w K mg base (L2.CX P w) k_law_reading_text T.f_law_reading_text T.fd_law_reading_text ps_law_reading_text (spP K mg 1 F_law_reading_text)) {F_law_same : FT} (G_law_same : FnOk P w K mg base (L2.CX P w) k_law_same T.f_law_same T.fd_law_same ps_law_same (spP K mg 2 F_law_same))
    (pure : ∀ (ds : List D) (Pd : D → Prop) (R : DX → Prop), ds.length = 2 → F ds Pd R → w_law_reading_so F_ReadingX_boolX F_ReadingX_lenX F_Reading_terms F_Reading_text F_law_reading_text F_law_same (startE 2 ds) { nx := fun _ => Pd .non, rt := Pd, ex := fun x _ => R x }) :
    FnOk P w K mg base (L2.CX P w) (k + 1) T.f_law_reading_so T.fd_law_reading_so ps_law_reading_so (spP K mg 2 F) := by
  refine def_ok T.fn_law_reading_so sc_law_reading_so fun cdv A outer s H E hr => ⟨w_law_reading_so F_ReadingX_boolX F_ReadingX_lenX F_Reading_terms F_Reading_text F_law_reading_text F_law_same, ?_, pure⟩
  have tk := takes_of (X := cxOf (L2.CX P w) P w K mg base N_law_reading_so "_law_reading_so" (defScope s_law_reading_so) T.f_law_reading_so cdv A outer s H E) rfl rfl rfl rfl
  have po := passes_of (X := cxOf (L2.CX P w) P w K mg base N_law_reading_so "_law_reading_so" (defScope s_law_reading_so) T.f_law_reading_so cdv A outer s H E) rfl
  have hc : (cxOf (L2.CX P w) P w K mg base N_law_reading_so "_law_reading_so" (defScope s_law_reading_so) T.f_law_reading_so cdv A outer s H E).calm = true := rfl
  have hu := hr.units
  exact (pb_cons (ps_if' (pt_not' (pt_bool (px_isiC (subs := []) T.ci_Reading (by rfl) T.g_Reading (by intro q h; cases h) (by rfl) T.b_isinstance (px_var 0 (pv 0))))) (pb_one (ps_ret' px_bl)) pb_nil)
    (pb_one (ps_ret' (px_call' G_law_same (hr.mono (by omega)) (by rfl) T.g_law_same T.fn_law_same.kp T.bd_law_same tk (pa_cons' (px_lst (pa_cons' (px_meth0 (T.ci_Reading.cl) T.g_Reading T.me_Reading_terms (fnSettled G_Reading_terms) (hr.mono (by omega)) T.bd_Reading_terms .nil (fun _ _ => .nil) tk (px_var 0 (pv 0))) (pa_cons' (px_prop T.g_Reading T.ci_Reading.cl T.pp_Reading_text G_Reading_text (hr.mono (by omega)) T.bd_Reading_text (px_var 0 (pv 0))) (pa_cons' (px_callB (pc_lenO T.g_Reading T.un_Reading_len.1 T.un_Reading_len.2 G_ReadingX_lenX (hr.mono (by omega)) T.bd_ReadingX_lenX) (by rfl) T.b_len (by decide +kernel) (pa_cons' (px_var 0 (pv 0)) pa_nil')) (pa_cons' (px_callTy (pc_boolO T.g_Reading T.un_Reading_bool.1 T.un_Reading_bool.2 G_ReadingX_boolX (hr.mono (by omega)) T.bd_ReadingX_boolX) (by rfl) T.b_bool (by decide +kernel) (pa_cons' (px_var 0 (pv 0)) pa_nil')) pa_nil'))))) (pa_cons' (px_lst (pa_cons' (px_var 1 (pv 1)) (pa_cons' (px_call' G_law_reading_text (hr.mono (by omega)) (by rfl) T.g_law_reading_text T.fn_law_reading_text.kp T.bd_law_reading_text tk (pa_cons' (px_var 1 (pv 1)) pa_nil') rfl) (pa_cons' (px_callB pc_len (by rfl) T.b_len (by decide +kernel) (pa_cons' (px_var 1 (pv 1)) pa_nil')) (pa_cons' px_bl pa_nil'))))) pa_nil')) rfl))))
end
/-! ### _law_any_terms -/
abbrev s_law_any_terms : Stmt := top 30
abbrev N_law_any_terms : List Str := ["_law_bag_here", "_law_most", "_law_wide", "_law_names", "_law_found", "_law_k", "_law_number"]
abbrev ps_law_any_terms : List Str := ["_law_bag_here", "_law_most", "_law_wide"]
theorem sc_law_any_terms : FnScope N_law_any_terms ps_law_any_terms (defScope s_law_any_terms) := ⟨rfl, rfl, rfl, by decide +kernel, rfl, by decide +kernel, by decide +kernel⟩
section
variable {P : Program} {w : World} {K : PySem.W.Frag} {mg : Str → Option Value} {base : Heap}
theorem ok_law_any_terms {F : FT} {k : Nat} (T : Txt P w K mg) {k_law_draw : Nat} (h_law_draw : k_law_draw ≤ k) {k_law_of : Nat} (h_law_of : k_law_of ≤ k) {F_law_draw : FT} (G_law_draw : FnOk P w K mg base (L2.CX P w) k_law_draw T.f_law_draw T.fd_law_draw ps_law_draw (spP K mg 2 F_law_draw)) {F_law_of : FT} (G_law_of : FnOk P w K mg base (L2.CX P w) k_law_of T.f_law_of T.fd_law_of ps_law_of (spP K mg 2 F_law_of))
    (pure : ∀ (ds : List D) (Pd : D → Prop) (R : DX → Prop), ds.length = 3 → F ds Pd R → w_law_any_terms F_law_draw F_law_of (startE 7 ds) { nx := fun _ => Pd .non, rt := Pd, ex := fun x _ => R x }) :
    FnOk P w K mg base (L2.CX P w) (k + 1) T.f_law_any_terms T.fd_law_any_terms ps_law_any_terms (spP K mg 3 F) := by
  refine def_ok T.fn_law_any_terms sc_law_any_terms fun cdv A outer s H E hr => ⟨w_law_any_terms F_law_draw F_law_of, ?_, pure⟩
  have tk := takes_of (X := cxOf (L2.CX P w) P w K mg base N_law_any_terms "_law_any_terms" (defScope s_law_any_terms) T.f_law_any_terms cdv A outer s H E) rfl rfl rfl rfl
  have po := passes_of (X := cxOf (L2.CX P w) P w K mg base N_law_any_terms "_law_any_terms" (defScope s_law_any_terms) T.f_law_any_terms cdv A outer s H E) rfl
  have hc : (cxOf (L2.CX P w) P w K mg base N_law_any_terms "_law_any_terms" (defScope s_law_any_terms) T.f_law_any_terms cdv A outer s H E).calm = true := rfl
  have hu := hr.units
  exact (pb_cons (ps_ownVL (i := 3) (j := 4) hc sc_law_any_terms.nd rfl rfl (by decide) rfl rfl (px_call' G_law_of (hr.mono (by omega)) (by rfl) T.g_law_of T.fn_law_of.kp T.bd_law_of tk (pa_cons' (px_var 0 (pv 0)) (pa_cons' (px_lst (pa_cons' (px_lst (pa_cons' px_str (pa_cons' px_str pa_nil'))) (pa_cons' (px_lst (pa_cons' px_str (pa_cons' px_str (pa_cons' px_str (pa_cons' px_str (pa_cons' px_str pa_nil')))))) pa_nil'))) pa_nil')) rfl) (pn_lst pa_nil') (by with_unfolding_all rfl))
    (pb_cons (ps_for' po hc (pi_rng1 (by rfl) T.b_range (px_call' G_law_draw (hr.mono (by omega)) (by rfl) T.g_law_draw T.fn_law_draw.kp T.bd_law_draw tk (pa_cons' (px_var 0 (pv 0)) (pa_cons' (px_op pr_add (px_var 1 (pv 1)) px_int) pa_nil')) rfl)) (pg_name' (pg_name (i := 5) sc_law_any_terms.nd rfl (by first | exact Or.inl rfl | exact Or.inr rfl))) (pb_cons (ps_set' (i := 6) sc_law_any_terms.nd rfl (by first | exact Or.inl rfl | exact Or.inr rfl) (px_op pr_sub (px_call' G_law_draw (hr.mono (by omega)) (by rfl) T.g_law_draw T.fn_law_draw.kp T.bd_law_draw tk (pa_cons' (px_var 0 (pv 0)) (pa_cons' (px_op pr_add (px_op pr_mul px_int (px_var 2 (pv 2))) px_int) pa_nil')) rfl) (px_var 2 (pv 2))))
    (pb_one (ps_app (i := 4) (pv 4) (px_tup (pa_cons' (px_var 6 (pv 6)) (pa_cons' (px_call' G_law_of (hr.mono (by omega)) (by rfl) T.g_law_of T.fn_law_of.kp T.bd_law_of tk (pa_cons' (px_var 0 (pv 0)) (pa_cons' (px_lst (pa_cons' px_str (pa_cons' px_str pa_nil'))) pa_nil')) rfl) (pa_cons' (px_call' G_law_of (hr.mono (by omega)) (by rfl) T.g_law_of T.fn_law_of.kp T.bd_law_of tk (pa_cons' (px_var 0 (pv 0)) (pa_cons' (px_var 3 (pv 3)) pa_nil')) rfl) pa_nil'))))))))
    (pb_one (ps_ret' (px_var 4 (pv 4))))))
end
/-! ### law -/
abbrev s_law : Stmt := top 31
abbrev N_law : List Str := ["_law_script", "_law_bag_here", "_law_lap", "_law_x", "_law_y", "_law_lost", "_law_number", "_law_kind", "_law_name", "_law_less", "_law_whole", "_law_times", "_law_one", "_law_two", "_law_cases", "_law_found", "_law_due"]
abbrev ps_law : List Str := ["_law_script"]
theorem sc_law : FnScope N_law ps_law (defScope s_law) := ⟨rfl, rfl, rfl, by decide +kernel, rfl, by decide +kernel, by decide +kernel⟩
def w_law (F_ReadingX_addX : FT) (F_ReadingX_eqX : FT) (F_ReadingX_mulX : FT) (F_ReadingX_negX : FT) (F_ReadingX_rmulX : FT) (F_ReadingX_subX : FT) (F_law_any_terms : FT) (F_law_draw : FT) (F_law_mixed : FT) (F_law_of : FT) (F_law_reading : FT) (F_law_reading_so : FT) (F_law_reading_text : FT) (F_law_same : FT) (F_law_terms : FT) : WS :=
    (wsSeq (wsFor (wRng1 (wC (.int 6))) (wgName 2)
    (wsSeq (wsSet 3 (wCall (fun ds P R => ds.length = 1 ∧ F_law_terms ds P R) [] (wCons (wCall (fun ds P R => ds.length = 3 ∧ F_law_any_terms ds P R) [] (wCons (wVar 1) (wCons (wC (.int 5)) (wCons (wC (.int 9)) wNil)))) wNil)))
    (wsSeq (wsSet 4 (wCall (fun ds P R => ds.length = 1 ∧ F_law_terms ds P R) [] (wCons (wCall (fun ds P R => ds.length = 3 ∧ F_law_any_terms ds P R) [] (wCons (wVar 1) (wCons (wC (.int 5)) (wCons (wC (.int 9)) wNil)))) wNil)))
    (wsSeq (wsSet 5 (wLc [6, 7, 8] (wIt (wVar 3)) (wgTup 3 (wgCons (wgName 6) (wgCons (wgName 7) (wgCons (wgName 8) wgNil)))) wYes (wTup (wCons (wNegO "Reading" F_ReadingX_negX (wVar 6)) (wCons (wVar 7) (wCons (wVar 8) wNil))))))
    (wsSeq (wsIf (wTest (wEqO "Reading" F_ReadingX_eqX (wCall (fun ds P R => ds.length = 2 ∧ F_law_draw ds P R) [] (wCons (wVar 1) (wCons (wC (.int 3)) wNil))) (wC (.int 0)))) (wsSet 4 (wCall (fun ds P R => ds.length = 2 ∧ F_law_of ds P R) [] (wCons (wVar 1) (wCons (wLst (wCons (wVar 3) (wCons (wVar 5) (wCons (wLst wNil) wNil)))) wNil)))) wsNext)
    (wsSeq (wsSet 9 (wLc [6, 7, 8] (wIt (wVar 4)) (wgTup 3 (wgCons (wgName 6) (wgCons (wgName 7) (wgCons (wgName 8) wgNil)))) wYes (wTup (wCons (wNegO "Reading" F_ReadingX_negX (wVar 6)) (wCons (wVar 7) (wCons (wVar 8) wNil))))))
    (wsSeq (wsSet 10 (wCall (fun ds P R => ds.length = 2 ∧ F_law_of ds P R) [] (wCons (wVar 1) (wCons (wLst (wCons (wC (.int 0)) (wCons (wC (.int 1)) (wCons (wNegO "Reading" F_ReadingX_negX (wC (.int 1))) (wCons (wC (.int 7)) (wCons (wNegO "Reading" F_ReadingX_negX (wOp rdPow (wC (.int 10)) (wC (.int 25)))) wNil)))))) wNil))))
    (wsSeq (wsSet 11 (wLc [6, 7, 8] (wIt (wVar 3)) (wgTup 3 (wgCons (wgName 6) (wgCons (wgName 7) (wgCons (wgName 8) wgNil)))) wYes (wTup (wCons (wBinO "Reading" rdMul F_ReadingX_mulX F_ReadingX_rmulX (wVar 6) (wVar 10)) (wCons (wVar 7) (wCons (wVar 8) wNil))))))
    (wsSeq (wsPar 12 13 (wCons (wCall (fun ds P R => ds.length = 1 ∧ F_law_reading ds P R) [] (wCons (wVar 3) wNil)) (wCons (wCall (fun ds P R => ds.length = 1 ∧ F_law_reading ds P R) [] (wCons (wVar 4) wNil)) wNil)))
    (wsSeq (wsSet 14 (wLst (wCons (wTup (wCons (wBinO "Reading" rdAdd (insOnly F_ReadingX_addX) (fun _ _ _ => False) (wVar 12) (wVar 13)) (wCons (wBinO "Reading" rdAdd (insOnly F_ReadingX_addX) (fun _ _ _ => False) (wVar 3) (wVar 4)) wNil))) (wCons (wTup (wCons (wBinO "Reading" rdSub (insOnly F_ReadingX_subX) (fun _ _ _ => False) (wVar 12) (wVar 13)) (wCons (wBinO "Reading" rdAdd (insOnly F_ReadingX_addX) (fun _ _ _ => False) (wVar 3) (wVar 9)) wNil))) (wCons (wTup (wCons (wNegO "Reading" F_ReadingX_negX (wVar 12)) (wCons (wVar 5) wNil))) (wCons (wTup (wCons (wBinO "Reading" rdMul F_ReadingX_mulX F_ReadingX_rmulX (wVar 12) (wVar 10)) (wCons (wVar 11) wNil))) (wCons (wTup (wCons (wBinO "Reading" rdMul F_ReadingX_mulX F_ReadingX_rmulX (wVar 10) (wVar 12)) (wCons (wVar 11) wNil))) (wCons (wTup (wCons (wBinO "Reading" rdSub (insOnly F_ReadingX_subX) (fun _ _ _ => False) (wVar 13) (wVar 12)) (wCons (wBinO "Reading" rdAdd (insOnly F_ReadingX_addX) (fun _ _ _ => False) (wVar 4) (wVar 5)) wNil))) wNil))))))))
    (wsSeq (wsIf (wNot (wTest (wCB rdAll (wCons (wLc [15, 16] (wIt (wVar 14)) (wgTup2 (wgName 15) (wgName 16)) wYes (wCall (fun ds P R => ds.length = 2 ∧ F_law_reading_so ds P R) [] (wCons (wVar 15) (wCons (wCall (fun ds P R => ds.length = 1 ∧ F_law_terms ds P R) [] (wCons (wVar 16) wNil)) wNil)))) wNil)))) (wsRet (wC (.bl false))) wsNext)
    (wsSeq (wsIf (wOr (wNot (wTest (wCall (fun ds P R => ds.length = 2 ∧ F_law_reading_so ds P R) [] (wCons (wVar 12) (wCons (wVar 3) wNil))))) (wNot (wTest (wCall (fun ds P R => ds.length = 2 ∧ F_law_reading_so ds P R) [] (wCons (wVar 13) (wCons (wVar 4) wNil)))))) (wsRet (wC (.bl false))) wsNext)
    (wsSeq (wsSet 15 (wLst (wCons (wEqO "Reading" F_ReadingX_eqX (wVar 12) (wVar 13)) (wCons (wEqO "Reading" F_ReadingX_eqX (wVar 13) (wVar 12)) (wCons (wEqO "Reading" F_ReadingX_eqX (wVar 12) (wCall (fun ds P R => ds.length = 1 ∧ F_law_reading_text ds P R) [] (wCons (wVar 3) wNil))) (wCons (wEqO "Reading" F_ReadingX_eqX (wVar 12) (wCall (fun ds P R => ds.length = 1 ∧ F_law_reading ds P R) [] (wCons (wCall (fun ds P R => ds.length = 2 ∧ F_law_mixed ds P R) [] (wCons (wVar 1) (wCons (wVar 3) wNil))) wNil))) (wCons (wEqO "Reading" F_ReadingX_eqX (wVar 12) (wC (.int 0))) wNil)))))))
    (wsIf (wNot (wTest (wCall (fun ds P R => ds.length = 2 ∧ F_law_same ds P R) [] (wCons (wVar 15) (wCons (wLst (wCons (wEqO "Reading" F_ReadingX_eqX (wVar 3) (wVar 4)) (wCons (wEqO "Reading" F_ReadingX_eqX (wVar 3) (wVar 4)) (wCons (wC (.bl false)) (wCons (wC (.bl true)) (wCons (wC (.bl false)) wNil)))))) wNil))))) (wsRet (wC (.bl false))) wsNext))))))))))))))
    (wsRet (wC (.bl true))))
section
variable {P : Program} {w : World} {K : PySem.W.Frag} {mg : Str → Option Value} {base : Heap}
theorem ok_law {k : Nat} (hk : 1 ≤ k) (T : Txt P w K mg) {k_ReadingX_addX : Nat} (h_ReadingX_addX : k_ReadingX_addX ≤ k) {k_ReadingX_eqX : Nat} (h_ReadingX_eqX : k_ReadingX_eqX ≤ k) {k_ReadingX_mulX : Nat} (h_ReadingX_mulX : k_ReadingX_mulX ≤ k) {k_ReadingX_negX : Nat} (h_ReadingX_negX : k_ReadingX_negX ≤ k) {k_ReadingX_rmulX : Nat} (h_ReadingX_rmulX : k_ReadingX_rmulX ≤ k) {k_ReadingX_subX : Nat} (h_ReadingX_subX : k_ReadingX_subX ≤ k) {k_law_any_terms : Nat} (h_law_any_terms : k_law_any_terms ≤ k) {k_law_draw : Nat} (h_law_draw : k_law_draw ≤ k) {k_law_mixed : Nat} (h_law_mixed : k_law_mixed ≤ k) {k_law_of : Nat} (h_law_of : k_law_of ≤ k) {k_law_reading : Nat} (h_law_reading : k_law_reading ≤ k) {k_law_reading_so : Nat} (h_law_reading_so : k_law_reading_so ≤ k) {k_law_reading_text : Nat} (h_law_reading_text : k_law_reading_text ≤ k) {k_law_same : Nat} (h_law_same : k_law_same ≤ k) {k_law_terms : Nat} (h_law_terms : k_law_terms ≤ k) {F_ReadingX_addX : FT} (G_ReadingX_addX : FnOk P w K mg base (L2.CX P w) k_ReadingX_addX T.f_ReadingX_addX T.fd_ReadingX_addX ps_ReadingX_addX (spP K mg 2 F_ReadingX_addX)) {F_ReadingX_eqX : FT} (G_ReadingX_eqX : FnOk P w K mg base (L2.CX P w) k_ReadingX_eqX T.f_ReadingX_eqX T.fd_ReadingX_eqX ps_ReadingX_eqX (spP K mg 2 F_ReadingX_eqX)) {F_ReadingX_mulX : FT} (G_ReadingX_mulX : FnOk P w K mg base (L2.CX P w) k_ReadingX_mulX T.f_ReadingX_mulX T.fd_ReadingX_mulX ps_ReadingX_mulX (spP K mg 2 F_ReadingX_mulX)) {F_ReadingX_negX : FT} (G_ReadingX_negX : FnOk P w K mg base (L2.CX P w) k_ReadingX_negX T.f_ReadingX_negX T.fd_ReadingX_negX ps_ReadingX_negX (spP K mg 1 F_ReadingX_negX)) {F_ReadingX_rmulX : FT} (G_ReadingX_rmulX : FnOk P w K mg base (L2.CX P w) k_ReadingX_rmulX T.f_ReadingX_rmulX T.fd_ReadingX_rmulX ps_ReadingX_rmulX (spP K mg 2 F_ReadingX_rmulX)) {F_ReadingX_subX : FT} (G_ReadingX_subX : FnOk P w K mg base (L2.CX P w) k_ReadingX_subX T.f_ReadingX_subX T.fd_ReadingX_subX ps_ReadingX_subX (spP K mg 2 F_ReadingX_subX)) {F_law_any_terms : FT} (G_law_any_terms : FnOk P w K mg base (L2.CX P w) k_law_any_terms T.f_law_any_terms T.fd_law_any_terms ps_law_any_terms (spP K mg 3 F_law_any_terms)) {F_law_draw : FT} (G_law_draw : FnOk P w K mg base (L2.CX P w) k_law_draw T.f_law_draw T.fd_law_draw ps_law_draw (spP K mg 2 F_law_draw)) {F_law_mixed : FT} (G_law_mixed : FnOk P w K mg base (L2.CX P w) k_law_mixed T.f_law_mixed T.fd_law_mixed ps_law_mixed (spP K mg 2 F_law_mixed)) {F_law_of : FT} (G_law_of : FnOk P w K mg base (L2.CX P w) k_law_of T.f_law_of T.fd_law_of ps_law_of (spP K mg 2 F_law_of)) {F_law_reading : FT} (G_law_reading : FnOk P w K mg base (L2.CX P w) k_law_reading T.f_law_reading T.fd_law_reading ps_law_reading (spP K mg 1 F_law_reading)) {F_law_reading_so : FT} (G_law_reading_so : FnOk P w K mg base (L2.CX P w) k_law_reading_so T.f_law_reading_so T.fd_law_reading_so ps_law_reading_so (spP K mg 2 F_law_reading_so)) {F_law_reading_text : FT} (G_law_reading_text : FnOk P w K mg base (L2.CX P w) k_law_reading_text T.f_law_reading_text T.fd_law_reading_text ps_law_reading_text (spP K mg 1 F_law_reading_text)) {F_law_same : FT} (G_law_same : FnOk P w K mg base (L2.CX P w) k_law_same T.f_law_same T.fd_law_same ps_law_same (spP K mg 2 F_law_same)) {F_law_terms : FT} (G_law_terms : FnOk P w K mg base (L2.CX P w) k_law_terms T.f_law_terms T.fd_law_terms ps_law_terms (spP K mg 1 F_law_terms))
    (pure : w_law F_ReadingX_addX F_ReadingX_eqX F_ReadingX_mulX F_ReadingX_negX F_ReadingX_rmulX F_ReadingX_subX F_law_any_terms F_law_draw F_law_mixed F_law_of F_law_reading F_law_reading_so F_law_reading_text F_law_same F_law_terms (lawE 17) { nx := fun _ => False, rt := fun d => d = .bl true, ex := fun _ _ => False }) :
    FnOk P w K mg base (L2.CX P w) (k + 1) T.f_law T.fd_law ps_law (spLaw K) := by
  have G_bag : FnOk P w K mg base (L2.CX P w) 1 T.f_law_bag T.fd_law_bag ps_law_bag (spBag K) := ok_law_bag T
  refine law_ok T.fn_law sc_law rfl (by decide) fun cdv A outer s H E hr => ⟨_, _, w_law F_ReadingX_addX F_ReadingX_eqX F_ReadingX_mulX F_ReadingX_negX F_ReadingX_rmulX F_ReadingX_subX F_law_any_terms F_law_draw F_law_mixed F_law_of F_law_reading F_law_reading_so F_law_reading_text F_law_same F_law_terms, rfl, ?_, ?_, pure⟩
  · exact ps_set (i := 1) sc_law.nd rfl (by first | exact Or.inl rfl | exact Or.inr rfl) (pe_call G_bag (hr.mono hk) (by rfl) T.g_law_bag T.fn_law_bag.kp T.bd_law_bag .nil passL (pa_cons (pv 0) pa_nil))
  have tk := takes_of (X := (cxOf (L2.CX P w) P w K mg base N_law "law" (defScope s_law) T.f_law cdv A outer s H E)) rfl rfl rfl rfl
  have po := passes_of (X := (cxOf (L2.CX P w) P w K mg base N_law "law" (defScope s_law) T.f_law cdv A outer s H E)) rfl
  have hc : (cxOf (L2.CX P w) P w K mg base N_law "law" (defScope s_law) T.f_law cdv A outer s H E).calm = true := rfl
  have hu := hr.units
  exact (pb_cons (ps_for' po hc (pi_rng1 (by rfl) T.b_range px_int) (pg_name' (pg_name (i := 2) sc_law.nd rfl (by first | exact Or.inl rfl | exact Or.inr rfl))) (pb_cons (ps_set' (i := 3) sc_law.nd rfl (by first | exact Or.inl rfl | exact Or.inr rfl) (px_call' G_law_terms (hr.mono (by omega)) (by rfl) T.g_law_terms T.fn_law_terms.kp T.bd_law_terms tk (pa_cons' (px_call' G_law_any_terms (hr.mono (by omega)) (by rfl) T.g_law_any_terms T.fn_law_any_terms.kp T.bd_law_any_terms tk (pa_cons' (px_var 1 (pv 1)) (pa_cons' px_int (pa_cons' px_int pa_nil'))) rfl) pa_nil') rfl))
    (pb_cons (ps_set' (i := 4) sc_law.nd rfl (by first | exact Or.inl rfl | exact Or.inr rfl) (px_call' G_law_terms (hr.mono (by omega)) (by rfl) T.g_law_terms T.fn_law_terms.kp T.bd_law_terms tk (pa_cons' (px_call' G_law_any_terms (hr.mono (by omega)) (by rfl) T.g_law_any_terms T.fn_law_any_terms.kp T.bd_law_any_terms tk (pa_cons' (px_var 1 (pv 1)) (pa_cons' px_int (pa_cons' px_int pa_nil'))) rfl) pa_nil') rfl))
    (pb_cons (pxs_setLc (i := 5) (own := [("_law_number", 6), ("_law_kind", 7), ("_law_name", 8)]) ([6] ++ ([7] ++ ([8] ++ []))) hc sc_law.nd rfl rfl (sw_true rfl rfl rfl (by decide +kernel)) (pi_it (px_var 3 (pv 3))) (blkOk_by (own := [("_law_number", 6), ("_law_kind", 7), ("_law_name", 8)]) (N := N_law) (sc := defScope s_law) (by decide +kernel)) (fun _ _ _ _ _ => (pg_tupN hc (pgs_cons' (pg_name' (pg_name (i := 6) sc_law.nd rfl (by first | exact Or.inl rfl | exact Or.inr rfl))) (pgs_cons' (pg_name' (pg_name (i := 7) sc_law.nd rfl (by first | exact Or.inl rfl | exact Or.inr rfl))) (pgs_cons' (pg_name' (pg_name (i := 8) sc_law.nd rfl (by first | exact Or.inl rfl | exact Or.inr rfl))) pgs_nil'))))) (fun _ _ _ _ _ => pts_nil') (fun _ _ _ _ _ => (px_tup (pa_cons' (px_negO T.g_Reading T.un_Reading_neg.1 T.un_Reading_neg.2 G_ReadingX_negX (hr.mono (by omega)) T.bd_ReadingX_negX takes0 (px_var 6 (pv 6))) (pa_cons' (px_var 7 (pv 7)) (pa_cons' (px_var 8 (pv 8)) pa_nil'))))))
    (pb_cons (ps_if' (pt_eqO hu T.g_Reading T.eq_Reading (T.ci_Reading.bt "int" (by decide)) G_ReadingX_eqX (hr.mono (by omega)) T.bd_ReadingX_eqX tk (px_call' G_law_draw (hr.mono (by omega)) (by rfl) T.g_law_draw T.fn_law_draw.kp T.bd_law_draw tk (pa_cons' (px_var 1 (pv 1)) (pa_cons' px_int pa_nil')) rfl) px_int) (pb_one (ps_set' (i := 4) sc_law.nd rfl (by first | exact Or.inl rfl | exact Or.inr rfl) (px_call' G_law_of (hr.mono (by omega)) (by rfl) T.g_law_of T.fn_law_of.kp T.bd_law_of tk (pa_cons' (px_var 1 (pv 1)) (pa_cons' (px_lst (pa_cons' (px_var 3 (pv 3)) (pa_cons' (px_var 5 (pv 5)) (pa_cons' (px_lst pa_nil') pa_nil')))) pa_nil')) rfl))) pb_nil)
    (pb_cons (pxs_setLc (i := 9) (own := [("_law_number", 6), ("_law_kind", 7), ("_law_name", 8)]) ([6] ++ ([7] ++ ([8] ++ []))) hc sc_law.nd rfl rfl (sw_true rfl rfl rfl (by decide +kernel)) (pi_it (px_var 4 (pv 4))) (blkOk_by (own := [("_law_number", 6), ("_law_kind", 7), ("_law_name", 8)]) (N := N_law) (sc := defScope s_law) (by decide +kernel)) (fun _ _ _ _ _ => (pg_tupN hc (pgs_cons' (pg_name' (pg_name (i := 6) sc_law.nd rfl (by first | exact Or.inl rfl | exact Or.inr rfl))) (pgs_cons' (pg_name' (pg_name (i := 7) sc_law.nd rfl (by first | exact Or.inl rfl | exact Or.inr rfl))) (pgs_cons' (pg_name' (pg_name (i := 8) sc_law.nd rfl (by first | exact Or.inl rfl | exact Or.inr rfl))) pgs_nil'))))) (fun _ _ _ _ _ => pts_nil') (fun _ _ _ _ _ => (px_tup (pa_cons' (px_negO T.g_Reading T.un_Reading_neg.1 T.un_Reading_neg.2 G_ReadingX_negX (hr.mono (by omega)) T.bd_ReadingX_negX takes0 (px_var 6 (pv 6))) (pa_cons' (px_var 7 (pv 7)) (pa_cons' (px_var 8 (pv 8)) pa_nil'))))))
    (pb_cons (ps_set' (i := 10) sc_law.nd rfl (by first | exact Or.inl rfl | exact Or.inr rfl) (px_call' G_law_of (hr.mono (by omega)) (by rfl) T.g_law_of T.fn_law_of.kp T.bd_law_of tk (pa_cons' (px_var 1 (pv 1)) (pa_cons' (px_lst (pa_cons' px_int (pa_cons' px_int (pa_cons' (px_negO T.g_Reading T.un_Reading_neg.1 T.un_Reading_neg.2 G_ReadingX_negX (hr.mono (by omega)) T.bd_ReadingX_negX tk px_int) (pa_cons' px_int (pa_cons' (px_negO T.g_Reading T.un_Reading_neg.1 T.un_Reading_neg.2 G_ReadingX_negX (hr.mono (by omega)) T.bd_ReadingX_negX tk (px_op pr_pow px_int px_int)) pa_nil')))))) pa_nil')) rfl))
    (pb_cons (pxs_setLc (i := 11) (own := [("_law_number", 6), ("_law_kind", 7), ("_law_name", 8)]) ([6] ++ ([7] ++ ([8] ++ []))) hc sc_law.nd rfl rfl (sw_true rfl rfl rfl (by decide +kernel)) (pi_it (px_var 3 (pv 3))) (blkOk_by (own := [("_law_number", 6), ("_law_kind", 7), ("_law_name", 8)]) (N := N_law) (sc := defScope s_law) (by decide +kernel)) (fun _ _ _ _ _ => (pg_tupN hc (pgs_cons' (pg_name' (pg_name (i := 6) sc_law.nd rfl (by first | exact Or.inl rfl | exact Or.inr rfl))) (pgs_cons' (pg_name' (pg_name (i := 7) sc_law.nd rfl (by first | exact Or.inl rfl | exact Or.inr rfl))) (pgs_cons' (pg_name' (pg_name (i := 8) sc_law.nd rfl (by first | exact Or.inl rfl | exact Or.inr rfl))) pgs_nil'))))) (fun _ _ _ _ _ => pts_nil') (fun _ _ _ _ _ => (px_tup (pa_cons' (px_binO pr_mul T.g_Reading (own_fwd (op := .Mult) (E := L2.WE _) T.bf_Reading_mul G_ReadingX_mulX (hr.mono (by omega)) T.bd_ReadingX_mulX (fun σ => passAt takes0 σ)) (own_rev_mul (E := L2.WE _) T.bf_Reading_mul (T.ci_Reading.bt "int" (by decide)) G_ReadingX_rmulX (hr.mono (by omega)) T.bd_ReadingX_rmulX (fun σ => passAt takes0 σ)) (px_var 6 (pv 6)) (px_var 10 (pv 10))) (pa_cons' (px_var 7 (pv 7)) (pa_cons' (px_var 8 (pv 8)) pa_nil'))))))
    (pb_cons (ps_par' (i := 12) (j := 13) hc sc_law.nd rfl rfl (by decide) rfl rfl (pa_cons' (px_call' G_law_reading (hr.mono (by omega)) (by rfl) T.g_law_reading T.fn_law_reading.kp T.bd_law_reading tk (pa_cons' (px_var 3 (pv 3)) pa_nil') rfl) (pa_cons' (px_call' G_law_reading (hr.mono (by omega)) (by rfl) T.g_law_reading T.fn_law_reading.kp T.bd_law_reading tk (pa_cons' (px_var 4 (pv 4)) pa_nil') rfl) pa_nil')) (by with_unfolding_all rfl))
    (pb_cons (ps_set' (i := 14) sc_law.nd rfl (by first | exact Or.inl rfl | exact Or.inr rfl) (px_lst (pa_cons' (px_tup (pa_cons' (px_binO pr_add T.g_Reading (own_fwd0 (op := .Add) (E := L2.WE _) T.bz_Reading_add G_ReadingX_addX (hr.mono (by omega)) T.bd_ReadingX_addX (fun σ => passAt tk σ)) own_none (px_var 12 (pv 12)) (px_var 13 (pv 13))) (pa_cons' (px_binO pr_add T.g_Reading (own_fwd0 (op := .Add) (E := L2.WE _) T.bz_Reading_add G_ReadingX_addX (hr.mono (by omega)) T.bd_ReadingX_addX (fun σ => passAt tk σ)) own_none (px_var 3 (pv 3)) (px_var 4 (pv 4))) pa_nil'))) (pa_cons' (px_tup (pa_cons' (px_binO pr_sub T.g_Reading (own_fwd0 (op := .Sub) (E := L2.WE _) T.bz_Reading_sub G_ReadingX_subX (hr.mono (by omega)) T.bd_ReadingX_subX (fun σ => passAt tk σ)) own_none (px_var 12 (pv 12)) (px_var 13 (pv 13))) (pa_cons' (px_binO pr_add T.g_Reading (own_fwd0 (op := .Add) (E := L2.WE _) T.bz_Reading_add G_ReadingX_addX (hr.mono (by omega)) T.bd_ReadingX_addX (fun σ => passAt tk σ)) own_none (px_var 3 (pv 3)) (px_var 9 (pv 9))) pa_nil'))) (pa_cons' (px_tup (pa_cons' (px_negO T.g_Reading T.un_Reading_neg.1 T.un_Reading_neg.2 G_ReadingX_negX (hr.mono (by omega)) T.bd_ReadingX_negX tk (px_var 12 (pv 12))) (pa_cons' (px_var 5 (pv 5)) pa_nil'))) (pa_cons' (px_tup (pa_cons' (px_binO pr_mul T.g_Reading (own_fwd (op := .Mult) (E := L2.WE _) T.bf_Reading_mul G_ReadingX_mulX (hr.mono (by omega)) T.bd_ReadingX_mulX (fun σ => passAt tk σ)) (own_rev_mul (E := L2.WE _) T.bf_Reading_mul (T.ci_Reading.bt "int" (by decide)) G_ReadingX_rmulX (hr.mono (by omega)) T.bd_ReadingX_rmulX (fun σ => passAt tk σ)) (px_var 12 (pv 12)) (px_var 10 (pv 10))) (pa_cons' (px_var 11 (pv 11)) pa_nil'))) (pa_cons' (px_tup (pa_cons' (px_binO pr_mul T.g_Reading (own_fwd (op := .Mult) (E := L2.WE _) T.bf_Reading_mul G_ReadingX_mulX (hr.mono (by omega)) T.bd_ReadingX_mulX (fun σ => passAt tk σ)) (own_rev_mul (E := L2.WE _) T.bf_Reading_mul (T.ci_Reading.bt "int" (by decide)) G_ReadingX_rmulX (hr.mono (by omega)) T.bd_ReadingX_rmulX (fun σ => passAt tk σ)) (px_var 10 (pv 10)) (px_var 12 (pv 12))) (pa_cons' (px_var 11 (pv 11)) pa_nil'))) (pa_cons' (px_tup (pa_cons' (px_binO pr_sub T.g_Reading (own_fwd0 (op := .Sub) (E := L2.WE _) T.bz_Reading_sub G_ReadingX_subX (hr.mono (by omega)) T.bd_ReadingX_subX (fun σ => passAt tk σ)) own_none (px_var 13 (pv 13)) (px_var 12 (pv 12))) (pa_cons' (px_binO pr_add T.g_Reading (own_fwd0 (op := .Add) (E := L2.WE _) T.bz_Reading_add G_ReadingX_addX (hr.mono (by omega)) T.bd_ReadingX_addX (fun σ => passAt tk σ)) own_none (px_var 4 (pv 4)) (px_var 5 (pv 5))) pa_nil'))) pa_nil'))))))))
    (pb_cons (ps_if' (pt_not' (pt_bool (px_callB (pc_all hc) (by rfl) T.b_all (by decide +kernel) (pa_cons' (px_lc (own := [("_law_found", 15), ("_law_due", 16)]) ([15] ++ [16]) hc sc_law.nd (pi_it (px_var 14 (pv 14))) (blkOk_by (own := [("_law_found", 15), ("_law_due", 16)]) (N := N_law) (sc := defScope s_law) (by decide +kernel)) (fun _ _ _ _ _ => (pg_tup2 hc (pg_name' (pg_name (i := 15) sc_law.nd rfl (by first | exact Or.inl rfl | exact Or.inr rfl))) (pg_name' (pg_name (i := 16) sc_law.nd rfl (by first | exact Or.inl rfl | exact Or.inr rfl))))) (fun _ _ _ _ _ => pts_nil') (fun _ _ _ _ _ => (px_call' G_law_reading_so (hr.mono (by omega)) (by rfl) T.g_law_reading_so T.fn_law_reading_so.kp T.bd_law_reading_so takes0 (pa_cons' (px_var 15 (pv 15)) (pa_cons' (px_call' G_law_terms (hr.mono (by omega)) (by rfl) T.g_law_terms T.fn_law_terms.kp T.bd_law_terms takes0 (pa_cons' (px_var 16 (pv 16)) pa_nil') rfl) pa_nil')) rfl))) pa_nil')))) (pb_one (ps_ret' px_bl)) pb_nil)
    (pb_cons (ps_if' (pw_pt (pw_or' (pt_not' (pt_bool (px_call' G_law_reading_so (hr.mono (by omega)) (by rfl) T.g_law_reading_so T.fn_law_reading_so.kp T.bd_law_reading_so tk (pa_cons' (px_var 12 (pv 12)) (pa_cons' (px_var 3 (pv 3)) pa_nil')) rfl))) (pw_or1' (pt_not' (pt_bool (px_call' G_law_reading_so (hr.mono (by omega)) (by rfl) T.g_law_reading_so T.fn_law_reading_so.kp T.bd_law_reading_so tk (pa_cons' (px_var 13 (pv 13)) (pa_cons' (px_var 4 (pv 4)) pa_nil')) rfl)))))) (pb_one (ps_ret' px_bl)) pb_nil)
    (pb_cons (ps_set' (i := 15) sc_law.nd rfl (by first | exact Or.inl rfl | exact Or.inr rfl) (px_lst (pa_cons' (px_eqO hu T.g_Reading T.eq_Reading (T.ci_Reading.bt "int" (by decide)) G_ReadingX_eqX (hr.mono (by omega)) T.bd_ReadingX_eqX tk (px_var 12 (pv 12)) (px_var 13 (pv 13))) (pa_cons' (px_eqO hu T.g_Reading T.eq_Reading (T.ci_Reading.bt "int" (by decide)) G_ReadingX_eqX (hr.mono (by omega)) T.bd_ReadingX_eqX tk (px_var 13 (pv 13)) (px_var 12 (pv 12))) (pa_cons' (px_eqO hu T.g_Reading T.eq_Reading (T.ci_Reading.bt "int" (by decide)) G_ReadingX_eqX (hr.mono (by omega)) T.bd_ReadingX_eqX tk (px_var 12 (pv 12)) (px_call' G_law_reading_text (hr.mono (by omega)) (by rfl) T.g_law_reading_text T.fn_law_reading_text.kp T.bd_law_reading_text tk (pa_cons' (px_var 3 (pv 3)) pa_nil') rfl)) (pa_cons' (px_eqO hu T.g_Reading T.eq_Reading (T.ci_Reading.bt "int" (by decide)) G_ReadingX_eqX (hr.mono (by omega)) T.bd_ReadingX_eqX tk (px_var 12 (pv 12)) (px_call' G_law_reading (hr.mono (by omega)) (by rfl) T.g_law_reading T.fn_law_reading.kp T.bd_law_reading tk (pa_cons' (px_call' G_law_mixed (hr.mono (by omega)) (by rfl) T.g_law_mixed T.fn_law_mixed.kp T.bd_law_mixed tk (pa_cons' (px_var 1 (pv 1)) (pa_cons' (px_var 3 (pv 3)) pa_nil')) rfl) pa_nil') rfl)) (pa_cons' (px_eqO hu T.g_Reading T.eq_Reading (T.ci_Reading.bt "int" (by decide)) G_ReadingX_eqX (hr.mono (by omega)) T.bd_ReadingX_eqX tk (px_var 12 (pv 12)) px_int) pa_nil')))))))
    (pb_one (ps_if' (pt_not' (pt_bool (px_call' G_law_same (hr.mono (by omega)) (by rfl) T.g_law_same T.fn_law_same.kp T.bd_law_same tk (pa_cons' (px_var 15 (pv 15)) (pa_cons' (px_lst (pa_cons' (px_eqO hu T.g_Reading T.eq_Reading (T.ci_Reading.bt "int" (by decide)) G_ReadingX_eqX (hr.mono (by omega)) T.bd_ReadingX_eqX tk (px_var 3 (pv 3)) (px_var 4 (pv 4))) (pa_cons' (px_eqO hu T.g_Reading T.eq_Reading (T.ci_Reading.bt "int" (by decide)) G_ReadingX_eqX (hr.mono (by omega)) T.bd_ReadingX_eqX tk (px_var 3 (pv 3)) (px_var 4 (pv 4))) (pa_cons' px_bl (pa_cons' px_bl (pa_cons' px_bl pa_nil')))))) pa_nil')) rfl))) (pb_one (ps_ret' px_bl)) pb_nil)))))))))))))))
    (pb_one (ps_ret' px_bl)))
end
end Pu
set_option maxRecDepth 100000
namespace Pu
open PySem L2 PySem.Spec PyProof.Rows
theorem perm_map_inv {α β : Type} {f : α → β} {L l' : List β} (p : L.Perm l') : ∀ l : List α, l.map f = L → ∃ m : List α, m.Perm l ∧ m.map f = l' := by
  induction p with
  | nil => intro l e; rw [List.map_eq_nil_iff.mp e]; exact ⟨[], .nil, rfl⟩
  | cons x _ ih =>
    intro l e
    cases l with
    | nil => cases e
    | cons a l =>
      rw [List.map_cons] at e
      injection e with e1 e2
      obtain ⟨m, h1, h2⟩ := ih l e2
      exact ⟨a :: m, h1.cons a, by rw [List.map_cons, e1, h2]⟩
  | swap x y t =>
    intro l e
    match l, e with
    | a :: b :: l, e =>
      rw [List.map_cons, List.map_cons] at e
      injection e with e1 e2
      injection e2 with e2 e3
      exact ⟨b :: a :: l, List.Perm.swap _ _ _, by rw [List.map_cons, List.map_cons, e1, e2, e3]⟩
  | trans _ _ h1 h2 =>
    intro l e
    obtain ⟨m, a1, a2⟩ := h1 l e
    obtain ⟨m', b1, b2⟩ := h2 m a2
    exact ⟨m', b1.trans a1, b2⟩
/-- rows in order, small -/
structure Cn (T : Tb) : Prop where
  fix : canon T = T
  ok : RdOk T
  small : ∀ p ∈ T, p.2.natAbs ≤ 45
  len : T.length ≤ 5
theorem Cn.tm {T : Tb} (h : Cn T) : ∀ p ∈ T, Tm p := fun p hp => ⟨h.ok.ok p hp, by
  have := h.small p hp
  unfold Sz
  exact Nat.lt_of_le_of_lt this (by decide)⟩
theorem cn_of {rows : Tb} (h : ∀ p ∈ rows, Tm p ∧ p.2.natAbs ≤ 9) (hl : rows.length ≤ 5) : Cn (canon rows) := by
  have ok := canon_ok (rows := rows) (fun p hp => (h p hp).1) (by omega)
  refine ⟨canon_canon rows, ok, fun p hp => ?_, Nat.le_trans (canon_len rows) hl⟩
  have e : p.2 = tot rows p.1 := by rw [← tot_canon, tot_mem (nodup_canon rows) hp]
  have q := tot_sz (rows := rows) (m := 9) p.1 fun p hp => (h p hp).2
  rw [e]
  omega
theorem cn_neg {T : Tb} (h : Cn T) : Cn (negT T) := by
  have e : canon (negT T) = negT T := by
    have := neg_canon T
    rwa [h.fix] at this
  have ok := rdOk_canon_neg h.ok
  rw [e] at ok
  refine ⟨e, ok, fun p hp => ?_, by unfold negT; rw [List.length_map]; exact h.len⟩
  obtain ⟨q, hq, rfl⟩ := List.mem_map.mp hp
  have := h.small q hq
  show (-q.2).natAbs ≤ 45
  omega
theorem cn_nil : Cn [] := ⟨canon_sorted List.Pairwise.nil List.nodup_nil (fun p hp => nomatch hp), ⟨(fun p hp => nomatch hp), List.nodup_nil, Nat.zero_le _⟩, (fun p hp => nomatch hp), Nat.zero_le _⟩
structure DueR (L : Tb) : Prop where
  ok : ∀ p ∈ L, Tm p
  len : L.length ≤ 500
theorem DueR.tok {L : Tb} (h : DueR L) : ∀ p ∈ L, TmOk p := fun p hp => (h.ok p hp).ok
theorem DueR.rd {L : Tb} (h : DueR L) : RdOk (canon L) := canon_ok h.ok (by have := h.len; omega)
theorem due_app {A B : Tb} (a : Cn A) (b : Cn B) : DueR (A ++ B) := ⟨fun p hp => (List.mem_append.mp hp).elim (a.tm p) (b.tm p), by rw [List.length_append]; have := a.len; have := b.len; omega⟩
theorem due_of {A : Tb} (a : Cn A) : DueR A := ⟨a.tm, by have := a.len; omega⟩
theorem due_mul {A : Tb} {n : Int} (a : Cn A) (hn : n.natAbs ≤ 10 ^ 25) : DueR (mulT n A) := by
  refine ⟨fun p hp => ?_, by unfold mulT; rw [List.length_map]; have := a.len; omega⟩
  obtain ⟨q, hq, rfl⟩ := List.mem_map.mp hp
  have h1 := a.small q hq
  have h2 : (q.2 * n).natAbs ≤ 45 * 10 ^ 25 := by
    rw [Int.natAbs_mul]
    exact Nat.mul_le_mul h1 hn
  have h3 : (45 * 10 ^ 25 : Nat) < 2 ^ 100 := by decide
  have h4 : (45 * 10 ^ 25 : Nat) < 2 ^ 120 := by decide
  exact ⟨⟨(a.ok.ok q hq).key, by unfold Sz; exact Nat.lt_of_le_of_lt h2 h4⟩, by unfold Sz; exact Nat.lt_of_le_of_lt h2 h3⟩
theorem mul_okT {A : Tb} {n : Int} (a : Cn A) (hn : n.natAbs ≤ 10 ^ 25) : ∀ p ∈ A, IntMulOk p.2 n := fun p hp => by
  have h1 := a.small p hp
  exact Sz.mulOk (m := 6) (n := 84) (Nat.lt_of_le_of_lt h1 (by decide)) (Nat.lt_of_le_of_lt hn (by decide)) (by decide) (by decide) (by decide)
theorem dec_comm {A B : Tb} : decide (A = B) = decide (B = A) := by rw [Bool.eq_iff_iff, decide_eq_true_iff, decide_eq_true_iff]; exact eq_comm
set_option maxHeartbeats 1000000 in
theorem pure_law : w_law F_RdAdd F_RdEq F_RdMul F_RdNeg F_RdMul F_RdSub F_any_terms F_draw F_mixed F_of F_lreading F_rso F_lrt (F_same 4) F_lterms (lawE 17) { nx := fun _ => False, rt := fun d => d = .bl true, ex := fun _ _ => False } := by
  unfold w_law
  refine ⟨by decide, ?_⟩
  have z1 : (1 : Nat) ≤ sizeLine := by decide
  have z2 : (2 : Nat) ≤ sizeLine := by decide
  have z3 : (3 : Nat) ≤ sizeLine := by decide
  have z5 : (5 : Nat) ≤ sizeLine := by decide
  have z6 : (6 : Nat) ≤ sizeLine := by decide
  refine forL_inv (fun env => ∃ x0 x2 x3 x4 x5 x9 x10 x11 x12 x13 x14 x15, env = [x0, .v .bag, x2, x3, x4, x5, .no, .no, .no, x9, x10, x11, x12, x13, x14, x15, .no]) _ _ ?_ ?_ ?_
  · intro lap _ env he Kn hk
    obtain ⟨x0, x2, x3, x4, x5, x9, x10, x11, x12, x13, x14, x15, rfl⟩ := he
    have s9 : Sz 98 9 := by unfold Sz; decide
    refine st_set (fun d => ∃ x, Cn x ∧ d = .lst (x.map tmD)) (fun Pk hp => ?_) (fun d hd => ?_)
    · exact ⟨rfl, 5, 9, rfl, by decide, by decide, by decide, s9, fun rows h hl => ⟨rfl, rows, rfl, fun p q => (h p q).1.ok, by omega, hp _ ⟨_, cn_of h (by omega), rfl⟩⟩⟩
    obtain ⟨x, cx, rfl⟩ := hd
    refine st_set (fun d => ∃ x, Cn x ∧ d = .lst (x.map tmD)) (fun Pk hp => ?_) (fun d hd => ?_)
    · exact ⟨rfl, 5, 9, rfl, by decide, by decide, by decide, s9, fun rows h hl => ⟨rfl, rows, rfl, fun p q => (h p q).1.ok, by omega, hp _ ⟨_, cn_of h (by omega), rfl⟩⟩⟩
    obtain ⟨y0, cy0, rfl⟩ := hd
    refine st_set (fun d => d = .lst ((negT x).map tmD)) (fun Pk hp => ?_) (fun d hd => ?_)
    · exact lc_rows x (fun p => (p.1, -p.2)) cx.ok.ok cx.ok.len (fun Pk h => h) (fun n a b hm Pk hk => ⟨z3, hk _ rfl⟩) (hp _ rfl)
    subst hd
    refine st_maybe (fun e => ∃ y, Cn y ∧ e = [x0, .v .bag, .v lap, .v (.lst (x.map tmD)), .v (.lst (y.map tmD)), .v (.lst ((negT x).map tmD)), .no, .no, .no, x9, x10, x11, x12, x13, x14, x15, .no]) (fun Pk hp => ?_) (fun Pk hp => ?_) ⟨y0, cy0, rfl⟩ (fun e he => ?_)
    · exact ⟨rfl, 3, rfl, by decide, by decide, fun v _ _ => hp _⟩
    · refine st_set1 (fun d => ∃ y, Cn y ∧ d = .lst (y.map tmD)) (fun Pk hp => ?_) (fun d hd => ?_)
      · refine ⟨Nat.zero_le _, z3, rfl, of_lst (fun e => nomatch e) (by show 3 < 1000; decide) (mem_c (hp _ ⟨x, cx, rfl⟩) (mem_c (hp _ ⟨_, cn_neg cx, rfl⟩) (mem_c (hp _ ⟨[], cn_nil, rfl⟩) mem_n)))⟩
      · obtain ⟨y, cy, rfl⟩ := hd
        exact hp _ ⟨y, cy, rfl⟩
    obtain ⟨y, cy, rfl⟩ := he
    refine st_set (fun d => d = .lst ((negT y).map tmD)) (fun Pk hp => ?_) (fun d hd => ?_)
    · exact lc_rows y (fun p => (p.1, -p.2)) cy.ok.ok cy.ok.len (fun Pk h => h) (fun n a b hm Pk hk => ⟨z3, hk _ rfl⟩) (hp _ rfl)
    subst hd
    refine st_set (fun d => ∃ n : Int, d = .int n ∧ n.natAbs ≤ 10 ^ 25) (fun Pk hp => ?_) (fun d hd => ?_)
    · refine ⟨⟨by decide, by decide, by decide⟩, z5, rfl, of_lst (fun e => nomatch e) (by show 5 < 1000; decide) ?_⟩
      exact mem_c (hp _ ⟨_, rfl, by decide⟩) (mem_c (hp _ ⟨_, rfl, by decide⟩) (mem_c (hp _ ⟨_, rfl, by decide⟩) (mem_c (hp _ ⟨_, rfl, by decide⟩) (mem_c (hp _ ⟨_, rfl, by decide⟩) mem_n))))
    obtain ⟨n, rfl, hn⟩ := hd
    have mx := mul_okT cx hn
    refine st_set (fun d => d = .lst ((mulT n x).map tmD)) (fun Pk hp => ?_) (fun d hd => ?_)
    · exact lc_rows x (fun p => (p.1, p.2 * n)) cx.ok.ok cx.ok.len (fun Pk h => h) (fun m a b hm Pk hk => ⟨mx _ hm, z3, hk _ rfl⟩) (hp _ rfl)
    subst hd
    have lx := cx.len
    have ly := cy.len
    have lr : ∀ {T : Tb} {P : D → Prop} {R : DX → Prop}, Cn T → P (rdgD T) → F_lreading [.lst (T.map tmD)] P R := fun {T P R} c h => ⟨T, rfl, c.tm, by have := c.len; omega, by rw [c.fix]; exact h⟩
    refine st_par (fun d e => d = rdgD x ∧ e = rdgD y) (fun Pk hp => ⟨rfl, lr cx ⟨rfl, lr cy (hp _ _ ⟨rfl, rfl⟩)⟩⟩) (fun d e hd => ?_)
    obtain ⟨rfl, rfl⟩ := hd
    have dm := due_mul cx hn
    have d1 := due_app cx cy
    have d2 := due_app cx (cn_neg cy)
    have d3 := due_of (cn_neg cx)
    have d6 := due_app cy (cn_neg cx)
    have e1 : x.map tmD ++ y.map tmD = (x ++ y).map tmD := (List.map_append).symm
    have e2 : x.map tmD ++ (negT y).map tmD = (x ++ negT y).map tmD := (List.map_append).symm
    have e6 : y.map tmD ++ (negT x).map tmD = (y ++ negT x).map tmD := (List.map_append).symm
    have llx : (x.map tmD).length = x.length := List.length_map _
    have lly : (y.map tmD).length = y.length := List.length_map _
    have llx' : ((negT x).map tmD).length = x.length := by unfold negT; rw [List.length_map, List.length_map]
    have lly' : ((negT y).map tmD).length = y.length := by unfold negT; rw [List.length_map, List.length_map]
    refine st_set (fun d => d = .lst [.tup [rdgD (canon (x ++ y)), .lst ((x ++ y).map tmD)], .tup [rdgD (canon (x ++ negT y)), .lst ((x ++ negT y).map tmD)], .tup [rdgD (canon (negT x)), .lst ((negT x).map tmD)], .tup [rdgD (canon (mulT n x)), .lst ((mulT n x).map tmD)], .tup [rdgD (canon (mulT n x)), .lst ((mulT n x).map tmD)], .tup [rdgD (canon (y ++ negT x)), .lst ((y ++ negT x).map tmD)]]) (fun Pk hp => ?_) (fun d hd => ?_)
    · refine ⟨⟨rfl, rfl⟩, ⟨_, _, _, _, rfl⟩, x, y, rfl, cx.ok, cy.ok, by omega, ?_⟩
      refine ⟨by rw [llx, lly]; exact big (by omega), z2, ?_⟩
      refine ⟨⟨rfl, rfl⟩, ⟨_, _, _, _, rfl⟩, x, y, rfl, cx.ok, cy.ok, by omega, ?_⟩
      refine ⟨by rw [llx, lly']; exact big (by omega), z2, ?_⟩
      refine ⟨rfl, x, rfl, cx.ok, z2, ?_⟩
      refine ⟨rfl, x, n, rfl, cx.ok, dm.tok, mx, z2, ?_⟩
      refine ⟨rfl, x, n, rfl, cx.ok, dm.tok, mx, z2, ?_⟩
      refine ⟨⟨rfl, rfl⟩, ⟨_, _, _, _, rfl⟩, y, x, rfl, cy.ok, cx.ok, by omega, ?_⟩
      refine ⟨by rw [lly, llx']; exact big (by omega), z2, z6, hp _ ?_⟩
      rw [← e1, ← e2, ← e6]
    subst hd
    refine st_ifNE (fun e => ∃ y14 y15, e = [x0, .v .bag, .v lap, .v (.lst (x.map tmD)), .v (.lst (y.map tmD)), .v (.lst ((negT x).map tmD)), .no, .no, .no, .v (.lst ((negT y).map tmD)), .v (.int n), .v (.lst ((mulT n x).map tmD)), .v (rdgD x), .v (rdgD y), y14, y15, .no]) false (fun Pk hp => t_not (t_test (all_lc [.tup [rdgD (canon (x ++ y)), .lst ((x ++ y).map tmD)], .tup [rdgD (canon (x ++ negT y)), .lst ((x ++ negT y).map tmD)], .tup [rdgD (canon (negT x)), .lst ((negT x).map tmD)], .tup [rdgD (canon (mulT n x)), .lst ((mulT n x).map tmD)], .tup [rdgD (canon (mulT n x)), .lst ((mulT n x).map tmD)], .tup [rdgD (canon (y ++ negT x)), .lst ((y ++ negT x).map tmD)]] (by show (6 : Nat) ≤ 100000; decide) (fun Pk h => h) ?_ (hp _ ⟨_, _, rfl⟩)))) (fun e => nomatch e) (fun _ e he => ?_)
    · intro d hd Pk hk
      have hx' : ∃ L : Tb, d = .tup [rdgD (canon L), .lst (L.map tmD)] ∧ DueR L := by
        revert d
        exact mem_c ⟨_, rfl, d1⟩ (mem_c ⟨_, rfl, d2⟩ (mem_c ⟨_, rfl, d3⟩ (mem_c ⟨_, rfl, dm⟩ (mem_c ⟨_, rfl, dm⟩ (mem_c ⟨_, rfl, d6⟩ mem_n)))))
      obtain ⟨L, rfl, hL⟩ := hx'
      have := hL.len
      exact ⟨rfl, L, rfl, hL.tok, by omega, rfl, canon L, rfl, hL.rd, hk _ rfl⟩
    obtain ⟨y14, y15, rfl⟩ := he
    refine st_ifN false (fun Pk hp => ⟨rfl, x, rfl, cx.ok, ⟨rfl, y, rfl, cy.ok, hp⟩⟩) (fun e => nomatch e) (fun _ => ?_)
    refine st_set (fun d => d = .lst [.bl (decide (x = y)), .bl (decide (x = y)), .bl false, .bl true, .bl false]) (fun Pk hp => ?_) (fun d hd => ?_)
    · refine ⟨⟨rfl, rfl⟩, .inl ⟨x, y, rfl, ?_⟩⟩
      rw [eqIT_canon cx.fix cy.fix]
      refine ⟨⟨rfl, rfl⟩, .inl ⟨y, x, rfl, ?_⟩⟩
      rw [eqIT_canon cy.fix cx.fix, show decide (y = x) = decide (x = y) from dec_comm]
      refine ⟨rfl, x, rfl, cx.ok.ok, cx.ok.len, ⟨⟨rfl, rfl⟩, .inr ⟨x, _, rfl, rfl, ?_⟩⟩⟩
      refine ⟨rfl, x.map tmD, .inl rfl, by rw [llx]; omega, fun l' pl => ?_⟩
      obtain ⟨m, pm, rfl⟩ := perm_map_inv pl.symm x rfl
      have cm : canon m = x := (canon_congr (tot_perm pm)).trans cx.fix
      refine ⟨rfl, m, rfl, fun p hp => cx.tm p (pm.subset hp), by rw [pm.length_eq]; omega, ?_⟩
      rw [cm]
      refine ⟨⟨rfl, rfl⟩, .inl ⟨x, x, rfl, ?_⟩⟩
      rw [eqIT_canon cx.fix cx.fix, decide_eq_true rfl]
      exact ⟨⟨rfl, rfl⟩, .inr ⟨x, _, rfl, rfl, z5, hp _ rfl⟩⟩
    subst hd
    refine st_if1 false (fun Pk hp => ?_) (fun e => nomatch e) (fun _ => ?_)
    · refine ⟨_, _, toP_rows x, toP_rows y, rows_shaped cx.ok.ok, rows_shaped cy.ok.ok, ?_⟩
      rw [eqv_rows]
      refine ⟨_, _, toP_rows x, toP_rows y, rows_shaped cx.ok.ok, rows_shaped cy.ok.ok, ?_⟩
      rw [eqv_rows]
      exact ⟨z5, rfl, _, rfl, rfl, hp⟩
    · exact hk _ ⟨_, _, _, _, _, _, _, _, _, _, _, _, rfl⟩
  · exact ⟨_, _, _, _, _, _, _, _, _, _, _, _, rfl⟩
  · intro env he
    exact rfl
end Pu
namespace Pu
open PySem L2 PySem.Spec PyProof.Rows
section
variable {P : Program} {w : World} {K : PySem.W.Frag} {mg : Str → Option Value} {base : Heap}
theorem all_same (T : Txt P w K mg) : ∀ n : Nat, FnOk P w K mg base (L2.CX P w) (n + 1) T.f_law_same T.fd_law_same ps_law_same (spP K mg 2 (F_same n))
  | 0 => ok_law_same T (Nat.le_refl 0) fn_false (pure_law_same 0 _ (fun m h => nomatch h))
  | n + 1 => ok_law_same T (Nat.le_refl (n + 1)) (all_same T n) (pure_law_same (n + 1) _ (fun m h => by cases h; rfl))
theorem all_ok (T : Txt P w K mg) : FnOk P w K mg base (L2.CX P w) 40 T.f_law T.fd_law ps_law (spLaw K) := by
  have G_law_draw : FnOk P w K mg base (L2.CX P w) 1 T.f_law_draw T.fd_law_draw ps_law_draw (spP K mg 2 F_draw) := ok_law_draw T   
  have G_law_of : FnOk P w K mg base (L2.CX P w) 2 T.f_law_of T.fd_law_of ps_law_of (spP K mg 2 F_of) := ok_law_of (k := 1) T (k_law_draw := 1) (by decide) G_law_draw pure_law_of
  have G_law_mixed : FnOk P w K mg base (L2.CX P w) 2 T.f_law_mixed T.fd_law_mixed ps_law_mixed (spP K mg 2 F_mixed) := ok_law_mixed (k := 1) T (k_law_draw := 1) (by decide) G_law_draw pure_law_mixed
  have G_law_same := all_same (P := P) (w := w) (base := base) T 4
  have G_is_integer_value : FnOk P w K mg base (L2.CX P w) 1 T.f_is_integer_value T.fd_is_integer_value ps_is_integer_value (spP K mg 1 F_ivX) := ok_is_integer_value (k := 0) T   pure_ivX
  have G_is_name : FnOk P w K mg base (L2.CX P w) 1 T.f_is_name T.fd_is_name ps_is_name (spP K mg 1 F_is_name) := ok_is_name (k := 0) T   pure_is_name
  have G_is_term : FnOk P w K mg base (L2.CX P w) 2 T.f_is_term T.fd_is_term ps_is_term (spP K mg 1 F_is_term) := ok_is_term (k := 1) T (k_is_integer_value := 1) (by decide) (k_is_name := 1) (by decide) G_is_integer_value G_is_name pure_is_term
  have G_term_text : FnOk P w K mg base (L2.CX P w) 1 T.f_term_text T.fd_term_text ps_term_text (spP K mg 3 F_tt) := ok_term_text (k := 0) T   pure_term_text
  have G_ReadingX_initX : FnR P w K mg base (L2.CX P w) 3 T.f_ReadingX_initX (spIS K mg "Reading" F_RdInit) := ok_ReadingX_initX (k := 2) T (by decide) (k_is_term := 2) (by decide) G_is_term pure_RdInit
  have G_Reading_terms : FnOk P w K mg base (L2.CX P w) 1 T.f_Reading_terms T.fd_Reading_terms ps_Reading_terms (spPN K mg 1 F_RdTerms) := ok_Reading_terms (k := 0) T   pure_RdTerms
  have G_Reading_text : FnOk P w K mg base (L2.CX P w) 2 T.f_Reading_text T.fd_Reading_text ps_Reading_text (spP K mg 1 F_RdText) := ok_Reading_text (k := 1) T (k_Reading_terms := 1) (by decide) (k_term_text := 1) (by decide) G_Reading_terms G_term_text pure_RdText
  have G_ReadingX_addX : FnOk P w K mg base (L2.CX P w) 5 T.f_ReadingX_addX T.fd_ReadingX_addX ps_ReadingX_addX (spP K mg 2 F_RdAdd) := ok_ReadingX_addX (k := 4) T (k_ReadingX_initX := 3) (by decide) (k_Reading_terms := 1) (by decide) G_ReadingX_initX G_Reading_terms pure_RdAdd
  have G_ReadingX_negX : FnOk P w K mg base (L2.CX P w) 5 T.f_ReadingX_negX T.fd_ReadingX_negX ps_ReadingX_negX (spP K mg 1 F_RdNeg) := ok_ReadingX_negX (k := 4) T (k_ReadingX_initX := 3) (by decide) (k_Reading_terms := 1) (by decide) G_ReadingX_initX G_Reading_terms pure_RdNeg
  have G_ReadingX_subX : FnOk P w K mg base (L2.CX P w) 6 T.f_ReadingX_subX T.fd_ReadingX_subX ps_ReadingX_subX (spP K mg 2 F_RdSub) := ok_ReadingX_subX (k := 5) T (k_ReadingX_addX := 5) (by decide) (k_ReadingX_negX := 5) (by decide) G_ReadingX_addX G_ReadingX_negX pure_RdSub
  have G_ReadingX_mulX : FnOk P w K mg base (L2.CX P w) 5 T.f_ReadingX_mulX T.fd_ReadingX_mulX ps_ReadingX_mulX (spP K mg 2 F_RdMul) := ok_ReadingX_mulX (k := 4) T (k_ReadingX_initX := 3) (by decide) (k_Reading_terms := 1) (by decide) (k_is_integer_value := 1) (by decide) G_ReadingX_initX G_Reading_terms G_is_integer_value pure_RdMul
  have G_ReadingX_rmulX : FnOk P w K mg base (L2.CX P w) 6 T.f_ReadingX_rmulX T.fd_ReadingX_rmulX ps_ReadingX_rmulX (spP K mg 2 F_RdMul) := ok_ReadingX_rmulX (k := 5) T (k_ReadingX_mulX := 5) (by decide) G_ReadingX_mulX pure_RdRmul
  have G_ReadingX_eqX : FnOk P w K mg base (L2.CX P w) 1 T.f_ReadingX_eqX T.fd_ReadingX_eqX ps_ReadingX_eqX (spP K mg 2 F_RdEq) := ok_ReadingX_eqX (k := 0) T   pure_RdEq
  have G_ReadingX_lenX : FnOk P w K mg base (L2.CX P w) 1 T.f_ReadingX_lenX T.fd_ReadingX_lenX ps_ReadingX_lenX (spP K mg 1 F_RdLen) := ok_ReadingX_lenX (k := 0) T   pure_RdLen
  have G_ReadingX_boolX : FnOk P w K mg base (L2.CX P w) 1 T.f_ReadingX_boolX T.fd_ReadingX_boolX ps_ReadingX_boolX (spP K mg 1 F_RdBool) := ok_ReadingX_boolX (k := 0) T   pure_RdBool
  have G_law_terms : FnOk P w K mg base (L2.CX P w) 1 T.f_law_terms T.fd_law_terms ps_law_terms (spP K mg 1 F_lterms) := ok_law_terms (k := 0) T   pure_law_terms
  have G_law_term_text : FnOk P w K mg base (L2.CX P w) 1 T.f_law_term_text T.fd_law_term_text ps_law_term_text (spP K mg 3 F_tt) := ok_law_term_text (k := 0) T   pure_law_term_text
  have G_law_reading_text : FnOk P w K mg base (L2.CX P w) 2 T.f_law_reading_text T.fd_law_reading_text ps_law_reading_text (spP K mg 1 F_lrt) := ok_law_reading_text (k := 1) T (k_law_term_text := 1) (by decide) G_law_term_text pure_law_reading_text
  have G_law_reading : FnOk P w K mg base (L2.CX P w) 6 T.f_law_reading T.fd_law_reading ps_law_reading (spP K mg 1 F_lreading) := ok_law_reading (k := 5) T (k_ReadingX_addX := 5) (by decide) (k_ReadingX_initX := 3) (by decide) G_ReadingX_addX G_ReadingX_initX pure_law_reading
  have G_law_reading_so : FnOk P w K mg base (L2.CX P w) 6 T.f_law_reading_so T.fd_law_reading_so ps_law_reading_so (spP K mg 2 F_rso) := ok_law_reading_so (k := 5) T (k_ReadingX_boolX := 1) (by decide) (k_ReadingX_lenX := 1) (by decide) (k_Reading_terms := 1) (by decide) (k_Reading_text := 2) (by decide) (k_law_reading_text := 2) (by decide) (k_law_same := 5) (by decide) G_ReadingX_boolX G_ReadingX_lenX G_Reading_terms G_Reading_text G_law_reading_text G_law_same pure_law_reading_so
  have G_law_any_terms : FnOk P w K mg base (L2.CX P w) 3 T.f_law_any_terms T.fd_law_any_terms ps_law_any_terms (spP K mg 3 F_any_terms) := ok_law_any_terms (k := 2) T (k_law_draw := 1) (by decide) (k_law_of := 2) (by decide) G_law_draw G_law_of pure_any_terms
  exact ok_law (k := 39) (by decide) T (k_ReadingX_addX := 5) (by decide) (k_ReadingX_eqX := 1) (by decide) (k_ReadingX_mulX := 5) (by decide) (k_ReadingX_negX := 5) (by decide) (k_ReadingX_rmulX := 6) (by decide) (k_ReadingX_subX := 6) (by decide) (k_law_any_terms := 3) (by decide) (k_law_draw := 1) (by decide) (k_law_mixed := 2) (by decide) (k_law_of := 2) (by decide) (k_law_reading := 6) (by decide) (k_law_reading_so := 6) (by decide) (k_law_reading_text := 2) (by decide) (k_law_same := 5) (by decide) (k_law_terms := 1) (by decide) G_ReadingX_addX G_ReadingX_eqX G_ReadingX_mulX G_ReadingX_negX G_ReadingX_rmulX G_ReadingX_subX G_law_any_terms G_law_draw G_law_mixed G_law_of G_law_reading G_law_reading_so G_law_reading_text G_law_same G_law_terms pure_law
end
abbrev sX_InvalidReading : Stmt := inClass (top 4) 0
theorem tx_InvalidReading : XText "InvalidReading" "InvalidReading.__init__" sX_InvalidReading ["given"] := ⟨fun _ _ _ => .mk (.cons .nil) (fun _ => rfl) (fun _ => rfl), ⟨rfl, rfl, rfl, by decide +kernel, rfl, rfl, by decide +kernel, by decide +kernel, by decide +kernel⟩, ⟨_, rfl, rfl⟩, fun _ _ _ _ _ _ _ us hl => (match us, hl with | [_, _], _ => rfl), fun _ _ _ _ _ _ _ e ws hl => (match ws, hl with | [_], _ => rfl)⟩
set_option maxHeartbeats 4000000 in
theorem txt_mk {P : Program} {w : World} {K : PySem.W.Frag} {h : Heap} {mg : Str → Option Value} {fa : Addr} (X : K.In h) (G : h.Ns mainGlobals mg) (hfa : mg "law" = some (.ref fa))
    {od0 an0 : Option Addr} {sl0 : Array (Option Value)} {oc0 kV0 dc0 pm0 cd0 ct0 : Value} {f0 : Addr}
    {od1 an1 : Option Addr} {sl1 : Array (Option Value)} {oc1 kV1 dc1 pm1 cd1 ct1 : Value} {f1 : Addr}
    {od2 an2 : Option Addr} {sl2 : Array (Option Value)} {oc2 kV2 dc2 pm2 cd2 ct2 : Value} {f2 : Addr}
    {od3 an3 : Option Addr} {sl3 : Array (Option Value)} {oc3 kV3 dc3 pm3 cd3 ct3 : Value} {f3 : Addr}
    {od4 an4 : Option Addr} {sl4 : Array (Option Value)} {oc4 kV4 dc4 pm4 cd4 ct4 : Value} {f4 : Addr}
    {od5 an5 : Option Addr} {sl5 : Array (Option Value)} {oc5 kV5 dc5 pm5 cd5 ct5 : Value} {f5 : Addr}
    {od6 an6 : Option Addr} {sl6 : Array (Option Value)} {oc6 kV6 dc6 pm6 cd6 ct6 : Value} {f6 : Addr}
    {od7 an7 : Option Addr} {sl7 : Array (Option Value)} {oc7 kV7 dc7 pm7 cd7 ct7 : Value} {f7 : Addr}
    {od8 an8 : Option Addr} {sl8 : Array (Option Value)} {oc8 kV8 dc8 pm8 cd8 ct8 : Value} {f8 : Addr}
    {od9 an9 : Option Addr} {sl9 : Array (Option Value)} {oc9 kV9 dc9 pm9 cd9 ct9 : Value} {f9 : Addr}
    {od10 an10 : Option Addr} {sl10 : Array (Option Value)} {oc10 kV10 dc10 pm10 cd10 ct10 : Value} {f10 : Addr}
    {od11 an11 : Option Addr} {sl11 : Array (Option Value)} {oc11 kV11 dc11 pm11 cd11 ct11 : Value} {f11 : Addr}
    {od12 an12 : Option Addr} {sl12 : Array (Option Value)} {oc12 kV12 dc12 pm12 cd12 ct12 : Value} {f12 : Addr}
    {od13 an13 : Option Addr} {sl13 : Array (Option Value)} {oc13 kV13 dc13 pm13 cd13 ct13 : Value} {f13 : Addr}
    {od14 an14 : Option Addr} {sl14 : Array (Option Value)} {oc14 kV14 dc14 pm14 cd14 ct14 : Value} {f14 : Addr}
    {od15 an15 : Option Addr} {sl15 : Array (Option Value)} {oc15 kV15 dc15 pm15 cd15 ct15 : Value} {f15 : Addr}
    {od16 an16 : Option Addr} {sl16 : Array (Option Value)} {oc16 kV16 dc16 pm16 cd16 ct16 : Value} {f16 : Addr}
    {od17 an17 : Option Addr} {sl17 : Array (Option Value)} {oc17 kV17 dc17 pm17 cd17 ct17 : Value} {f17 : Addr}
    {od18 an18 : Option Addr} {sl18 : Array (Option Value)} {oc18 kV18 dc18 pm18 cd18 ct18 : Value} {f18 : Addr}
    {od19 an19 : Option Addr} {sl19 : Array (Option Value)} {oc19 kV19 dc19 pm19 cd19 ct19 : Value} {f19 : Addr}
    {od20 an20 : Option Addr} {sl20 : Array (Option Value)} {oc20 kV20 dc20 pm20 cd20 ct20 : Value} {f20 : Addr}
    {od21 an21 : Option Addr} {sl21 : Array (Option Value)} {oc21 kV21 dc21 pm21 cd21 ct21 : Value} {f21 : Addr}
    {od22 an22 : Option Addr} {sl22 : Array (Option Value)} {oc22 kV22 dc22 pm22 cd22 ct22 : Value} {f22 : Addr}
    {od23 an23 : Option Addr} {sl23 : Array (Option Value)} {oc23 kV23 dc23 pm23 cd23 ct23 : Value} {f23 : Addr}
    {od24 an24 : Option Addr} {sl24 : Array (Option Value)} {oc24 kV24 dc24 pm24 cd24 ct24 : Value} {f24 : Addr}
    {od25 an25 : Option Addr} {sl25 : Array (Option Value)} {oc25 kV25 dc25 pm25 cd25 ct25 : Value} {f25 : Addr}
    {od26 an26 : Option Addr} {sl26 : Array (Option Value)} {oc26 kV26 dc26 pm26 cd26 ct26 : Value} {f26 : Addr}
    {C_Reading : Addr} (aC_Reading : PySem.W.nsIn K mainGlobals "Reading" = some (some (.ref C_Reading)))
    (pg_Reading : PySem.W.plainGet K C_Reading Str.empty = true)
    (hd_Reading : PySem.W.hasDictIn K C_Reading = true)
    (po_Reading : PySem.W.plainOver K C_Reading = true)
    (sa_Reading : PySem.W.findIn K (.ref C_Reading) "__setattr__" = some (some (.builtin "object.__setattr__")))
    (ha_Reading : PySem.W.findIn K (.ref C_Reading) "__class__" = some (some (.builtin "object.__class__")))
    (hn_Reading : PySem.W.specialIn K (.builtin "object.__class__") "__get__" = some (some (.builtin "getset_descriptor.__get__")))
    (ht_Reading : PySem.W.takesIn K (.builtin "object.__class__") = some true)
    (hm_Reading : PySem.W.mroIn K C_Reading (.type "object") = some true)
    {qc_Reading : ClassData} (kcc_Reading : PySem.W.clsIn K C_Reading = some qc_Reading)
    (kct_Reading : PySem.W.typeIn K (.ref C_Reading) = some (.type "type"))
    (tint_Reading : PySem.W.mroIn K C_Reading (.type "int") = some false)
    (tstr_Reading : PySem.W.mroIn K C_Reading (.type "str") = some false)
    (tbool_Reading : PySem.W.mroIn K C_Reading (.type "bool") = some false)
    (tlist_Reading : PySem.W.mroIn K C_Reading (.type "list") = some false)
    (ttuple_Reading : PySem.W.mroIn K C_Reading (.type "tuple") = some false)
    (tdict_Reading : PySem.W.mroIn K C_Reading (.type "dict") = some false)
    (na_Reading_amounts : PySem.W.findIn K (.ref C_Reading) "amounts" = some none)
    (a0 : PySem.W.nsIn K mainGlobals "_law_bag" = some (some (.ref f0))) (l0 : K.lookup f0 = some ⟨oc0, od0, .func (PySem.W.fnOf "_law_bag" "_law_bag" (defArgs s_law_bag) (defBody s_law_bag) (defScope s_law_bag) .none kV0 dc0 pm0 an0 cd0 ct0), sl0⟩) (c0 : PySem.W.codeIn K cd0 "_law_bag" = true) (k0 : PySem.W.keepIn K (.ref f0) = true)
    (a1 : PySem.W.nsIn K mainGlobals "_law_draw" = some (some (.ref f1))) (l1 : K.lookup f1 = some ⟨oc1, od1, .func (PySem.W.fnOf "_law_draw" "_law_draw" (defArgs s_law_draw) (defBody s_law_draw) (defScope s_law_draw) .none kV1 dc1 pm1 an1 cd1 ct1), sl1⟩) (c1 : PySem.W.codeIn K cd1 "_law_draw" = true) (k1 : PySem.W.keepIn K (.ref f1) = true)
    (a2 : PySem.W.nsIn K mainGlobals "_law_of" = some (some (.ref f2))) (l2 : K.lookup f2 = some ⟨oc2, od2, .func (PySem.W.fnOf "_law_of" "_law_of" (defArgs s_law_of) (defBody s_law_of) (defScope s_law_of) .none kV2 dc2 pm2 an2 cd2 ct2), sl2⟩) (c2 : PySem.W.codeIn K cd2 "_law_of" = true) (k2 : PySem.W.keepIn K (.ref f2) = true)
    (a3 : PySem.W.nsIn K mainGlobals "_law_mixed" = some (some (.ref f3))) (l3 : K.lookup f3 = some ⟨oc3, od3, .func (PySem.W.fnOf "_law_mixed" "_law_mixed" (defArgs s_law_mixed) (defBody s_law_mixed) (defScope s_law_mixed) .none kV3 dc3 pm3 an3 cd3 ct3), sl3⟩) (c3 : PySem.W.codeIn K cd3 "_law_mixed" = true) (k3 : PySem.W.keepIn K (.ref f3) = true)
    (a4 : PySem.W.nsIn K mainGlobals "_law_same" = some (some (.ref f4))) (l4 : K.lookup f4 = some ⟨oc4, od4, .func (PySem.W.fnOf "_law_same" "_law_same" (defArgs s_law_same) (defBody s_law_same) (defScope s_law_same) .none kV4 dc4 pm4 an4 cd4 ct4), sl4⟩) (c4 : PySem.W.codeIn K cd4 "_law_same" = true) (k4 : PySem.W.keepIn K (.ref f4) = true)
    (a5 : PySem.W.nsIn K mainGlobals "is_integer_value" = some (some (.ref f5))) (l5 : K.lookup f5 = some ⟨oc5, od5, .func (PySem.W.fnOf "is_integer_value" "is_integer_value" (defArgs s_is_integer_value) (defBody s_is_integer_value) (defScope s_is_integer_value) .none kV5 dc5 pm5 an5 cd5 ct5), sl5⟩) (c5 : PySem.W.codeIn K cd5 "is_integer_value" = true) (k5 : PySem.W.keepIn K (.ref f5) = true)
    (a6 : PySem.W.nsIn K mainGlobals "is_name" = some (some (.ref f6))) (l6 : K.lookup f6 = some ⟨oc6, od6, .func (PySem.W.fnOf "is_name" "is_name" (defArgs s_is_name) (defBody s_is_name) (defScope s_is_name) .none kV6 dc6 pm6 an6 cd6 ct6), sl6⟩) (c6 : PySem.W.codeIn K cd6 "is_name" = true) (k6 : PySem.W.keepIn K (.ref f6) = true)
    (a7 : PySem.W.nsIn K mainGlobals "is_term" = some (some (.ref f7))) (l7 : K.lookup f7 = some ⟨oc7, od7, .func (PySem.W.fnOf "is_term" "is_term" (defArgs s_is_term) (defBody s_is_term) (defScope s_is_term) .none kV7 dc7 pm7 an7 cd7 ct7), sl7⟩) (c7 : PySem.W.codeIn K cd7 "is_term" = true) (k7 : PySem.W.keepIn K (.ref f7) = true)
    (a8 : PySem.W.nsIn K mainGlobals "term_text" = some (some (.ref f8))) (l8 : K.lookup f8 = some ⟨oc8, od8, .func (PySem.W.fnOf "term_text" "term_text" (defArgs s_term_text) (defBody s_term_text) (defScope s_term_text) .none kV8 dc8 pm8 an8 cd8 ct8), sl8⟩) (c8 : PySem.W.codeIn K cd8 "term_text" = true) (k8 : PySem.W.keepIn K (.ref f8) = true)
    (a9 : PySem.W.findIn K (.ref C_Reading) "__init__" = some (some (.ref f9))) (i9 : PySem.W.isFn K (.ref f9) = true)
    (l9 : K.lookup f9 = some ⟨oc9, od9, .func (PySem.W.fnOf "__init__" "Reading.__init__" (defArgs s_ReadingX_initX) (defBody s_ReadingX_initX) (defScope s_ReadingX_initX) .none kV9 dc9 pm9 an9 cd9 ct9), sl9⟩) (c9 : PySem.W.codeIn K cd9 "Reading.__init__" = true) (k9 : PySem.W.keepIn K (.ref f9) = true)
    (a10 : PySem.W.findIn K (.ref C_Reading) "terms" = some (some (.ref f10))) (i10 : PySem.W.isFn K (.ref f10) = true)
    (l10 : K.lookup f10 = some ⟨oc10, od10, .func (PySem.W.fnOf "terms" "Reading.terms" (defArgs s_Reading_terms) (defBody s_Reading_terms) (defScope s_Reading_terms) .none kV10 dc10 pm10 an10 cd10 ct10), sl10⟩) (c10 : PySem.W.codeIn K cd10 "Reading.terms" = true) (k10 : PySem.W.keepIn K (.ref f10) = true)
    {p_Reading_text : Addr} {rs_Reading_text : List Value} (ppa_Reading_text : PySem.W.findIn K (.ref C_Reading) "text" = some (some (.ref p_Reading_text))) (ppg_Reading_text : PySem.W.specialIn K (.ref p_Reading_text) "__get__" = some (some (.builtin "property.__get__"))) (ppt_Reading_text : PySem.W.takesIn K (.ref p_Reading_text) = some true) (ppr_Reading_text : PySem.W.recIn K p_Reading_text "property" = some (.ref f11 :: rs_Reading_text))
    (l11 : K.lookup f11 = some ⟨oc11, od11, .func (PySem.W.fnOf "text" "Reading.text" (defArgs s_Reading_text) (defBody s_Reading_text) (defScope s_Reading_text) .none kV11 dc11 pm11 an11 cd11 ct11), sl11⟩) (c11 : PySem.W.codeIn K cd11 "Reading.text" = true) (k11 : PySem.W.keepIn K (.ref f11) = true)
    (a12 : PySem.W.findIn K (.ref C_Reading) "__add__" = some (some (.ref f12))) (i12 : PySem.W.isFn K (.ref f12) = true)
    (l12 : K.lookup f12 = some ⟨oc12, od12, .func (PySem.W.fnOf "__add__" "Reading.__add__" (defArgs s_ReadingX_addX) (defBody s_ReadingX_addX) (defScope s_ReadingX_addX) .none kV12 dc12 pm12 an12 cd12 ct12), sl12⟩) (c12 : PySem.W.codeIn K cd12 "Reading.__add__" = true) (k12 : PySem.W.keepIn K (.ref f12) = true)
    (a13 : PySem.W.findIn K (.ref C_Reading) "__neg__" = some (some (.ref f13))) (i13 : PySem.W.isFn K (.ref f13) = true)
    (l13 : K.lookup f13 = some ⟨oc13, od13, .func (PySem.W.fnOf "__neg__" "Reading.__neg__" (defArgs s_ReadingX_negX) (defBody s_ReadingX_negX) (defScope s_ReadingX_negX) .none kV13 dc13 pm13 an13 cd13 ct13), sl13⟩) (c13 : PySem.W.codeIn K cd13 "Reading.__neg__" = true) (k13 : PySem.W.keepIn K (.ref f13) = true)
    (a14 : PySem.W.findIn K (.ref C_Reading) "__sub__" = some (some (.ref f14))) (i14 : PySem.W.isFn K (.ref f14) = true)
    (l14 : K.lookup f14 = some ⟨oc14, od14, .func (PySem.W.fnOf "__sub__" "Reading.__sub__" (defArgs s_ReadingX_subX) (defBody s_ReadingX_subX) (defScope s_ReadingX_subX) .none kV14 dc14 pm14 an14 cd14 ct14), sl14⟩) (c14 : PySem.W.codeIn K cd14 "Reading.__sub__" = true) (k14 : PySem.W.keepIn K (.ref f14) = true)
    (a15 : PySem.W.findIn K (.ref C_Reading) "__mul__" = some (some (.ref f15))) (i15 : PySem.W.isFn K (.ref f15) = true)
    (l15 : K.lookup f15 = some ⟨oc15, od15, .func (PySem.W.fnOf "__mul__" "Reading.__mul__" (defArgs s_ReadingX_mulX) (defBody s_ReadingX_mulX) (defScope s_ReadingX_mulX) .none kV15 dc15 pm15 an15 cd15 ct15), sl15⟩) (c15 : PySem.W.codeIn K cd15 "Reading.__mul__" = true) (k15 : PySem.W.keepIn K (.ref f15) = true)
    (a16 : PySem.W.findIn K (.ref C_Reading) "__rmul__" = some (some (.ref f16))) (i16 : PySem.W.isFn K (.ref f16) = true)
    (l16 : K.lookup f16 = some ⟨oc16, od16, .func (PySem.W.fnOf "__rmul__" "Reading.__rmul__" (defArgs s_ReadingX_rmulX) (defBody s_ReadingX_rmulX) (defScope s_ReadingX_rmulX) .none kV16 dc16 pm16 an16 cd16 ct16), sl16⟩) (c16 : PySem.W.codeIn K cd16 "Reading.__rmul__" = true) (k16 : PySem.W.keepIn K (.ref f16) = true)
    (a17 : PySem.W.findIn K (.ref C_Reading) "__eq__" = some (some (.ref f17))) (i17 : PySem.W.isFn K (.ref f17) = true)
    (l17 : K.lookup f17 = some ⟨oc17, od17, .func (PySem.W.fnOf "__eq__" "Reading.__eq__" (defArgs s_ReadingX_eqX) (defBody s_ReadingX_eqX) (defScope s_ReadingX_eqX) .none kV17 dc17 pm17 an17 cd17 ct17), sl17⟩) (c17 : PySem.W.codeIn K cd17 "Reading.__eq__" = true) (k17 : PySem.W.keepIn K (.ref f17) = true)
    (a18 : PySem.W.findIn K (.ref C_Reading) "__len__" = some (some (.ref f18))) (i18 : PySem.W.isFn K (.ref f18) = true)
    (l18 : K.lookup f18 = some ⟨oc18, od18, .func (PySem.W.fnOf "__len__" "Reading.__len__" (defArgs s_ReadingX_lenX) (defBody s_ReadingX_lenX) (defScope s_ReadingX_lenX) .none kV18 dc18 pm18 an18 cd18 ct18), sl18⟩) (c18 : PySem.W.codeIn K cd18 "Reading.__len__" = true) (k18 : PySem.W.keepIn K (.ref f18) = true)
    (a19 : PySem.W.findIn K (.ref C_Reading) "__bool__" = some (some (.ref f19))) (i19 : PySem.W.isFn K (.ref f19) = true)
    (l19 : K.lookup f19 = some ⟨oc19, od19, .func (PySem.W.fnOf "__bool__" "Reading.__bool__" (defArgs s_ReadingX_boolX) (defBody s_ReadingX_boolX) (defScope s_ReadingX_boolX) .none kV19 dc19 pm19 an19 cd19 ct19), sl19⟩) (c19 : PySem.W.codeIn K cd19 "Reading.__bool__" = true) (k19 : PySem.W.keepIn K (.ref f19) = true)
    (a20 : PySem.W.nsIn K mainGlobals "_law_terms" = some (some (.ref f20))) (l20 : K.lookup f20 = some ⟨oc20, od20, .func (PySem.W.fnOf "_law_terms" "_law_terms" (defArgs s_law_terms) (defBody s_law_terms) (defScope s_law_terms) .none kV20 dc20 pm20 an20 cd20 ct20), sl20⟩) (c20 : PySem.W.codeIn K cd20 "_law_terms" = true) (k20 : PySem.W.keepIn K (.ref f20) = true)
    (a21 : PySem.W.nsIn K mainGlobals "_law_term_text" = some (some (.ref f21))) (l21 : K.lookup f21 = some ⟨oc21, od21, .func (PySem.W.fnOf "_law_term_text" "_law_term_text" (defArgs s_law_term_text) (defBody s_law_term_text) (defScope s_law_term_text) .none kV21 dc21 pm21 an21 cd21 ct21), sl21⟩) (c21 : PySem.W.codeIn K cd21 "_law_term_text" = true) (k21 : PySem.W.keepIn K (.ref f21) = true)
    (a22 : PySem.W.nsIn K mainGlobals "_law_reading_text" = some (some (.ref f22))) (l22 : K.lookup f22 = some ⟨oc22, od22, .func (PySem.W.fnOf "_law_reading_text" "_law_reading_text" (defArgs s_law_reading_text) (defBody s_law_reading_text) (defScope s_law_reading_text) .none kV22 dc22 pm22 an22 cd22 ct22), sl22⟩) (c22 : PySem.W.codeIn K cd22 "_law_reading_text" = true) (k22 : PySem.W.keepIn K (.ref f22) = true)
    (a23 : PySem.W.nsIn K mainGlobals "_law_reading" = some (some (.ref f23))) (l23 : K.lookup f23 = some ⟨oc23, od23, .func (PySem.W.fnOf "_law_reading" "_law_reading" (defArgs s_law_reading) (defBody s_law_reading) (defScope s_law_reading) .none kV23 dc23 pm23 an23 cd23 ct23), sl23⟩) (c23 : PySem.W.codeIn K cd23 "_law_reading" = true) (k23 : PySem.W.keepIn K (.ref f23) = true)
    (a24 : PySem.W.nsIn K mainGlobals "_law_reading_so" = some (some (.ref f24))) (l24 : K.lookup f24 = some ⟨oc24, od24, .func (PySem.W.fnOf "_law_reading_so" "_law_reading_so" (defArgs s_law_reading_so) (defBody s_law_reading_so) (defScope s_law_reading_so) .none kV24 dc24 pm24 an24 cd24 ct24), sl24⟩) (c24 : PySem.W.codeIn K cd24 "_law_reading_so" = true) (k24 : PySem.W.keepIn K (.ref f24) = true)
    (a25 : PySem.W.nsIn K mainGlobals "_law_any_terms" = some (some (.ref f25))) (l25 : K.lookup f25 = some ⟨oc25, od25, .func (PySem.W.fnOf "_law_any_terms" "_law_any_terms" (defArgs s_law_any_terms) (defBody s_law_any_terms) (defScope s_law_any_terms) .none kV25 dc25 pm25 an25 cd25 ct25), sl25⟩) (c25 : PySem.W.codeIn K cd25 "_law_any_terms" = true) (k25 : PySem.W.keepIn K (.ref f25) = true)
    (a26 : PySem.W.nsIn K mainGlobals "law" = some (some (.ref f26))) (l26 : K.lookup f26 = some ⟨oc26, od26, .func (PySem.W.fnOf "law" "law" (defArgs s_law) (defBody s_law) (defScope s_law) .none kV26 dc26 pm26 an26 cd26 ct26), sl26⟩) (c26 : PySem.W.codeIn K cd26 "law" = true) (k26 : PySem.W.keepIn K (.ref f26) = true)
    (mkk_Reading : PySem.W.makesIn K C_Reading = true) (mkp_Reading : PySem.W.keepIn K (.ref C_Reading) = true)
    (sf_Reading_add : PySem.W.selfFirst K C_Reading = true)
    (sf_Reading_mul : PySem.W.selfFirst K C_Reading = true) {of_Reading_mul og_Reading_mul : Option Value} (of1_Reading_mul : PySem.W.findIn K (.type "int") (PySem.dunder "mul") = some of_Reading_mul) (of2_Reading_mul : PySem.W.findIn K (.type "int") (PySem.dunderR "mul") = some og_Reading_mul)
    (sf_Reading_sub : PySem.W.selfFirst K C_Reading = true)
    (sup_n : PySem.W.nsIn K mainGlobals "super" = some none) (top_n : (P.main.scope.names.lookup ("super" : Str)).isSome = false) (opq_n : PySem.W.nsIn K cStatics "thirdparty.any" = some none)
    {C_InvalidReading : Addr} (aC_InvalidReading : PySem.W.nsIn K mainGlobals "InvalidReading" = some (some (.ref C_InvalidReading)))
    (xh_InvalidReading : XH K P PuExc.bVE "InvalidReading" C_InvalidReading ["given"])
    (z_int : PySem.W.nsIn K mainGlobals "int" = some none)
    (z_list : PySem.W.nsIn K mainGlobals "list" = some none)
    (z_len : PySem.W.nsIn K mainGlobals "len" = some none)
    (z_range : PySem.W.nsIn K mainGlobals "range" = some none)
    (z_isinstance : PySem.W.nsIn K mainGlobals "isinstance" = some none)
    (z_tuple : PySem.W.nsIn K mainGlobals "tuple" = some none)
    (z_zip : PySem.W.nsIn K mainGlobals "zip" = some none)
    (z_all : PySem.W.nsIn K mainGlobals "all" = some none)
    (z_bool : PySem.W.nsIn K mainGlobals "bool" = some none)
    (z_str : PySem.W.nsIn K mainGlobals "str" = some none)
    (z_sorted : PySem.W.nsIn K mainGlobals "sorted" = some none)
    (z_abs : PySem.W.nsIn K mainGlobals "abs" = some none)
    {t_SMALL : Tok} (y_SMALL : PySem.W.nsIn K mainGlobals "SMALL" = some (some (.str "abcdefghijklmnopqrstuvwxyz" t_SMALL)))
    {t_STREAM : Tok} (y_STREAM : PySem.W.nsIn K mainGlobals "STREAM" = some (some (.str "stream" t_STREAM)))
    {t_LEVEL : Tok} (y_LEVEL : PySem.W.nsIn K mainGlobals "LEVEL" = some (some (.str "level" t_LEVEL))) :
    ∃ T : Txt P w K mg, T.f_law = fa ∧ (∀ (s : Shared) (u : Value), BindsTo s T.fd_law ⟨[u], []⟩ [("_law_script", u)]) := by
  obtain ⟨fX_InvalidReading, fdX_InvalidReading, x_InvalidReading, xc_InvalidReading, kbx_InvalidReading⟩ := xh_InvalidReading
  have e := hfa.symm.trans (PySem.W.mg_of X G a26)
  cases e
  have F0 := fun_mk (st := s_law_bag) l0 c0 k0
  have F1 := fun_mk (st := s_law_draw) l1 c1 k1
  have F2 := fun_mk (st := s_law_of) l2 c2 k2
  have F3 := fun_mk (st := s_law_mixed) l3 c3 k3
  have F4 := fun_mk (st := s_law_same) l4 c4 k4
  have F5 := fun_mk (st := s_is_integer_value) l5 c5 k5
  have F6 := fun_mk (st := s_is_name) l6 c6 k6
  have F7 := fun_mk (st := s_is_term) l7 c7 k7
  have F8 := fun_mk (st := s_term_text) l8 c8 k8
  have F9 : FunS K "__init__" "Reading.__init__" s_ReadingX_initX f9 "terms" := ⟨⟨_, _, _, _, _, _, _, _, _, l9, c9⟩, fun _ _ _ _ _ _ _ => rfl, fun _ _ _ _ _ _ _ _ _ => rfl⟩
  have F10 := fun_mk (st := s_Reading_terms) l10 c10 k10
  have F11 := fun_mk (st := s_Reading_text) l11 c11 k11
  have F12 := fun_mk (st := s_ReadingX_addX) l12 c12 k12
  have F13 := fun_mk (st := s_ReadingX_negX) l13 c13 k13
  have F14 := fun_mk (st := s_ReadingX_subX) l14 c14 k14
  have F15 := fun_mk (st := s_ReadingX_mulX) l15 c15 k15
  have F16 := fun_mk (st := s_ReadingX_rmulX) l16 c16 k16
  have F17 := fun_mk (st := s_ReadingX_eqX) l17 c17 k17
  have F18 := fun_mk (st := s_ReadingX_lenX) l18 c18 k18
  have F19 := fun_mk (st := s_ReadingX_boolX) l19 c19 k19
  have F20 := fun_mk (st := s_law_terms) l20 c20 k20
  have F21 := fun_mk (st := s_law_term_text) l21 c21 k21
  have F22 := fun_mk (st := s_law_reading_text) l22 c22 k22
  have F23 := fun_mk (st := s_law_reading) l23 c23 k23
  have F24 := fun_mk (st := s_law_reading_so) l24 c24 k24
  have F25 := fun_mk (st := s_law_any_terms) l25 c25 k25
  have F26 := fun_mk (st := s_law) l26 c26 k26
  exact ⟨{ C_InvalidReading := C_InvalidReading, g_InvalidReading := PySem.W.mg_of X G aC_InvalidReading, fX_InvalidReading := fX_InvalidReading, fdX_InvalidReading := fdX_InvalidReading, x_InvalidReading := x_InvalidReading, xc_InvalidReading := xc_InvalidReading, f_law_bag := _, fd_law_bag := _, fn_law_bag := F0, g_law_bag := PySem.W.mg_of X G a0, bd_law_bag := F0.binds (fun _ _ _ _ _ _ us hl => match us, hl with | [_], _ => rfl), f_law_draw := _, fd_law_draw := _, fn_law_draw := F1, g_law_draw := PySem.W.mg_of X G a1, bd_law_draw := F1.binds (fun _ _ _ _ _ _ us hl => match us, hl with | [_, _], _ => rfl), f_law_of := _, fd_law_of := _, fn_law_of := F2, g_law_of := PySem.W.mg_of X G a2, bd_law_of := F2.binds (fun _ _ _ _ _ _ us hl => match us, hl with | [_, _], _ => rfl), f_law_mixed := _, fd_law_mixed := _, fn_law_mixed := F3, g_law_mixed := PySem.W.mg_of X G a3, bd_law_mixed := F3.binds (fun _ _ _ _ _ _ us hl => match us, hl with | [_, _], _ => rfl), f_law_same := _, fd_law_same := _, fn_law_same := F4, g_law_same := PySem.W.mg_of X G a4, bd_law_same := F4.binds (fun _ _ _ _ _ _ us hl => match us, hl with | [_, _], _ => rfl), f_is_integer_value := _, fd_is_integer_value := _, fn_is_integer_value := F5, g_is_integer_value := PySem.W.mg_of X G a5, bd_is_integer_value := F5.binds (fun _ _ _ _ _ _ us hl => match us, hl with | [_], _ => rfl), f_is_name := _, fd_is_name := _, fn_is_name := F6, g_is_name := PySem.W.mg_of X G a6, bd_is_name := F6.binds (fun _ _ _ _ _ _ us hl => match us, hl with | [_], _ => rfl), f_is_term := _, fd_is_term := _, fn_is_term := F7, g_is_term := PySem.W.mg_of X G a7, bd_is_term := F7.binds (fun _ _ _ _ _ _ us hl => match us, hl with | [_], _ => rfl), f_term_text := _, fd_term_text := _, fn_term_text := F8, g_term_text := PySem.W.mg_of X G a8, bd_term_text := F8.binds (fun _ _ _ _ _ _ us hl => match us, hl with | [_, _, _], _ => rfl), f_ReadingX_initX := _, fn_ReadingX_initX := F9, f_Reading_terms := _, fd_Reading_terms := _, fn_Reading_terms := F10, bd_Reading_terms := F10.binds (fun _ _ _ _ _ _ us hl => match us, hl with | [_], _ => rfl), f_Reading_text := _, fd_Reading_text := _, fn_Reading_text := F11, bd_Reading_text := F11.binds (fun _ _ _ _ _ _ us hl => match us, hl with | [_], _ => rfl), f_ReadingX_addX := _, fd_ReadingX_addX := _, fn_ReadingX_addX := F12, bd_ReadingX_addX := F12.binds (fun _ _ _ _ _ _ us hl => match us, hl with | [_, _], _ => rfl), f_ReadingX_negX := _, fd_ReadingX_negX := _, fn_ReadingX_negX := F13, bd_ReadingX_negX := F13.binds (fun _ _ _ _ _ _ us hl => match us, hl with | [_], _ => rfl), f_ReadingX_subX := _, fd_ReadingX_subX := _, fn_ReadingX_subX := F14, bd_ReadingX_subX := F14.binds (fun _ _ _ _ _ _ us hl => match us, hl with | [_, _], _ => rfl), f_ReadingX_mulX := _, fd_ReadingX_mulX := _, fn_ReadingX_mulX := F15, bd_ReadingX_mulX := F15.binds (fun _ _ _ _ _ _ us hl => match us, hl with | [_, _], _ => rfl), f_ReadingX_rmulX := _, fd_ReadingX_rmulX := _, fn_ReadingX_rmulX := F16, bd_ReadingX_rmulX := F16.binds (fun _ _ _ _ _ _ us hl => match us, hl with | [_, _], _ => rfl), f_ReadingX_eqX := _, fd_ReadingX_eqX := _, fn_ReadingX_eqX := F17, bd_ReadingX_eqX := F17.binds (fun _ _ _ _ _ _ us hl => match us, hl with | [_, _], _ => rfl), f_ReadingX_lenX := _, fd_ReadingX_lenX := _, fn_ReadingX_lenX := F18, bd_ReadingX_lenX := F18.binds (fun _ _ _ _ _ _ us hl => match us, hl with | [_], _ => rfl), f_ReadingX_boolX := _, fd_ReadingX_boolX := _, fn_ReadingX_boolX := F19, bd_ReadingX_boolX := F19.binds (fun _ _ _ _ _ _ us hl => match us, hl with | [_], _ => rfl), f_law_terms := _, fd_law_terms := _, fn_law_terms := F20, g_law_terms := PySem.W.mg_of X G a20, bd_law_terms := F20.binds (fun _ _ _ _ _ _ us hl => match us, hl with | [_], _ => rfl), f_law_term_text := _, fd_law_term_text := _, fn_law_term_text := F21, g_law_term_text := PySem.W.mg_of X G a21, bd_law_term_text := F21.binds (fun _ _ _ _ _ _ us hl => match us, hl with | [_, _, _], _ => rfl), f_law_reading_text := _, fd_law_reading_text := _, fn_law_reading_text := F22, g_law_reading_text := PySem.W.mg_of X G a22, bd_law_reading_text := F22.binds (fun _ _ _ _ _ _ us hl => match us, hl with | [_], _ => rfl), f_law_reading := _, fd_law_reading := _, fn_law_reading := F23, g_law_reading := PySem.W.mg_of X G a23, bd_law_reading := F23.binds (fun _ _ _ _ _ _ us hl => match us, hl with | [_], _ => rfl), f_law_reading_so := _, fd_law_reading_so := _, fn_law_reading_so := F24, g_law_reading_so := PySem.W.mg_of X G a24, bd_law_reading_so := F24.binds (fun _ _ _ _ _ _ us hl => match us, hl with | [_, _], _ => rfl), f_law_any_terms := _, fd_law_any_terms := _, fn_law_any_terms := F25, g_law_any_terms := PySem.W.mg_of X G a25, bd_law_any_terms := F25.binds (fun _ _ _ _ _ _ us hl => match us, hl with | [_, _, _], _ => rfl), f_law := _, fd_law := _, fn_law := F26, g_law := PySem.W.mg_of X G a26, bd_law := F26.binds (fun _ _ _ _ _ _ us hl => match us, hl with | [_], _ => rfl), C_Reading := C_Reading, g_Reading := PySem.W.mg_of X G aC_Reading, ci_Reading := ⟨⟨pg_Reading, hd_Reading, po_Reading, sa_Reading⟩, ha_Reading, hn_Reading, ht_Reading, hm_Reading, (by rw [kcc_Reading, kct_Reading]; rfl), by intro T hT; simp only [List.mem_cons, List.not_mem_nil, or_false] at hT; rcases hT with rfl | rfl | rfl | rfl | rfl | rfl; exact tint_Reading; exact tstr_Reading; exact tbool_Reading; exact tlist_Reading; exact ttuple_Reading; exact tdict_Reading⟩, na_Reading_amounts := na_Reading_amounts, me_Reading_terms := ⟨a10, i10, k10⟩, mk_Reading := ⟨mkk_Reading, a9, i9, mkp_Reading⟩, un_Reading_neg := ⟨a13, i13⟩, bz_Reading_add := ⟨sf_Reading_add, a12, i12⟩, bf_Reading_mul := ⟨sf_Reading_mul, a15, i15, a16, i16, ⟨_, of1_Reading_mul⟩, ⟨_, of2_Reading_mul⟩⟩, un_Reading_bool := ⟨a19, i19⟩, un_Reading_len := ⟨a18, i18⟩, pa_Reading_text := p_Reading_text, pp_Reading_text := ⟨ppa_Reading_text, ppg_Reading_text, ppt_Reading_text, ⟨_, ppr_Reading_text⟩⟩, eq_Reading := ⟨a17, i17⟩, bz_Reading_sub := ⟨sf_Reading_sub, a14, i14⟩, b_int := PySem.W.mg_none_of X G z_int, b_list := PySem.W.mg_none_of X G z_list, b_len := PySem.W.mg_none_of X G z_len, b_range := PySem.W.mg_none_of X G z_range, b_isinstance := PySem.W.mg_none_of X G z_isinstance, b_tuple := PySem.W.mg_none_of X G z_tuple, b_zip := PySem.W.mg_none_of X G z_zip, b_all := PySem.W.mg_none_of X G z_all, b_bool := PySem.W.mg_none_of X G z_bool, b_str := PySem.W.mg_none_of X G z_str, b_sorted := PySem.W.mg_none_of X G z_sorted, b_abs := PySem.W.mg_none_of X G z_abs, c_SMALL := ⟨_, PySem.W.mg_of X G y_SMALL, ⟨_, rfl⟩⟩, c_STREAM := ⟨_, PySem.W.mg_of X G y_STREAM, ⟨_, rfl⟩⟩, c_LEVEL := ⟨_, PySem.W.mg_of X G y_LEVEL, ⟨_, rfl⟩⟩ }, rfl, fun s u => .of_eq rfl⟩
end Pu
open PySem PySem.W PyProof.Rows in
set_option maxRecDepth 100000 in
set_option maxHeartbeats 0 in
theorem PySem.Challenge.cw_partswing_k37_readings_added_holds : PySem.Challenge.rw_partswing_k37_readings_added.Holds := by
  w_on; o_law; k_head; (case hw => w_witness2)
  k_fill
  refine L2.walk_ofB (n := 63) (k := 40) (x := "_law_script") (CX := fun w => L2.CX (PySem.Challenge.rw_partswing_k37_readings_added).prog w) (sp := fun w => Pu.spLaw _) rfl (by decide) rfl ⟨rfl, by decide, by decide⟩ (fun w h Y => PySem.W.kIn_of Y) ?F (fun _ _ a ns hl _ _ hS => ⟨a, ns, rfl, hS, fun _ => rfl⟩) (fun w H s e s' z => Pu.hd_law H s e s' z)
  case F =>
    intro w mg fa h KX G hmg
    replace hmg : mg "law" = some (.ref fa) := hmg
    obtain ⟨T, e, hb⟩ : ∃ T : Pu.Txt (PySem.Challenge.rw_partswing_k37_readings_added).prog w _ mg, T.f_law = fa ∧ ∀ (s : Shared) (u : Value), BindsTo s T.fd_law ⟨[u], []⟩ [("_law_script", u)] := by
      refine' Pu.txt_mk KX G hmg ?aC_Reading ?pg_Reading ?hd_Reading ?po_Reading ?sa_Reading ?ha_Reading ?hn_Reading ?ht_Reading ?hm_Reading ?kcc_Reading ?kct_Reading ?tint_Reading ?tstr_Reading ?tbool_Reading ?tlist_Reading ?ttuple_Reading ?tdict_Reading ?na_Reading_amounts ?a0 ?l0 ?c0 ?k0 ?a1 ?l1 ?c1 ?k1 ?a2 ?l2 ?c2 ?k2 ?a3 ?l3 ?c3 ?k3 ?a4 ?l4 ?c4 ?k4 ?a5 ?l5 ?c5 ?k5 ?a6 ?l6 ?c6 ?k6 ?a7 ?l7 ?c7 ?k7 ?a8 ?l8 ?c8 ?k8 ?a9 ?i9 ?l9 ?c9 ?k9 ?a10 ?i10 ?l10 ?c10 ?k10 ?ppa_Reading_text ?ppg_Reading_text ?ppt_Reading_text ?ppr_Reading_text ?l11 ?c11 ?k11 ?a12 ?i12 ?l12 ?c12 ?k12 ?a13 ?i13 ?l13 ?c13 ?k13 ?a14 ?i14 ?l14 ?c14 ?k14 ?a15 ?i15 ?l15 ?c15 ?k15 ?a16 ?i16 ?l16 ?c16 ?k16 ?a17 ?i17 ?l17 ?c17 ?k17 ?a18 ?i18 ?l18 ?c18 ?k18 ?a19 ?i19 ?l19 ?c19 ?k19 ?a20 ?l20 ?c20 ?k20 ?a21 ?l21 ?c21 ?k21 ?a22 ?l22 ?c22 ?k22 ?a23 ?l23 ?c23 ?k23 ?a24 ?l24 ?c24 ?k24 ?a25 ?l25 ?c25 ?k25 ?a26 ?l26 ?c26 ?k26 ?mkk_Reading ?mkp_Reading ?sf_Reading_add ?sf_Reading_mul ?of1_Reading_mul ?of2_Reading_mul ?sf_Reading_sub ?sup_n ?top_n ?opq_n ?aC_InvalidReading ?xh_InvalidReading ?z_int ?z_list ?z_len ?z_range ?z_isinstance ?z_tuple ?z_zip ?z_all ?z_bool ?z_str ?z_sorted ?z_abs ?y_SMALL ?y_STREAM ?y_LEVEL
      (case aC_Reading => k_is)
      (case pg_Reading => k_is)
      (case hd_Reading => k_is)
      (case po_Reading => k_is)
      (case sa_Reading => k_is)
      (case ha_Reading => k_is)
      (case hn_Reading => k_is)
      (case ht_Reading => k_is)
      (case hm_Reading => k_is)
      (case kcc_Reading => k_is)
      (case kct_Reading => k_is)
      (case tint_Reading => k_is)
      (case tstr_Reading => k_is)
      (case tbool_Reading => k_is)
      (case tlist_Reading => k_is)
      (case ttuple_Reading => k_is)
      (case tdict_Reading => k_is)
      (case na_Reading_amounts => k_is)
      (case a0 => k_is)
      (case l0 => k_is)
      (case c0 => k_is)
      (case k0 => k_is)
      (case a1 => k_is)
      (case l1 => k_is)
      (case c1 => k_is)
      (case k1 => k_is)
      (case a2 => k_is)
      (case l2 => k_is)
      (case c2 => k_is)
      (case k2 => k_is)
      (case a3 => k_is)
      (case l3 => k_is)
      (case c3 => k_is)
      (case k3 => k_is)
      (case a4 => k_is)
      (case l4 => k_is)
      (case c4 => k_is)
      (case k4 => k_is)
      (case a5 => k_is)
      (case l5 => k_is)
      (case c5 => k_is)
      (case k5 => k_is)
      (case a6 => k_is)
      (case l6 => k_is)
      (case c6 => k_is)
      (case k6 => k_is)
      (case a7 => k_is)
      (case l7 => k_is)
      (case c7 => k_is)
      (case k7 => k_is)
      (case a8 => k_is)
      (case l8 => k_is)
      (case c8 => k_is)
      (case k8 => k_is)
      (case a9 => k_is)
      (case i9 => k_is)
      (case l9 => k_is)
      (case c9 => k_is)
      (case k9 => k_is)
      (case a10 => k_is)
      (case i10 => k_is)
      (case l10 => k_is)
      (case c10 => k_is)
      (case k10 => k_is)
      (case ppa_Reading_text => k_is)
      (case ppg_Reading_text => k_is)
      (case ppt_Reading_text => k_is)
      (case ppr_Reading_text => k_is)
      (case l11 => k_is)
      (case c11 => k_is)
      (case k11 => k_is)
      (case a12 => k_is)
      (case i12 => k_is)
      (case l12 => k_is)
      (case c12 => k_is)
      (case k12 => k_is)
      (case a13 => k_is)
      (case i13 => k_is)
      (case l13 => k_is)
      (case c13 => k_is)
      (case k13 => k_is)
      (case a14 => k_is)
      (case i14 => k_is)
      (case l14 => k_is)
      (case c14 => k_is)
      (case k14 => k_is)
      (case a15 => k_is)
      (case i15 => k_is)
      (case l15 => k_is)
      (case c15 => k_is)
      (case k15 => k_is)
      (case a16 => k_is)
      (case i16 => k_is)
      (case l16 => k_is)
      (case c16 => k_is)
      (case k16 => k_is)
      (case a17 => k_is)
      (case i17 => k_is)
      (case l17 => k_is)
      (case c17 => k_is)
      (case k17 => k_is)
      (case a18 => k_is)
      (case i18 => k_is)
      (case l18 => k_is)
      (case c18 => k_is)
      (case k18 => k_is)
      (case a19 => k_is)
      (case i19 => k_is)
      (case l19 => k_is)
      (case c19 => k_is)
      (case k19 => k_is)
      (case a20 => k_is)
      (case l20 => k_is)
      (case c20 => k_is)
      (case k20 => k_is)
      (case a21 => k_is)
      (case l21 => k_is)
      (case c21 => k_is)
      (case k21 => k_is)
      (case a22 => k_is)
      (case l22 => k_is)
      (case c22 => k_is)
      (case k22 => k_is)
      (case a23 => k_is)
      (case l23 => k_is)
      (case c23 => k_is)
      (case k23 => k_is)
      (case a24 => k_is)
      (case l24 => k_is)
      (case c24 => k_is)
      (case k24 => k_is)
      (case a25 => k_is)
      (case l25 => k_is)
      (case c25 => k_is)
      (case k25 => k_is)
      (case a26 => k_is)
      (case l26 => k_is)
      (case c26 => k_is)
      (case k26 => k_is)
      (case mkk_Reading => k_is)
      (case mkp_Reading => k_is)
      (case sf_Reading_add => k_is)
      (case sf_Reading_mul => k_is)
      (case of1_Reading_mul => k_is)
      (case of2_Reading_mul => k_is)
      (case sf_Reading_sub => k_is)
      (case sup_n => k_is)
      (case top_n => kernel_rfl)
      (case opq_n => k_is)
      (case aC_InvalidReading => k_is)
      (case xh_InvalidReading => (try clear hmg); (refine' Pu.xh_mk PuExc.bVE_ok Pu.tx_InvalidReading ?qlC ?qrf ?qsu ?qsb ?qse ?qsa ?qna ?qeb ?qty ?qkC ?qiC ?qtI ?qlf ?qcf ?qlc ?qvf ?qff ?qlx ?qga ?qgg ?qhd ?qhc ?qhm ?qsup ?qtop ?qopq ?qhn ?qht; (case qlC => first | k_is | fail "fill lC of InvalidReading"); (case qrf => first | rfl | fail "fill rf of InvalidReading"); (case qsu => first | ks_is | fail "fill su of InvalidReading"); (case qsb => first | k_is | fail "fill sb of InvalidReading"); (case qse => first | k_is | fail "fill se of InvalidReading"); (case qsa => first | k_is | fail "fill sa of InvalidReading"); (case qna => first | (intro f hf; simp only [List.mem_cons, List.not_mem_nil, or_false] at hf; rcases hf with rfl | rfl <;> k_is) | fail "fill na of InvalidReading"); (case qeb => first | k_is | fail "fill eb of InvalidReading"); (case qty => first | k_is | fail "fill ty of InvalidReading"); (case qkC => first | k_is | fail "fill kC of InvalidReading"); (case qiC => first | k_is | fail "fill iC of InvalidReading"); (case qtI => first | k_is | fail "fill tI of InvalidReading"); (case qlf => first | k_is | fail "fill lf of InvalidReading"); (case qcf => first | k_is | fail "fill cf of InvalidReading"); (case qlc => first | k_is | fail "fill lc of InvalidReading"); (case qvf => first | rfl | fail "fill vf of InvalidReading"); (case qff => first | kernel_rfl | fail "fill ff of InvalidReading"); (case qlx => first | k_is | fail "fill lx of InvalidReading"); (case qga => first | k_is | fail "fill ga of InvalidReading"); (case qgg => first | k_is | fail "fill gg of InvalidReading"); (case qhd => first | k_is | fail "fill hd of InvalidReading"); (case qhc => first | k_is | fail "fill hc of InvalidReading"); (case qhm => first | k_is | fail "fill hm of InvalidReading"); (case qsup => first | k_is | fail "fill sup of InvalidReading"); (case qtop => first | kernel_rfl | fail "fill top of InvalidReading"); (case qopq => first | k_is | fail "fill opq of InvalidReading"); (case qhn => first | k_is | fail "fill hn of InvalidReading"); (case qht => first | k_is | fail "fill ht of InvalidReading")))
      (case z_int => k_is)
      (case z_list => k_is)
      (case z_len => k_is)
      (case z_range => k_is)
      (case z_isinstance => k_is)
      (case z_tuple => k_is)
      (case z_zip => k_is)
      (case z_all => k_is)
      (case z_bool => k_is)
      (case z_str => k_is)
      (case z_sorted => k_is)
      (case z_abs => k_is)
      (case y_SMALL => k_is)
      (case y_STREAM => k_is)
      (case y_LEVEL => k_is)
    subst e
    exact ⟨T.fd_law, hb, fun base _ _ => Pu.all_ok T⟩
#print axioms PySem.Challenge.cw_partswing_k37_readings_added_holds
