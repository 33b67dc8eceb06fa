import PyProof.Rows.All
import Wide.All
import OpenK.AllK
import Wide.FinOn
import HandS.ForMost
import HandS.ForExc
import HandS.Evl
import HandS.IsInst
import HandS.Lambda
import HandS.ExcValue
import HandS.TupAny
import HandS.TupMul
import HandS.Style
import HandS.Deep
import HandS.Wide
import HandS.Flow
import HandS.RaiseMore
import HandS.More
import HandS.Defaults
import HandS.WordsExc
import HandS.CallSlots
import HandS.MakeKw
import HandS.MakeKwOnly
import HandS.Zip
import HandS.Rev
import KE.KExcIs
import HandS.Dict
import HandS.ExcInit
import HandS.ExcField
import HandS.ExcIs
import HandS.ExcSuper
import KE.KExcSuper
import PySem.Challenge.RW_roundsheld_k00_errors_keep_their_fields
set_option Elab.async false
set_option linter.all false
set_option maxRecDepth 100000
set_option maxHeartbeats 4000000
/-! VsA: values told as data (D), the relation of tracked values to data, environments of data, readings by functions on environments. -/
namespace Vs
open PySem PySem.Spec PyProof.Rows L2 Evl

/-- data: what a value tells, without addresses -/
inductive D where
  | non | bl (b : Bool) | int (i : Int) | str (x : Str) | scr (ns : List Int)
  | lst (xs : List D) | tup (xs : List D) | dic (kvs : List (Key × D)) | obj (c : Str) (fs : List (Str × D))
  | exn (c : Str) (fs : List (Str × D))
/-- an exception of an own class, its fields -/
structure Xn where
  c : Str
  fs : List (Str × D)
/-- what a call of a closure gives -/
inductive Ot where
  | ok (d : D) | exc (x : Xn) | no
/-- what a slot holds: data that nobody changes any more; a list of the frame's own (k: the number of the parameter that brought it); the instance that this frame makes; a closure by what it gives -/
inductive T where
  | fz (d : D) | ol (k : Option Nat) (ds : List D) | oo (c : Str) (fs : List (Str × D)) | th (g : List D → Ot)
abbrev Env := List (Option T)
/-- an exception object that is held -/
def XO (C d a : Addr) : HO := .ext fun h => ∃ (oe : Obj) (vs : Array Value), h.get? a = some oe ∧ Zc (.ref C) (some d) oe ∧ oe.data = .fields vs
inductive R (α : Type) where
  | ok (a : α) (env : Vs.Env) | exc (x : Xn) (env : Vs.Env) | no
abbrev M (α : Type) := Env → R α

/-- the classes that are told; the tables of code objects of the defs that make lambdas -/
structure Cm where
  c : Str → Option Addr := fun _ => none
  x : Str → Option Addr := fun _ => none
  sub : Str → Str → Bool := fun _ _ => false
  tb : List (Addr × Str) := []
section
variable (K : PySem.W.Frag) (cm : Cm)
mutual
inductive Rp (G : Hp) : V → D → Prop
  | non : Rp G .non .non
  | bl (b : Bool) : Rp G (.bl b) (.bl b)
  | int (i : Int) : Rp G (.int i) (.int i)
  | str (x : Str) : Rp G (.str x) (.str x)
  | scr {a : Addr} {ns : List Int} : SqL K G a (ns.map V.int) → Rp G (.ref a) (.scr ns)
  | lst {a : Addr} {vs : List V} {ds : List D} : G a = some (.lst vs) → Rps G vs ds → Rp G (.ref a) (.lst ds)
  | tup {a : Addr} {vs : List V} {ds : List D} : SqT K G a vs → Rps G vs ds → Rp G (.ref a) (.tup ds)
  | dic {a : Addr} {ks : List (Key × V)} {ds : List (Key × D)} : G a = some (.dK ks) → ks.map (·.1) = ds.map (·.1) → Rps G (ks.map (·.2)) (ds.map (·.2)) → Rp G (.ref a) (.dic ds)
  | obj {a dx C : Addr} {c : Str} {fs : List (Str × V)} {ds : List (Str × D)} : cm.c c = some C → G a = some (.ins C dx fs) → G dx = some (.own a) → fs.map (·.1) = ds.map (·.1) → Rps G (fs.map (·.2)) (ds.map (·.2)) → Rp G (.ref a) (.obj c ds)
  | exn {a d C : Addr} {c : Str} {fs : List (Str × V)} {ds : List (Str × D)} : cm.x c = some C → G a = some (XO C d a) → G d = some (.xd fs) → fs.map (·.1) = ds.map (·.1) → Rps G (fs.map (·.2)) (ds.map (·.2)) → Rp G (.ref a) (.exn c ds)
  | exn0 {a C : Addr} {c : Str} : cm.x c = some C → G a = some (ExO (.ref C) a) → Rp G (.ref a) (.exn c [])
inductive Rps (G : Hp) : List V → List D → Prop
  | nil : Rps G [] []
  | cons {v : V} {vs : List V} {d : D} {ds : List D} : Rp G v d → Rps G vs ds → Rps G (v :: vs) (d :: ds)
end
end
section
variable {K : PySem.W.Frag} {cm : Cm} {G G' : Hp}
theorem Rp.mono (e : Ex G G') {v : V} {d : D} (h : Rp K cm G v d) : Rp K cm G' v d :=
  Rp.rec (motive_1 := fun v d _ => Rp K cm G' v d) (motive_2 := fun vs ds _ => Rps K cm G' vs ds) .non .bl .int .str (fun h1 => .scr (ex_l e h1)) (fun h1 _ i => .lst (e _ _ h1) i) (fun h1 _ i => .tup (ex_t e h1) i) (fun h1 h2 _ i => .dic (e _ _ h1) h2 i)
    (fun h0 h1 h2 h3 _ i => .obj h0 (e _ _ h1) (e _ _ h2) h3 i) (fun h0 h1 h2 h3 _ i => .exn h0 (e _ _ h1) (e _ _ h2) h3 i) (fun h0 h1 => .exn0 h0 (e _ _ h1)) .nil (fun _ _ i j => .cons i j) h
theorem Rps.mono (e : Ex G G') {vs : List V} {ds : List D} (h : Rps K cm G vs ds) : Rps K cm G' vs ds :=
  Rps.rec (motive_1 := fun v d _ => Rp K cm G' v d) (motive_2 := fun vs ds _ => Rps K cm G' vs ds) .non .bl .int .str (fun h1 => .scr (ex_l e h1)) (fun h1 _ i => .lst (e _ _ h1) i) (fun h1 _ i => .tup (ex_t e h1) i) (fun h1 h2 _ i => .dic (e _ _ h1) h2 i)
    (fun h0 h1 h2 h3 _ i => .obj h0 (e _ _ h1) (e _ _ h2) h3 i) (fun h0 h1 h2 h3 _ i => .exn h0 (e _ _ h1) (e _ _ h2) h3 i) (fun h0 h1 => .exn0 h0 (e _ _ h1)) .nil (fun _ _ i j => .cons i j) h
theorem Rps.length {vs : List V} {ds : List D} (h : Rps K cm G vs ds) : vs.length = ds.length := by
  induction ds generalizing vs with
  | nil => cases h; rfl
  | cons d ds ih => cases h with | cons _ h2 => simp [ih h2]
theorem Rps.get {vs : List V} {ds : List D} (h : Rps K cm G vs ds) : ∀ {i : Nat} {d : D}, ds[i]? = some d → ∃ v, vs[i]? = some v ∧ Rp K cm G v d := by
  induction ds generalizing vs with
  | nil => intro i d e; simp at e
  | cons d0 ds ih =>
    intro i d e
    cases h with
    | cons h1 h2 =>
      cases i with
      | zero => simp at e; subst e; exact ⟨_, by simp, h1⟩
      | succ i =>
        obtain ⟨v, e1, r⟩ := ih h2 (i := i) (d := d) (by simpa using e)
        exact ⟨v, by simpa using e1, r⟩
theorem Rps.getV {vs : List V} {ds : List D} (h : Rps K cm G vs ds) : ∀ {i : Nat} {v : V}, vs[i]? = some v → ∃ d, ds[i]? = some d ∧ Rp K cm G v d := by
  induction ds generalizing vs with
  | nil => intro i d e; cases h; simp at e
  | cons d0 ds ih =>
    intro i v e
    cases h with
    | cons h1 h2 =>
      cases i with
      | zero => simp at e; subst e; exact ⟨_, by simp, h1⟩
      | succ i =>
        obtain ⟨d, e1, r⟩ := ih h2 (i := i) (v := v) (by simpa using e)
        exact ⟨d, by simpa using e1, r⟩
theorem Rps.append {vs ws : List V} {ds es : List D} (h : Rps K cm G vs ds) (h' : Rps K cm G ws es) : Rps K cm G (vs ++ ws) (ds ++ es) := by
  induction ds generalizing vs with
  | nil => cases h; exact h'
  | cons d ds ih => cases h with | cons h1 h2 => exact .cons h1 (ih h2)
theorem Rps.set {vs : List V} {ds : List D} (h : Rps K cm G vs ds) {v : V} {d : D} (r : Rp K cm G v d) (i : Nat) : Rps K cm G (vs.set i v) (ds.set i d) := by
  induction ds generalizing vs i with
  | nil => cases h; exact .nil
  | cons d0 ds ih =>
    cases h with
    | cons h1 h2 =>
      cases i with
      | zero => exact .cons r h2
      | succ i => exact .cons h1 (ih h2 i)
theorem Rps.take {vs : List V} {ds : List D} (h : Rps K cm G vs ds) (n : Nat) : Rps K cm G (vs.take n) (ds.take n) := by
  induction ds generalizing vs n with
  | nil => cases h; simp; exact .nil
  | cons d0 ds ih =>
    cases h with
    | cons h1 h2 =>
      cases n with
      | zero => exact .nil
      | succ n => exact .cons h1 (ih h2 n)
theorem Rps.drop {vs : List V} {ds : List D} (h : Rps K cm G vs ds) (n : Nat) : Rps K cm G (vs.drop n) (ds.drop n) := by
  induction ds generalizing vs n with
  | nil => cases h; simp; exact .nil
  | cons d0 ds ih =>
    cases n with
    | zero => exact h
    | succ n => cases h with | cons h1 h2 => exact ih h2 n
theorem Rps.reverse {vs : List V} {ds : List D} (h : Rps K cm G vs ds) : Rps K cm G vs.reverse ds.reverse := by
  induction ds generalizing vs with
  | nil => cases h; exact .nil
  | cons d0 ds ih =>
    cases h with
    | cons h1 h2 => simp only [List.reverse_cons]; exact (ih h2).append (.cons h1 .nil)
theorem Rps.ints {vs : List V} : ∀ {ns : List Int}, Rps K cm G vs (ns.map D.int) → vs = ns.map V.int
  | [], h => by cases h; rfl
  | n :: ns, h => by
    cases h with
    | cons h1 h2 => cases h1; rw [Rps.ints h2]; rfl
theorem Rps.of_ints : ∀ (ns : List Int), Rps K cm G (ns.map V.int) (ns.map D.int)
  | [] => .nil
  | n :: ns => .cons (.int n) (Rps.of_ints ns)
end

/-- what is fixed while a body runs: objects of others that it leaves alone, the lists that its parameters brought, the wish about exceptions -/
structure Base where
  prot : Addr → Prop
  H0 : Hp
  ins : Nat → Option Addr
  W : WX
  slf : Option (Addr × Addr) := none
  tt : Addr → Prop := fun _ => False
  th : Hp → Addr → (List D → Ot) → Prop := fun _ _ _ => False

/-- the tables of code objects: each code object that one tells bears the table's name, and nobody changes it -/
def Tb (T : List (Addr × Str)) (G H : Hp) : Prop := ∀ p ∈ T, ∃ ps : Array Value, H p.1 = some (.tbl ps) ∧ TriplesOk ps.toList ∧ ∀ (pos : Pos) (cv : Value), codeAmong pos ps.toList = some cv → ∃ c, cv = .ref c ∧ G c = some (LamX.CodeO c p.2)
section
variable (K : PySem.W.Frag) (cm : Cm)
def TRel (B : Base) (G H : Hp) (v : V) : T → Prop
  | .fz d => Rp K cm G v d
  | .ol k ds => ∃ a vs, v = .ref a ∧ H a = some (.lst vs) ∧ G a = none ∧ Rps K cm G vs ds ∧ ¬ B.prot a ∧ ∀ j, k = some j → B.ins j = some a
  | .oo c fs => ∃ a C dx vs, v = .ref a ∧ B.slf = some (a, dx) ∧ cm.c c = some C ∧ H a = some (.ins C dx vs) ∧ H dx = some (.own a) ∧ G a = none ∧ G dx = none ∧ vs.map (·.1) = fs.map (·.1) ∧ Rps K cm G (vs.map (·.2)) (fs.map (·.2)) ∧ ¬ B.prot a ∧ ¬ B.prot dx
  | .th g => ∃ f G0, v = .ref f ∧ B.th G0 f g ∧ Ex G0 G
structure Rel (B : Base) (G H : Hp) (σ : L2.St) (env : Vs.Env) : Prop where
  ex : Ex G H
  len : σ.length = env.length
  sl : ∀ (i : Nat) (t : T), env[i]? = some (some t) → ∃ v, σ[i]? = some (some v) ∧ TRel K cm B G H v t
  ap : ∀ (i j : Nat) (a : Addr) (k : Option Nat) (ds : List D) (k' : Option Nat) (ds' : List D), env[i]? = some (some (.ol k ds)) → env[j]? = some (some (.ol k' ds')) → σ[i]? = some (some (.ref a)) → σ[j]? = some (some (.ref a)) → i = j
  pr : ∀ p, B.prot p → G p = none ∧ H p = B.H0 p ∧ B.H0 p ≠ none
  ptb : ∀ p, B.prot p → ∀ ps, H p ≠ some (.tbl ps)
  nt : ∀ (a : Addr) (ps : Array Value), G a ≠ some (.tbl ps)
  tb : Tb cm.tb G H
  tk : ∀ p, B.tt p → ∃ ps, H p = some (.tbl ps)
  ao : ∀ (i j : Nat) (c c' : Str) (fs fs' : List (Str × D)), env[i]? = some (some (.oo c fs)) → env[j]? = some (some (.oo c' fs')) → i = j
/-- an exception as it lies -/
def XRel (G H : Hp) (cls : Value) (dd : Option Addr) (x : Xn) : Prop :=
  ∃ C d fs, cm.x x.c = some C ∧ cls = .ref C ∧ dd = some d ∧ G d = some (.xd fs) ∧ fs.map (·.1) = x.fs.map (·.1) ∧ Rps K cm G (fs.map (·.2)) (x.fs.map (·.2))
end

section
variable {K : PySem.W.Frag} {cm : Cm} {B : Base} {G G' H H' : Hp} {σ : L2.St} {env : Vs.Env}
theorem Rel.free (r : Rel K cm B G H σ env) {p : Addr} (h : H p = none) : G p = none := fresh_back r.ex h
theorem Rel.nprot (r : Rel K cm B G H σ env) {p : Addr} (h : H p = none) : ¬ B.prot p := fun q => by
  obtain ⟨_, e, n⟩ := r.pr p q
  rw [h] at e
  exact n e.symm
theorem Tb.mono {T : List (Addr × Str)} (h : Tb T G H) (e : Ex G G') (k : ∀ b ps, H b = some (.tbl ps) → H' b = some (.tbl ps)) : Tb T G' H' := fun p hp => by
  obtain ⟨ps, h1, h2, h3⟩ := h p hp
  refine ⟨ps, k _ _ h1, h2, fun pos cv hc => ?_⟩
  obtain ⟨c, e1, e2⟩ := h3 pos cv hc
  exact ⟨c, e1, e _ _ e2⟩
theorem th_ge {v : V} {g : List D → Ot} (h : ∃ f G0, v = .ref f ∧ B.th G0 f g ∧ Ex G0 G) (e : Ex G G') : ∃ f G0, v = .ref f ∧ B.th G0 f g ∧ Ex G0 G' := by
  obtain ⟨f, G0, h1, h2, h3⟩ := h
  exact ⟨f, G0, h1, h2, h3.trans e⟩
theorem Tb.ge {T : List (Addr × Str)} (h : Tb T G H) (e : Ex G G') : Tb T G' H := h.mono e fun _ _ z => z
theorem Tb.new {T : List (Addr × Str)} {p : Addr} {o : HO} (h : Tb T G H) (hp : H p = none) : Tb T G (upd H p o) := h.mono (Ex.refl G) fun b ps z => Ex.new hp b _ z
theorem Tb.lst {T : List (Addr × Str)} {p : Addr} {o : HO} {vs : List V} (h : Tb T G H) (hp : H p = some (.lst vs)) : Tb T G (upd H p o) := h.mono (Ex.refl G) fun b ps e => by
  have ne : b ≠ p := fun z => by
    subst z; rw [hp] at e; cases e
  rw [upd_ne ne]; exact e
theorem tk_new {T : Addr → Prop} {p : Addr} {o : HO} (h : ∀ p, T p → ∃ ps, H p = some (.tbl ps)) (hp : H p = none) : ∀ q, T q → ∃ ps, upd H p o q = some (.tbl ps) := fun q hq => by
  obtain ⟨ps, e⟩ := h q hq
  exact ⟨ps, by rw [upd_ne (fun z => by subst z; rw [hp] at e; cases e)]; exact e⟩
theorem tk_lst {T : Addr → Prop} {p : Addr} {o : HO} {vs : List V} (h : ∀ p, T p → ∃ ps, H p = some (.tbl ps)) (hp : H p = some (.lst vs)) : ∀ q, T q → ∃ ps, upd H p o q = some (.tbl ps) := fun q hq => by
  obtain ⟨ps, e⟩ := h q hq
  exact ⟨ps, by rw [upd_ne (fun z => by subst z; rw [hp] at e; cases e)]; exact e⟩
theorem nt_upd {p : Addr} {o : HO} (h : ∀ (a : Addr) (ps : Array Value), G a ≠ some (.tbl ps)) (hn : ∀ ps, o ≠ .tbl ps) : ∀ (a : Addr) (ps : Array Value), upd G p o a ≠ some (.tbl ps) := fun a ps z => by
  by_cases ha : a = p
  · subst ha; rw [upd_same] at z; exact hn ps (Option.some.inj z)
  · rw [upd_ne ha] at z; exact h a ps z
/-- the abstract heaps are in order -/
structure Gd (cm : Cm) (G H : Hp) : Prop where
  ex : Ex G H
  nt : ∀ (a : Addr) (ps : Array Value), G a ≠ some (.tbl ps)
  tb : Tb cm.tb G H
theorem Rel.gd (r : Rel K cm B G H σ env) : Gd cm G H := ⟨r.ex, r.nt, r.tb⟩
theorem ex_upd2 {p : Addr} {o : HO} (e : Ex G H) : Ex (upd G p o) (upd H p o) := fun a u h => by
  by_cases ha : a = p
  · subst ha; rw [upd_same] at h ⊢; exact h
  · rw [upd_ne ha] at h ⊢; exact e a u h
/-- a new object that nobody changes any more -/
theorem Rel.alloc (r : Rel K cm B G H σ env) {p : Addr} {o : HO} (h : H p = none) (hn : ∀ ps, o ≠ .tbl ps := by intro ps z; cases z) : Rel K cm B (upd G p o) (upd H p o) σ env ∧ Ex G (upd G p o) := by
  have hg := r.free h
  refine ⟨⟨ex_upd2 r.ex, r.len, fun i t e => ?_, r.ap, fun q hq => ?_, fun q hq ps => by rw [upd_ne (fun z => by subst z; exact r.nprot h hq)]; exact r.ptb q hq ps, nt_upd r.nt hn, (r.tb.new h).ge (Ex.new hg), tk_new r.tk h, r.ao⟩, Ex.new hg⟩
  · obtain ⟨v, e1, tr⟩ := r.sl i t e
    refine ⟨v, e1, ?_⟩
    cases t with
    | fz d => exact Rp.mono (Ex.new hg) tr
    | th o => exact th_ge tr (Ex.new hg)
    | oo c fs =>
      obtain ⟨a, C, dx, vs, rfl, h1, h2, h3, h4, h5, h6, h7, h8, h9, h10⟩ := tr
      have ne : a ≠ p := ne_of_none h3 h
      have ne2 : dx ≠ p := ne_of_none h4 h
      exact ⟨a, C, dx, vs, rfl, h1, h2, by rw [upd_ne ne]; exact h3, by rw [upd_ne ne2]; exact h4, by rw [upd_ne ne]; exact h5, by rw [upd_ne ne2]; exact h6, h7, Rps.mono (Ex.new hg) h8, h9, h10⟩
    | ol k ds =>
      obtain ⟨a, vs, rfl, ha, hga, rs, np, hk⟩ := tr
      have ne : a ≠ p := ne_of_none ha h
      exact ⟨a, vs, rfl, by rw [upd_ne ne]; exact ha, by rw [upd_ne ne]; exact hga, Rps.mono (Ex.new hg) rs, np, hk⟩
  · obtain ⟨h1, h2, h3⟩ := r.pr q hq
    have ne : q ≠ p := fun z => by subst z; exact r.nprot h hq
    exact ⟨by rw [upd_ne ne]; exact h1, by rw [upd_ne ne]; exact h2, h3⟩
/-- a new object that may change yet -/
theorem Rel.fresh (r : Rel K cm B G H σ env) {p : Addr} {o : HO} (h : H p = none) : Rel K cm B G (upd H p o) σ env := by
  refine ⟨r.ex.trans (Ex.new h), r.len, fun i t e => ?_, r.ap, fun q hq => ?_, fun q hq ps => by rw [upd_ne (fun z => by subst z; exact r.nprot h hq)]; exact r.ptb q hq ps, r.nt, r.tb.new h, tk_new r.tk h, r.ao⟩
  · obtain ⟨v, e1, tr⟩ := r.sl i t e
    refine ⟨v, e1, ?_⟩
    cases t with
    | fz d => exact tr
    | th o => exact tr
    | oo c fs =>
      obtain ⟨a, C, dx, vs, rfl, h1, h2, h3, h4, h5, h6, h7, h8, h9, h10⟩ := tr
      have ne : a ≠ p := ne_of_none h3 h
      have ne2 : dx ≠ p := ne_of_none h4 h
      exact ⟨a, C, dx, vs, rfl, h1, h2, by rw [upd_ne ne]; exact h3, by rw [upd_ne ne2]; exact h4, h5, h6, h7, h8, h9, h10⟩
    | ol k ds =>
      obtain ⟨a, vs, rfl, ha, hga, rs, np, hk⟩ := tr
      have ne : a ≠ p := ne_of_none ha h
      exact ⟨a, vs, rfl, by rw [upd_ne ne]; exact ha, hga, rs, np, hk⟩
  · obtain ⟨h1, h2, h3⟩ := r.pr q hq
    have ne : q ≠ p := fun z => by subst z; exact r.nprot h hq
    exact ⟨h1, by rw [upd_ne ne]; exact h2, h3⟩
theorem get_set {α : Type} {l : List α} {i j : Nat} {a b : α} (h : (l.set i a)[j]? = some b) : (j = i ∧ b = a ∧ i < l.length) ∨ (j ≠ i ∧ l[j]? = some b) := by
  by_cases e : i = j
  · subst e
    by_cases hl : i < l.length
    · rw [List.getElem?_set_self hl] at h; cases h; exact .inl ⟨rfl, rfl, hl⟩
    · rw [List.getElem?_eq_none (by simpa using hl)] at h; cases h
  · rw [List.getElem?_set_ne e] at h; exact .inr ⟨fun z => e z.symm, h⟩
/-- a slot takes data -/
theorem Rel.setFz (r : Rel K cm B G H σ env) {v : V} {d : D} (i : Nat) (h : Rp K cm G v d) : Rel K cm B G H (σ.set i (some v)) (env.set i (some (.fz d))) := by
  refine ⟨r.ex, by simp [r.len], fun j t e => ?_, fun j j' a k ds k' ds' e1 e2 e3 e4 => ?_, r.pr, r.ptb, r.nt, r.tb, r.tk, fun j j' c c' fs fs' e1 e2 => ?_⟩
  · rcases get_set e with ⟨rfl, e1, hl⟩ | ⟨ne, e1⟩
    · cases e1
      exact ⟨v, by rw [List.getElem?_set_self (by rw [r.len]; exact hl)], h⟩
    · obtain ⟨u, e2, tr⟩ := r.sl j t e1
      exact ⟨u, by rw [List.getElem?_set_ne (Ne.symm ne)]; exact e2, tr⟩
  · rcases get_set e1 with ⟨rfl, z, _⟩ | ⟨ne, e1⟩
    · cases z
    · rcases get_set e2 with ⟨rfl, z, _⟩ | ⟨ne', e2⟩
      · cases z
      · rw [List.getElem?_set_ne (Ne.symm ne)] at e3
        rw [List.getElem?_set_ne (Ne.symm ne')] at e4
        exact r.ap j j' a k ds k' ds' e1 e2 e3 e4
  · rcases get_set e1 with ⟨_, z, _⟩ | ⟨_, e1⟩
    · cases z
    · rcases get_set e2 with ⟨_, z, _⟩ | ⟨_, e2⟩
      · cases z
      · exact r.ao _ _ _ _ _ _ e1 e2
/-- a slot takes a list of the frame's own -/
theorem Rel.setOl (r : Rel K cm B G H σ env) {a : Addr} {vs : List V} {ds : List D} (i : Nat) (ha : H a = some (.lst vs)) (hg : G a = none) (hs : Rps K cm G vs ds) (np : ¬ B.prot a)
    (na : ∀ (j : Nat) (k : Option Nat) (ds : List D), env[j]? = some (some (.ol k ds)) → σ[j]? = some (some (.ref a)) → j = i) : Rel K cm B G H (σ.set i (some (.ref a))) (env.set i (some (.ol none ds))) := by
  refine ⟨r.ex, by simp [r.len], fun j t e => ?_, fun j j' b k ds k' ds' e1 e2 e3 e4 => ?_, r.pr, r.ptb, r.nt, r.tb, r.tk, fun j j' c c' fs fs' e1 e2 => ?_⟩
  · rcases get_set e with ⟨rfl, e1, hl⟩ | ⟨ne, e1⟩
    · cases e1
      exact ⟨.ref a, by rw [List.getElem?_set_self (by rw [r.len]; exact hl)], a, vs, rfl, ha, hg, hs, np, fun _ z => nomatch z⟩
    · obtain ⟨u, e2, tr⟩ := r.sl j t e1
      exact ⟨u, by rw [List.getElem?_set_ne (Ne.symm ne)]; exact e2, tr⟩
  · rcases get_set e1 with ⟨rfl, z, hl⟩ | ⟨ne, e1⟩
    · rw [List.getElem?_set_self (by rw [r.len]; exact hl)] at e3
      cases e3
      rcases get_set e2 with ⟨rfl, z', _⟩ | ⟨ne', e2⟩
      · rfl
      · rw [List.getElem?_set_ne (Ne.symm ne')] at e4
        exact (na j' _ _ e2 e4).symm
    · rw [List.getElem?_set_ne (Ne.symm ne)] at e3
      rcases get_set e2 with ⟨z0, z', hl⟩ | ⟨ne', e2⟩
      · rw [z0, List.getElem?_set_self (by rw [r.len]; exact hl)] at e4
        cases e4
        exact (na j _ _ e1 e3).trans z0.symm
      · rw [List.getElem?_set_ne (Ne.symm ne')] at e4
        exact r.ap j j' b k ds k' ds' e1 e2 e3 e4
  · rcases get_set e1 with ⟨_, z, _⟩ | ⟨_, e1⟩
    · cases z
    · rcases get_set e2 with ⟨_, z, _⟩ | ⟨_, e2⟩
      · cases z
      · exact r.ao _ _ _ _ _ _ e1 e2
/-- an own list is written -/
theorem Rel.write (r : Rel K cm B G H σ env) {i : Nat} {k : Option Nat} {ds ds' : List D} {a : Addr} {vs' : List V} (e : env[i]? = some (some (.ol k ds))) (hi : σ[i]? = some (some (.ref a))) (hs : Rps K cm G vs' ds') :
    Rel K cm B G (upd H a (.lst vs')) σ (env.set i (some (.ol k ds'))) := by
  obtain ⟨v, e1, tr⟩ := r.sl i _ e
  rw [hi] at e1; cases e1
  obtain ⟨a', vs, z, ha, hga, rs, np, hk⟩ := tr
  cases z
  have hl : i < env.length := (List.getElem?_eq_some_iff.mp e).1
  refine ⟨fun b u q => ?_, by simp [r.len], fun j t e2 => ?_, fun j j' b k1 ds1 k2 ds2 e1 e2 e3 e4 => ?_, fun q hq => ?_, fun q hq ps => by rw [upd_ne (fun z => by subst z; exact np hq)]; exact r.ptb q hq ps, r.nt, r.tb.lst ha, tk_lst r.tk ha, fun j j' c c' fs fs' e1 e2 => ?_⟩
  · have ne : b ≠ a := fun z => by subst z; rw [hga] at q; cases q
    rw [upd_ne ne]; exact r.ex b u q
  · rcases get_set e2 with ⟨rfl, e3, hl⟩ | ⟨ne, e3⟩
    · cases e3
      exact ⟨.ref a, hi, a, vs', rfl, upd_same, hga, hs, np, hk⟩
    · obtain ⟨u, e4, tr⟩ := r.sl j t e3
      refine ⟨u, e4, ?_⟩
      cases t with
      | fz d => exact tr
      | th o => exact tr
      | oo c fs =>
        obtain ⟨b, C, dx, vs, rfl, h1, h2, h3, h4, h5, h6, h7, h8, h9, h10⟩ := tr
        have ne : b ≠ a := fun z => by subst z; rw [ha] at h3; cases h3
        have ne2 : dx ≠ a := fun z => by subst z; rw [ha] at h4; cases h4
        exact ⟨b, C, dx, vs, rfl, h1, h2, by rw [upd_ne ne]; exact h3, by rw [upd_ne ne2]; exact h4, h5, h6, h7, h8, h9, h10⟩
      | ol k2 ds2 =>
        obtain ⟨b, vs2, rfl, hb, hgb, rs2, np2, hk2⟩ := tr
        have nb : b ≠ a := fun z => by
          subst z
          exact ne (r.ap j i b _ _ _ _ e3 e e4 hi)
        exact ⟨b, vs2, rfl, by rw [upd_ne nb]; exact hb, hgb, rs2, np2, hk2⟩
  · have old : ∀ {j : Nat} {k1 : Option Nat} {ds1 : List D}, (env.set i (some (.ol k ds')))[j]? = some (some (.ol k1 ds1)) → ∃ k0 ds0, env[j]? = some (some (.ol k0 ds0)) := fun {j k1 ds1} q => by
      rcases get_set q with ⟨rfl, _, _⟩ | ⟨_, q⟩
      · exact ⟨_, _, e⟩
      · exact ⟨_, _, q⟩
    obtain ⟨_, _, q1⟩ := old e1
    obtain ⟨_, _, q2⟩ := old e2
    exact r.ap j j' b _ _ _ _ q1 q2 e3 e4
  · obtain ⟨h1, h2, h3⟩ := r.pr q hq
    have ne : q ≠ a := fun z => by subst z; exact np hq
    exact ⟨h1, by rw [upd_ne ne]; exact h2, h3⟩
  · rcases get_set e1 with ⟨_, z, _⟩ | ⟨_, e1⟩
    · cases z
    · rcases get_set e2 with ⟨_, z, _⟩ | ⟨_, e2⟩
      · cases z
      · exact r.ao _ _ _ _ _ _ e1 e2
/-- an own list is laid down: from now on nobody changes it -/
theorem Rel.freeze (r : Rel K cm B G H σ env) {i : Nat} {k : Option Nat} {ds : List D} (e : env[i]? = some (some (.ol k ds))) : ∃ G', Ex G G' ∧ Rel K cm B G' H σ (env.set i (some (.fz (.lst ds)))) := by
  obtain ⟨v, hi, tr⟩ := r.sl i _ e
  obtain ⟨a, vs, rfl, ha, hga, rs, np, hk⟩ := tr
  have hl : i < env.length := (List.getElem?_eq_some_iff.mp e).1
  have ex1 : Ex G (upd G a (.lst vs)) := Ex.new hga
  refine ⟨upd G a (.lst vs), ex1, fun b u q => ?_, by simp [r.len], fun j t e2 => ?_, fun j j' b k1 ds1 k2 ds2 e1 e2 e3 e4 => ?_, fun q hq => ?_, r.ptb, nt_upd r.nt (fun ps z => by cases z), r.tb.ge ex1, r.tk, fun j j' c c' fs fs' e1 e2 => ?_⟩
  · by_cases hb : b = a
    · subst hb; rw [upd_same] at q; cases q; exact ha
    · rw [upd_ne hb] at q; exact r.ex b u q
  · rcases get_set e2 with ⟨rfl, e3, _⟩ | ⟨ne, e3⟩
    · cases e3
      exact ⟨.ref a, hi, .lst upd_same (Rps.mono ex1 rs)⟩
    · obtain ⟨u, e4, tr⟩ := r.sl j t e3
      refine ⟨u, e4, ?_⟩
      cases t with
      | fz d => exact Rp.mono ex1 tr
      | th o => exact th_ge tr ex1
      | oo c fs =>
        obtain ⟨b, C, dx, vs, rfl, h1, h2, h3, h4, h5, h6, h7, h8, h9, h10⟩ := tr
        have ne : b ≠ a := fun z => by subst z; rw [ha] at h3; cases h3
        have ne2 : dx ≠ a := fun z => by subst z; rw [ha] at h4; cases h4
        exact ⟨b, C, dx, vs, rfl, h1, h2, h3, h4, by rw [upd_ne ne]; exact h5, by rw [upd_ne ne2]; exact h6, h7, Rps.mono ex1 h8, h9, h10⟩
      | ol k2 ds2 =>
        obtain ⟨b, vs2, rfl, hb, hgb, rs2, np2, hk2⟩ := tr
        have nb : b ≠ a := fun z => by
          subst z
          exact ne (r.ap j i b _ _ _ _ e3 e e4 hi)
        exact ⟨b, vs2, rfl, hb, by rw [upd_ne nb]; exact hgb, Rps.mono ex1 rs2, np2, hk2⟩
  · have old : ∀ {j : Nat} {k1 : Option Nat} {ds1 : List D}, (env.set i (some (.fz (.lst ds))))[j]? = some (some (.ol k1 ds1)) → env[j]? = some (some (.ol k1 ds1)) := fun {j k1 ds1} q => by
      rcases get_set q with ⟨rfl, z, _⟩ | ⟨_, q⟩
      · cases z
      · exact q
    exact r.ap j j' b _ _ _ _ (old e1) (old e2) e3 e4
  · obtain ⟨h1, h2, h3⟩ := r.pr q hq
    have ne : q ≠ a := fun z => by subst z; exact np hq
    exact ⟨by rw [upd_ne ne]; exact h1, h2, h3⟩
  · rcases get_set e1 with ⟨_, z, _⟩ | ⟨_, e1⟩
    · cases z
    · rcases get_set e2 with ⟨_, z, _⟩ | ⟨_, e2⟩
      · cases z
      · exact r.ao _ _ _ _ _ _ e1 e2
/-- slots forgotten -/
theorem Rel.forget (r : Rel K cm B G H σ env) {σ' : L2.St} {env' : Vs.Env} (hl : σ'.length = env'.length) (w : ∀ (i : Nat) (t : T), env'[i]? = some (some t) → env[i]? = some (some t) ∧ σ'[i]? = σ[i]?) : Rel K cm B G H σ' env' :=
  ⟨r.ex, hl, fun i t e => by
    obtain ⟨v, e1, tr⟩ := r.sl i t (w i t e).1
    exact ⟨v, (w i t e).2.trans e1, tr⟩, fun i j a k ds k' ds' e1 e2 e3 e4 => r.ap i j a k ds k' ds' (w _ _ e1).1 (w _ _ e2).1 ((w _ _ e1).2 ▸ e3) ((w _ _ e2).2 ▸ e4), r.pr, r.ptb, r.nt, r.tb, r.tk, fun i j c c' fs fs' e1 e2 => r.ao i j c c' fs fs' (w _ _ e1).1 (w _ _ e2).1⟩
end
end Vs

set_option Elab.async false
set_option linter.all false
set_option maxRecDepth 100000
set_option maxHeartbeats 4000000
/-! VsB: readings by functions on environments; expressions. -/
namespace Vs
open PySem PySem.Spec PyProof.Rows L2 Evl

def R.bind {α β : Type} (r : R α) (f : α → Vs.Env → R β) : R β := match r with
  | .ok a e => f a e
  | .exc x e => .exc x e
  | .no => .no
def R.opt {α : Type} (o : Option α) (env : Vs.Env) : R α := match o with
  | some a => .ok a env
  | none => .no
@[simp] theorem R.bind_ok {α β : Type} (a : α) (e : Vs.Env) (f : α → Vs.Env → R β) : (R.ok a e).bind f = f a e := rfl
@[simp] theorem R.bind_exc {α β : Type} (x : Xn) (e : Vs.Env) (f : α → Vs.Env → R β) : (R.exc x e).bind f = .exc x e := rfl
@[simp] theorem R.bind_no {α β : Type} (f : α → Vs.Env → R β) : (R.no : R α).bind f = .no := rfl
@[simp] theorem R.opt_some {α : Type} (a : α) (e : Vs.Env) : R.opt (some a) e = .ok a e := rfl
@[simp] theorem R.opt_none {α : Type} (e : Vs.Env) : R.opt (none : Option α) e = .no := rfl

section
variable (K : PySem.W.Frag) (cm : Cm)
/-- what is wanted of a run's end: by data Y of a value b of the machine -/
def want {α β : Type} (Y : Hp → L2.St → β → α → Prop) (B : Base) (G : Hp) (σ : L2.St) (Q : β → Hp → Prop) : R α → Prop
  | .ok a env' => ∀ G' H' b, Ex G G' → Rel K cm B G' H' σ env' → Y G' σ b a → Q b H'
  | .exc x env' => ∀ G' H' cls dd, Ex G G' → Rel K cm B G' H' σ env' → XRel K cm G' H' cls dd x → B.W cls dd σ H'
  | .no => False
def tG {α β : Type} (Y : Hp → L2.St → β → α → Prop) (B : Base) (f : M α) : L2.St → Hp → (β → Hp → Prop) → Prop := fun σ H Q =>
  ∃ G env, Rel K cm B G H σ env ∧ want K cm Y B G σ Q (f env)
def YV : Hp → L2.St → V → D → Prop := fun G _ v d => Rp K cm G v d
end
def YB : Hp → L2.St → Bool → Bool → Prop := fun _ _ b a => b = a

section
variable {K : PySem.W.Frag} {cm : Cm} {α β γ δ : Type} {Y : Hp → L2.St → β → α → Prop} {Y2 : Hp → L2.St → δ → γ → Prop} {B : Base} {G G1 H : Hp} {σ : L2.St} {env : Vs.Env}
theorem want.mono {Q : β → Hp → Prop} {r : R α} (e : Ex G G1) (h : want K cm Y B G σ Q r) : want K cm Y B G1 σ Q r := by
  cases r with
  | ok a env' => exact fun G' H' b e1 => h G' H' b (e.trans e1)
  | exc x env' => exact fun G' H' c d e1 => h G' H' c d (e.trans e1)
  | no => exact h
/-- one reading, then the rest -/
theorem want.bind {Q : δ → Hp → Prop} {Q1 : β → Hp → Prop} {f : M α} {k : α → Vs.Env → R γ} (r : Rel K cm B G H σ env) (h : want K cm Y2 B G σ Q ((f env).bind k))
    (hk : ∀ a env1 G1 H1 b, Ex G G1 → Rel K cm B G1 H1 σ env1 → Y G1 σ b a → want K cm Y2 B G1 σ Q (k a env1) → Q1 b H1) : tG K cm Y B f σ H Q1 := by
  refine ⟨G, env, r, ?_⟩
  cases e : f env with
  | ok a env1 =>
    rw [e] at h
    exact fun G1 H1 b e1 r1 y => hk a env1 G1 H1 b e1 r1 y (want.mono e1 h)
  | exc x env1 =>
    rw [e] at h
    exact h
  | no =>
    rw [e] at h
    exact h
end

theorem _root_.L2.PE.weak {X : Cx} {e : Expr} {t t' : TE} (h : PE X e t) (w : ∀ σ H Q, t' σ H Q → t σ H Q) : PE X e t' := ⟨fun pins s σ H Q I q => h.run pins s σ H Q I (w _ _ _ q)⟩
theorem _root_.L2.PT.weak {X : Cx} {e : Expr} {t t' : TT} (h : PT X e t) (w : ∀ σ H Q, t' σ H Q → t σ H Q) : PT X e t' := ⟨fun pins s σ H Q I q => h.run pins s σ H Q I (w _ _ _ q)⟩
theorem _root_.L2.PW.weak {X : Cx} {e : Expr} {t t' : TT} (h : PW X e t) (w : ∀ σ H Q, t' σ H Q → t σ H Q) : PW X e t' := ⟨fun wh pins s σ H Q I q => h.run wh pins s σ H Q I (w _ _ _ q)⟩
theorem _root_.L2.PA.weak {X : Cx} {e : List Expr} {t t' : TA} (h : PA X e t) (w : ∀ σ H Q, t' σ H Q → t σ H Q) : PA X e t' := ⟨fun ps pins s σ H Q I q => h.run ps pins s σ H Q I (w _ _ _ q)⟩
theorem _root_.L2.PS.weak {X : Cx} {e : Stmt} {t t' : TS} (h : PS X e t) (w : ∀ D σ H, t' D σ H → t D σ H) : PS X e t' := ⟨fun pins s σ H D I q => h.run pins s σ H D I (w _ _ _ q)⟩
theorem _root_.L2.PSs.weak {X : Cx} {e : List Stmt} {t t' : TS} (h : PSs X e t) (w : ∀ D σ H, t' D σ H → t D σ H) : PSs X e t' := ⟨fun pins s σ H D I q => h.run pins s σ H D I (w _ _ _ q)⟩

def Keep (G H G' H' : Hp) (own : Option Addr) : Prop := (∀ p, H p ≠ none → (∀ ps, H p ≠ some (.tbl ps)) → G p = none → own ≠ some p → G' p = none ∧ H' p = H p) ∧ ∀ p ps, H p = some (.tbl ps) → ∃ ps', H' p = some (.tbl ps')
/-- what is wanted of a closure's end -/
def wantO (K : PySem.W.Frag) (cm : Cm) (G H : Hp) (Q : VK) (E : XK) : Ot → Prop
  | .ok d => ∀ G' H' v, Ex G G' → Gd cm G' H' → Keep G H G' H' none → Rp K cm G' v d → Q v H'
  | .exc x => ∀ G' H' cls dd, Ex G G' → Gd cm G' H' → Keep G H G' H' none → XRel K cm G' H' cls dd x → E cls dd H'
  | .no => False
/-- the closure at f keeps its promise g wherever all is there that stood in base and in G0 -/
def FnC (P : Program) (w : World) (K : PySem.W.Frag) (mg : Str → Option Value) (base : Heap) (cm : Cm) (k : Nat) (G0 : Hp) (f : Addr) (g : List D → Ot) : Prop :=
  PySem.W.FnAt f base ∧ ∀ (A : Around) (outer : List PySem.Env) (s : Shared) (H G1 : Hp) (us : List Value) (vs : List V) (ds : List D) (Q : VK) (E : XK), Room k A → A.guards = some [] → Env0 P w K mg base A outer s H → Ex G0 G1 → Gd cm G1 H → Vals vs us → Rps K cm G1 vs ds →
    wantO K cm G1 H Q E (g ds) → codeAny (model P w) A (.call (.ref f) ⟨us, []⟩) (CR (L2.CX P w) outer P w H s Q E) s
/-- the base fits the context: the wish is taken, and what the base says of closures is so -/
structure Fit (cm : Cm) (X : Cx) (B : Base) : Prop where
  tk : Takes X B.W
  th : ∀ G0 f g, B.th G0 f g → ∃ k, Room k X.A ∧ X.A.guards = some [] ∧ FnC X.prog X.w X.K X.mg X.base cm k G0 f g
section
variable (cm : Cm) (X : Cx)
/-- an expression gives the data of f -/
def CE (e : Expr) (f : M D) : Prop := ∀ B : Base, Fit cm X B → PE X e (tG X.K cm (YV X.K cm) B f)
def CT (e : Expr) (f : M Bool) : Prop := ∀ B : Base, Fit cm X B → PT X e (tG X.K cm YB B f)
def CW (e : Expr) (f : M Bool) : Prop := ∀ B : Base, Fit cm X B → PW X e (tG X.K cm YB B f)
/-- a two-place operation by data -/
def OpD (r : R2) (o : D → D → Option D) : Prop := ∀ (B : Base) (G H : Hp) (σ : L2.St) (env : Vs.Env) (v1 v2 : V) (d1 d2 d : D) (Q : VK), Rel X.K cm B G H σ env → Rp X.K cm G v1 d1 → Rp X.K cm G v2 d2 → o d1 d2 = some d →
  (∀ G' H' v, Ex G G' → Rel X.K cm B G' H' σ env → Rp X.K cm G' v d → Q v H') → r v1 v2 H Q
def UnD (r : V → Hp → VK → Prop) (o : D → Option D) : Prop := ∀ (B : Base) (G H : Hp) (σ : L2.St) (env : Vs.Env) (v1 : V) (d1 d : D) (Q : VK), Rel X.K cm B G H σ env → Rp X.K cm G v1 d1 → o d1 = some d →
  (∀ G' H' v, Ex G G' → Rel X.K cm B G' H' σ env → Rp X.K cm G' v d → Q v H') → r v1 H Q
/-- a call by data -/
def CaD (r : List V → Hp → VK → Prop) (o : List D → Option D) : Prop := ∀ (B : Base) (G H : Hp) (σ : L2.St) (env : Vs.Env) (vs : List V) (ds : List D) (d : D) (Q : VK), Rel X.K cm B G H σ env → Rps X.K cm G vs ds → o ds = some d →
  (∀ G' H' v, Ex G G' → Rel X.K cm B G' H' σ env → Rp X.K cm G' v d → Q v H') → r vs H Q
end

section
variable {cm : Cm} {X : Cx} {a b e : Expr} {f g h : M D} {pos : Pos}
/-! ### names, constants -/
def eV (i : Nat) : M D := fun env => match env[i]? with
  | some (some (.fz d)) => .ok d env
  | _ => .no
theorem ce_v (i : Nat) {x : Str} (hN : X.N[i]? = some x := by rfl) (hv : Vis X.env.scope x := by first | exact Or.inl rfl | exact Or.inr (Or.inl rfl) | exact Or.inr (Or.inr rfl)) (hd : (x == ("__debug__" : Str)) = false := by decide)
    (hcd : (x == ("__classdict__" : Str)) = false := by decide) : CE cm X (.Name x pos) (eV i) := fun B tk => (pe_var hN hv hd hcd).weak fun σ H Q ⟨G, env, r, q⟩ => by
  unfold eV at q
  cases c : env[i]? with
  | none => rw [c] at q; exact q.elim
  | some o =>
    cases o with
    | none => rw [c] at q; exact q.elim
    | some t =>
      cases t with
      | ol k ds => rw [c] at q; exact q.elim
      | oo k ds => rw [c] at q; exact q.elim
      | th o => rw [c] at q; exact q.elim
      | fz d =>
        rw [c] at q
        obtain ⟨v, e1, tr⟩ := r.sl i _ c
        exact ⟨v, e1, q G H v (Ex.refl G) r tr⟩
def eC (d : D) : M D := fun env => .ok d env
theorem ce_c {v : V} {d : D} (h : PE X e (tC v)) (hd : ∀ G, Rp X.K cm G v d) : CE cm X e (eC d) := fun B tk => h.weak fun σ H Q ⟨G, env, r, q⟩ => q G H v (Ex.refl G) r (hd G)
theorem ce_int {i : Int} {j} : CE cm X (.Constant (.int i) j pos) (eC (.int i)) := ce_c pe_int fun _ => .int i
theorem ce_bl {i : Bool} {j} : CE cm X (.Constant (.bool i) j pos) (eC (.bl i)) := ce_c pe_bl fun _ => .bl i
theorem ce_non {j} : CE cm X (.Constant .none j pos) (eC .non) := ce_c pe_non fun _ => .non
theorem ce_str {i : Str} {j} : CE cm X (.Constant (.str i) j pos) (eC (.str i)) := ce_c pe_str fun _ => .str i

/-! ### operations -/
def eBin (o : D → D → Option D) (f g : M D) : M D := fun env => (f env).bind fun a env1 => (g env1).bind fun b env2 => R.opt (o a b) env2
def eUn (o : D → Option D) (f : M D) : M D := fun env => (f env).bind fun a env1 => R.opt (o a) env1
theorem tOp_of {r : R2} {o : D → D → Option D} {B : Base} {σ : L2.St} {H : Hp} {Q : VK} (hr : OpD cm X r o) (q : tG X.K cm (YV X.K cm) B (eBin o f g) σ H Q) : tOp r (tG X.K cm (YV X.K cm) B f) (tG X.K cm (YV X.K cm) B g) σ H Q := by
  obtain ⟨G, env, r0, q⟩ := q
  refine want.bind r0 q fun d1 env1 G1 H1 v1 e1 r1 y1 q1 => want.bind r1 q1 fun d2 env2 G2 H2 v2 e2 r2 y2 q2 => ?_
  cases c : o d1 d2 with
  | none => rw [c] at q2; exact q2.elim
  | some d =>
    rw [c] at q2
    exact hr B G2 H2 σ env2 v1 v2 d1 d2 d Q r2 (Rp.mono e2 y1) y2 c q2
theorem ce_bin {op : Operator} {r : R2} {o : D → D → Option D} (ho : OpR X (binaryOp op) r) (hr : OpD cm X r o) (ha : CE cm X a f) (hb : CE cm X b g) : CE cm X (.BinOp a op b pos) (eBin o f g) :=
  fun B tk => (pe_op ho (ha B tk) (hb B tk)).weak fun σ H Q q => tOp_of hr q
theorem ce_un {op : UnaryOp} {r : V → Hp → VK → Prop} {o : D → Option D} (ho : UnR X (unaryOp op) r) (hr : UnD cm X r o) (ha : CE cm X a f) : CE cm X (.UnaryOp op a pos) (eUn o f) := fun B tk => (pe_un ho (ha B tk)).weak fun σ H Q ⟨G, env, r0, q⟩ => by
  refine want.bind r0 q fun d1 env1 G1 H1 v1 e1 r1 y1 q1 => ?_
  cases c : o d1 with
  | none => rw [c] at q1; exact q1.elim
  | some d =>
    rw [c] at q1
    exact hr B G1 H1 σ env1 v1 d1 d Q r1 y1 c q1
theorem ce_cmp {op : CmpOp} {r : R2} {o : D → D → Option D} (ho : OpR X (compareOp op) r) (hr : OpD cm X r o) (ha : CE cm X a f) (hb : CE cm X b g) (hm : behindInMarks op b = false) : CE cm X (.Compare a [op] [b] pos) (eBin o f g) :=
  fun B tk => (pe_cmpR ho (ha B tk) (hb B tk) hm).weak fun σ H Q q => tOp_of hr q
theorem ce_ix {r : R2} {o : D → D → Option D} (ho : IxR X r) (hr : OpD cm X r o) (ha : CE cm X a f) (hb : CE cm X b g) (hs : PlainIx b) : CE cm X (.Subscript a b pos) (eBin o f g) :=
  fun B tk => (pe_ix ho (ha B tk) (hb B tk) hs).weak fun σ H Q q => tOp_of hr q
/-- two rules: by the data -/
theorem OpD.or {r r' : R2} {o o' : D → D → Option D} (h : OpD cm X r o) (h' : OpD cm X r' o') : OpD cm X (fun x y H Q => r x y H Q ∨ r' x y H Q) (fun x y => (o x y).or (o' x y)) :=
  fun B G H σ env v1 v2 d1 d2 d Q r0 y1 y2 c q => by
    dsimp only at c
    cases e : o d1 d2 with
    | some z => rw [e] at c; exact .inl (h B G H σ env v1 v2 d1 d2 d Q r0 y1 y2 (e.trans c) q)
    | none => rw [e] at c; exact .inr (h' B G H σ env v1 v2 d1 d2 d Q r0 y1 y2 c q)
/-- whole numbers in, data without objects out -/
def oI (C : Int → Int → Bool) (z : Int → Int → D) : D → D → Option D
  | .int i, .int j => if C i j = true then some (z i j) else none
  | _, _ => none
theorem OpD.int {C : Int → Int → Prop} {c : Int → Int → Bool} {k : Int → Int → V} {z : Int → Int → D} (hc : ∀ i j, c i j = true → C i j) (hz : ∀ i j G, Rp X.K cm G (k i j) (z i j)) : OpD cm X (rI C k) (oI c z) :=
  fun B G H σ env v1 v2 d1 d2 d Q r y1 y2 e q => by
    cases y1 <;> try (cases e; done)
    cases y2 <;> try (cases e; done)
    rename_i i j
    have e : (if c i j = true then some (z i j) else none) = some d := e
    by_cases hh : c i j = true
    · rw [if_pos hh] at e
      cases e
      exact ⟨i, j, rfl, rfl, hc i j hh, q G H _ (Ex.refl G) r (hz i j G)⟩
    · rw [if_neg hh] at e
      cases e
theorem OpD.int0 {k : Int → Int → V} {z : Int → Int → D} (hz : ∀ i j G, Rp X.K cm G (k i j) (z i j)) : OpD cm X (rI0 k) (oI (fun _ _ => true) z) :=
  fun B G H σ env v1 v2 d1 d2 d Q r y1 y2 e q => by
    cases y1 <;> try (cases e; done)
    cases y2 <;> try (cases e; done)
    rename_i i j
    have e : (if true = true then some (z i j) else none) = some d := e
    rw [if_pos rfl] at e
    cases e
    exact ⟨i, j, rfl, rfl, q G H _ (Ex.refl G) r (hz i j G)⟩
end
end Vs

set_option Elab.async false
set_option linter.all false
set_option maxRecDepth 100000
set_option maxHeartbeats 4000000
/-! VsC: operations by data. -/
namespace Vs
open PySem PySem.Spec PyProof.Rows L2 Evl

/-! ### data as PyData -/
mutual
def pyOf : D → Option PyData
  | .non => some .none
  | .bl b => some (.bool b)
  | .int i => some (.int i)
  | .str x => some (.str x)
  | .lst xs => (pyOfs xs).map .list
  | .tup xs => (pyOfs xs).map .tuple
  | .scr ns => none
  | .dic _ => none
  | .obj _ _ => none
  | .exn _ _ => none
def pyOfs : List D → Option (List PyData)
  | [] => some []
  | d :: ds => (pyOf d).bind fun p => (pyOfs ds).map fun ps => p :: ps
end
section
variable {K : PySem.W.Frag} {cm : Cm} {G H : Hp}
theorem dp_both (e : Ex G H) : (∀ v d, Rp K cm G v d → ∀ p, pyOf d = some p → Dp K H v p) := fun v d h =>
  Rp.rec (motive_1 := fun v d _ => ∀ p, pyOf d = some p → Dp K H v p) (motive_2 := fun vs ds _ => ∀ ps, pyOfs ds = some ps → DpAll K H vs ps)
    (fun p q => by simp only [pyOf, Option.some.injEq] at q; subst q; exact .non) (fun b p q => by simp only [pyOf, Option.some.injEq] at q; subst q; exact .bl b)
    (fun b p q => by simp only [pyOf, Option.some.injEq] at q; subst q; exact .int b) (fun b p q => by simp only [pyOf, Option.some.injEq] at q; subst q; exact .str b)
    (fun _ p q => by simp only [pyOf] at q; cases q)
    (fun h1 _ ih p q => by
      simp only [pyOf, Option.map_eq_some_iff] at q
      obtain ⟨ps, e1, rfl⟩ := q
      exact .lst (SqL.of (e _ _ h1)) (ih ps e1))
    (fun h1 _ ih p q => by
      simp only [pyOf, Option.map_eq_some_iff] at q
      obtain ⟨ps, e1, rfl⟩ := q
      exact .tup (ex_t e h1) (ih ps e1))
    (fun _ _ _ _ p q => by simp only [pyOf] at q; cases q) (fun _ _ _ _ _ _ p q => by simp only [pyOf] at q; cases q) (fun _ _ _ _ _ _ p q => by simp only [pyOf] at q; cases q) (fun _ _ p q => by simp only [pyOf] at q; cases q)
    (fun ps q => by simp only [pyOfs, Option.some.injEq] at q; subst q; exact .nil)
    (fun _ _ i1 i2 ps q => by
      simp only [pyOfs, Option.bind_eq_some_iff, Option.map_eq_some_iff] at q
      obtain ⟨p, e1, ps', e2, rfl⟩ := q
      exact .cons (i1 p e1) (i2 ps' e2)) h
end

/-! ### arithmetic and glueing -/
def oAdd : D → D → Option D
  | .int i, .int j => some (.int (i + j))
  | .int i, .bl b => some (.int (i + b2i b))
  | .str x, .str y => if x.length + y.length ≤ sizeLine then some (.str (x ++ y)) else none
  | .lst xs, .lst ys => if xs.length + ys.length ≤ sizeLine then some (.lst (xs ++ ys)) else none
  | .tup xs, .tup ys => if xs.length + ys.length ≤ sizeLine then some (.tup (xs ++ ys)) else none
  | _, _ => none
def oSub : D → D → Option D
  | .int i, .int j => some (.int (i - j))
  | _, _ => none
def mulOk (i j : Int) : Bool := decide ((-(2 ^ 64) < i ∧ i < 2 ^ 64) ∨ (-(2 ^ 64) < j ∧ j < 2 ^ 64)) || decide (i.natAbs.log2 + j.natAbs.log2 < 1000000)
def oMul : D → D → Option D
  | .int i, .int j => if mulOk i j = true then some (.int (i * j)) else none
  | .lst xs, .int k => if k < 2 ^ 31 ∧ -(2 ^ 31) < k ∧ xs.length * k.toNat ≤ sizeLine then some (.lst (List.replicate k.toNat xs).flatten) else none
  | .tup xs, .int k => if xs ≠ [] ∧ 2 ≤ k ∧ k ≤ 1000 ∧ xs.length ≤ 1000 then some (.tup (List.replicate k.toNat xs).flatten) else none
  | _, _ => none
def oFdiv : D → D → Option D
  | .int i, .int j => if 0 < j ∧ j < 1073741824 then some (.int (i / j)) else none
  | _, _ => none
def oMod : D → D → Option D
  | .int i, .int j => if 0 < j then some (.int (i % j)) else none
  | _, _ => none
def oPow : D → D → Option D
  | .int i, .int j => if 0 ≤ j ∧ j ≤ 1000000 ∧ i.natAbs < 2 ^ 64 then some (.int (i ^ j.toNat)) else none
  | _, _ => none
def oNeg : D → Option D
  | .int i => some (.int (-i))
  | _ => none
/-! ### comparisons -/
/-- two lists of different lengths -/
def lenD : D → D → Bool
  | .lst xs, .lst ys => xs.length != ys.length
  | _, _ => false
/-- two flat values of one kind -/
def flatEq : D → D → Option Bool
  | .non, .non => some true
  | .bl a, .bl b => some (decide (a = b))
  | .int a, .int b => some (decide (a = b))
  | .str a, .str b => some (decide (a = b))
  | _, _ => none
def oEq (x y : D) : Option D := if (flatEq x y).isSome = true then (flatEq x y).map D.bl else if lenD x y = true then some (.bl false) else (pyOf x).bind fun p => (pyOf y).bind fun q => if SeqAt.shaped p = true ∧ SeqAt.shaped q = true then some (.bl (PyData.eqv p q)) else none
def oNe (x y : D) : Option D := if (flatEq x y).isSome = true then (flatEq x y).map (fun k => D.bl (!k)) else if lenD x y = true then some (.bl true) else (pyOf x).bind fun p => (pyOf y).bind fun q => if SeqAt.shaped p = true ∧ SeqAt.shaped q = true then some (.bl (!PyData.eqv p q)) else none
def oLt : D → D → Option D
  | .int i, .int j => some (.bl (decide (i < j)))
  | _, _ => none
def oLe : D → D → Option D
  | .int i, .int j => some (.bl (decide (i ≤ j)))
  | _, _ => none
def oGt : D → D → Option D
  | .int i, .int j => some (.bl (decide (j < i)))
  | _, _ => none
def oGe : D → D → Option D
  | .int i, .int j => some (.bl (decide (j ≤ i)))
  | _, _ => none
def isNon : D → Bool
  | .non => true
  | _ => false
/-- x is None; of two truths -/
def oIs : D → D → Option D
  | d, .non => some (.bl (isNon d))
  | .bl a, .bl b => some (.bl (decide (a = b)))
  | _, _ => none
def oIsNot : D → D → Option D
  | d, .non => some (.bl (!isNon d))
  | .bl a, .bl b => some (.bl (!decide (a = b)))
  | _, _ => none
/-! ### places -/
def oIx : D → D → Option D
  | .lst xs, .int i => atI xs i
  | .tup xs, .int i => atI xs i
  | .str x, .int i => if x.length ≤ sizeLine then (atI x.cps.toList i).map fun c => .str ⟨#[c]⟩ else none
  | _, _ => none

section
variable {cm : Cm} {X : Cx} {B : Base} {G H : Hp} {σ : L2.St} {env : Vs.Env}
theorem Rp.nonI {K : PySem.W.Frag} {v : V} (h : Rp K cm G v .non) : v = .non := by cases h; rfl
theorem isNon_iff {K : PySem.W.Frag} {v : V} {d : D} (h : Rp K cm G v d) : decide (v = .non) = isNon d := by
  cases h <;> simp [isNon]
theorem Rps.nilV {K : PySem.W.Frag} {vs : List V} (h : Rps K cm G vs []) : vs = [] := by cases h; rfl
theorem Rps.ne {K : PySem.W.Frag} {vs : List V} {ds : List D} (h : Rps K cm G vs ds) : vs ≠ [] ↔ ds ≠ [] := by
  cases h <;> simp
theorem Rps.flat {K : PySem.W.Frag} {vs : List V} {ds : List D} (h : Rps K cm G vs ds) : ∀ k : Nat, Rps K cm G (List.replicate k vs).flatten (List.replicate k ds).flatten
  | 0 => .nil
  | k + 1 => by
    rw [List.replicate_succ, List.replicate_succ, List.flatten_cons, List.flatten_cons]
    exact h.append (Rps.flat h k)
theorem Rps.at {K : PySem.W.Frag} {vs : List V} {ds : List D} (h : Rps K cm G vs ds) {i : Int} {d : D} (e : atI ds i = some d) : ∃ v, atI vs i = some v ∧ Rp K cm G v d := by
  unfold atI at e ⊢
  rw [h.length]
  cases c : ixN ds.length i with
  | none => rw [c] at e; cases e
  | some j =>
    rw [c] at e
    obtain ⟨v, e1, r⟩ := h.get (i := j) (d := d) e
    exact ⟨v, e1, r⟩

def rEqLen (K : PySem.W.Frag) (k : Bool) : R2 := fun x y H Q => ∃ a b xs ys, x = .ref a ∧ y = .ref b ∧ SqL K H a xs ∧ SqL K H b ys ∧ xs.length ≠ ys.length ∧ Q (.bl k) H
theorem op_eqLen (hu : X.A.units < cLine) : OpR X (compareOp .Eq) (rEqLen X.K false) := by
  intro pins s σ H x y v u Q I rx ry h
  obtain ⟨a, b, xs, ys, rfl, rfl, h1, h2, hn, q⟩ := h
  cases rx; cases ry
  obtain ⟨us, r1, p1, _⟩ := I.list h1
  obtain ⟨ws, r2, p2, _⟩ := I.list h2
  exact SeqAt.RcAt.lists_lengths p1.isList p2.isList (by simpa [bne_iff_ne, ← r1.length, ← r2.length] using hn) hu _ _ _ _ ⟨.bl _, H, I, rfl, q⟩
theorem op_neLen (hu : X.A.units < cLine) : OpR X (compareOp .NotEq) (rEqLen X.K true) := by
  intro pins s σ H x y v u Q I rx ry h
  obtain ⟨a, b, xs, ys, rfl, rfl, h1, h2, hn, q⟩ := h
  cases rx; cases ry
  obtain ⟨us, r1, p1, _⟩ := I.list h1
  obtain ⟨ws, r2, p2, _⟩ := I.list h2
  exact SeqAt.RcNeAt.lists_lengths p1.isList p2.isList (by simpa [bne_iff_ne, ← r1.length, ← r2.length] using hn) hu _ _ _ _ ⟨.bl _, H, I, rfl, q⟩
def rEqU (K : PySem.W.Frag) : R2 := fun x y H Q => rEqD K x y H Q ∨ rEqLen K false x y H Q ∨ rEq x y H Q
def rNeU (K : PySem.W.Frag) : R2 := fun x y H Q => rNeD K x y H Q ∨ rEqLen K true x y H Q ∨ rNe x y H Q
theorem op_eqU (hu : X.A.units + 64 < cLine) : OpR X (compareOp .Eq) (rEqU X.K) := (op_eqD hu).or ((op_eqLen (by omega)).or op_eq)
theorem op_neU (hu : X.A.units + 64 < cLine) : OpR X (compareOp .NotEq) (rNeU X.K) := (op_neD hu).or ((op_neLen (by omega)).or op_ne)
def rAddU (X : Cx) : R2 := fun x y H Q => rI0 (fun i j => .int (i + j)) x y H Q ∨ (fun x y H Q => ∃ i k, x = .int i ∧ y = .bl k ∧ Q (.int (i + b2i k)) H) x y H Q ∨
  (fun x y H Q => ∃ i j, x = .str i ∧ y = .str j ∧ i.length + j.length ≤ sizeLine ∧ Q (.str (i ++ j)) H) x y H Q ∨ rCat x y H Q ∨ rCatA X.K x y H Q
theorem op_addU : OpR X (binaryOp .Add) (rAddU X) := op_add.or (op_add_ib.or (op_add_str.or (op_cat.or op_catA)))
theorem opd_add : OpD cm X (rAddU X) oAdd := fun B G H σ env v1 v2 d1 d2 d Q r y1 y2 c q => by
  cases y1 <;> cases y2 <;> simp only [oAdd] at c <;> try (cases c; done)
  · cases c; exact .inr (.inl ⟨_, _, rfl, rfl, q G H _ (Ex.refl G) r (.int _)⟩)
  · cases c; exact .inl ⟨_, _, rfl, rfl, q G H _ (Ex.refl G) r (.int _)⟩
  · split at c
    · cases c; exact .inr (.inr (.inl ⟨_, _, rfl, rfl, by assumption, q G H _ (Ex.refl G) r (.str _)⟩))
    · cases c
  · rename_i a vs ds h1 hs b ws es h2 hs2
    split at c
    · cases c
      refine .inr (.inr (.inr (.inl ⟨a, b, vs, ws, rfl, rfl, r.ex _ _ h1, r.ex _ _ h2, by rw [hs.length, hs2.length]; assumption, fun p hp => ?_⟩)))
      obtain ⟨r1, e1⟩ := r.alloc (o := .lst (vs ++ ws)) hp
      exact q _ _ _ e1 r1 (.lst upd_same ((hs.append hs2).mono e1))
    · cases c
  · rename_i a vs ds h1 hs b ws es h2 hs2
    split at c
    · cases c
      refine .inr (.inr (.inr (.inr ⟨a, b, vs, ws, rfl, rfl, ex_t r.ex h1, ex_t r.ex h2, by rw [hs.length, hs2.length]; assumption, fun e => ?_, fun e e' => ?_, fun e e' p hp => ?_⟩)))
      · subst e; cases hs
        exact q G H _ (Ex.refl G) r (.tup h2 hs2)
      · subst e'; cases hs2
        rw [List.append_nil] at q
        exact q G H _ (Ex.refl G) r (.tup h1 hs)
      · obtain ⟨r1, e1⟩ := r.alloc (o := .tup (vs ++ ws)) hp
        exact q _ _ _ e1 r1 (.tup (st_of upd_same) ((hs.append hs2).mono e1))
    · cases c
theorem opd_sub : OpD cm X (rI0 fun i j => .int (i - j)) oSub := fun B G H σ env v1 v2 d1 d2 d Q r y1 y2 c q => by
  cases y1 <;> cases y2 <;> simp only [oSub] at c <;> try (cases c; done)
  cases c; exact ⟨_, _, rfl, rfl, q G H _ (Ex.refl G) r (.int _)⟩
def rMulU (X : Cx) : R2 := fun x y H Q => rI CMul (fun i j => .int (i * j)) x y H Q ∨ rI CMulW (fun i j => .int (i * j)) x y H Q ∨ rRep x y H Q ∨ rRepT X.K x y H Q
theorem op_mulU : OpR X (binaryOp .Mult) (rMulU X) := op_mul.or (op_mulW.or (op_rep.or op_repT))
theorem opd_mul : OpD cm X (rMulU X) oMul := fun B G H σ env v1 v2 d1 d2 d Q r y1 y2 c q => by
  cases y1 <;> cases y2 <;> simp only [oMul] at c <;> try (cases c; done)
  · split at c
    · rename_i i j hh
      cases c
      unfold mulOk at hh
      rw [Bool.or_eq_true, decide_eq_true_eq, decide_eq_true_eq] at hh
      rcases hh with hh | hh
      · exact .inl ⟨i, j, rfl, rfl, hh, q G H _ (Ex.refl G) r (.int _)⟩
      · exact .inr (.inl ⟨i, j, rfl, rfl, hh, q G H _ (Ex.refl G) r (.int _)⟩)
    · cases c
  · rename_i a vs ds h1 hs k
    split at c
    · rename_i hh
      cases c
      refine .inr (.inr (.inl ⟨a, k, vs, rfl, rfl, r.ex _ _ h1, by omega, by omega, by rw [hs.length]; exact hh.2.2, fun p hp => ?_⟩))
      obtain ⟨r1, e1⟩ := r.alloc (o := .lst (List.replicate k.toNat vs).flatten) hp
      exact q _ _ _ e1 r1 (.lst upd_same ((hs.flat k.toNat).mono e1))
    · cases c
  · rename_i a vs ds h1 hs k
    split at c
    · rename_i hh
      cases c
      refine .inr (.inr (.inr ⟨a, k, vs, rfl, rfl, ex_t r.ex h1, hs.ne.mpr hh.1, hh.2.1, hh.2.2.1, by rw [hs.length]; exact hh.2.2.2, fun p hp => ?_⟩))
      obtain ⟨r1, e1⟩ := r.alloc (o := .tup (List.replicate k.toNat vs).flatten) hp
      exact q _ _ _ e1 r1 (.tup (st_of upd_same) ((hs.flat k.toNat).mono e1))
    · cases c
theorem opd_fdiv : OpD cm X (rI CDiv fun i j => .int (i / j)) oFdiv := fun B G H σ env v1 v2 d1 d2 d Q r y1 y2 c q => by
  cases y1 <;> cases y2 <;> simp only [oFdiv] at c <;> try (cases c; done)
  split at c
  · cases c; exact ⟨_, _, rfl, rfl, by assumption, q G H _ (Ex.refl G) r (.int _)⟩
  · cases c
theorem opd_mod : OpD cm X (rI (fun _ j => 0 < j) fun i j => .int (i % j)) oMod := fun B G H σ env v1 v2 d1 d2 d Q r y1 y2 c q => by
  cases y1 <;> cases y2 <;> simp only [oMod] at c <;> try (cases c; done)
  split at c
  · cases c; exact ⟨_, _, rfl, rfl, by assumption, q G H _ (Ex.refl G) r (.int _)⟩
  · cases c
theorem opd_pow : OpD cm X (rI CPow fun i j => .int (i ^ j.toNat)) oPow := fun B G H σ env v1 v2 d1 d2 d Q r y1 y2 c q => by
  cases y1 <;> cases y2 <;> simp only [oPow] at c <;> try (cases c; done)
  split at c
  · cases c; exact ⟨_, _, rfl, rfl, by assumption, q G H _ (Ex.refl G) r (.int _)⟩
  · cases c
theorem und_neg : UnD cm X (rU fun i => .int (-i)) oNeg := fun B G H σ env v1 d1 d Q r y1 c q => by
  cases y1 <;> simp only [oNeg] at c <;> try (cases c; done)
  cases c; exact ⟨_, rfl, q G H _ (Ex.refl G) r (.int _)⟩
theorem flat_of {K : PySem.W.Frag} {v1 v2 : V} {d1 d2 : D} {k : Bool} (y1 : Rp K cm G v1 d1) (y2 : Rp K cm G v2 d2) (h : flatEq d1 d2 = some k) : scal v1 v2 = true ∧ decide (v1 = v2) = k := by
  cases y1 <;> cases y2 <;> simp [flatEq] at h <;> subst h <;> exact ⟨rfl, by simp⟩
theorem lenD_of {d1 d2 : D} (h : lenD d1 d2 = true) : ∃ xs ys, d1 = .lst xs ∧ d2 = .lst ys ∧ xs.length ≠ ys.length := by
  cases d1 <;> cases d2 <;> simp [lenD] at h
  exact ⟨_, _, rfl, rfl, h⟩
theorem opd_eq : OpD cm X (rEqU X.K) oEq := fun B G H σ env v1 v2 d1 d2 d Q r y1 y2 c q => by
  unfold oEq at c
  split at c
  · obtain ⟨k, hk⟩ := Option.isSome_iff_exists.mp (by assumption)
    obtain ⟨f1, f2⟩ := flat_of y1 y2 hk
    rw [hk] at c
    cases c
    exact .inr (.inr ⟨f1, q G H _ (Ex.refl G) r (by rw [f2]; exact .bl _)⟩)
  split at c
  · rename_i hl
    obtain ⟨xs, ys, rfl, rfl, hn⟩ := lenD_of hl
    cases c
    cases y1 with | lst g1 h1 => cases y2 with | lst g2 h2 =>
      exact .inr (.inl ⟨_, _, _, _, rfl, rfl, SqL.of (r.ex _ _ g1), SqL.of (r.ex _ _ g2), by rw [h1.length, h2.length]; exact hn, q G H _ (Ex.refl G) r (.bl _)⟩)
  simp only [Option.bind_eq_some_iff] at c
  obtain ⟨p, e1, p', e2, c⟩ := c
  split at c
  · rename_i hh
    cases c
    exact .inl ⟨p, p', dp_both r.ex _ _ y1 p e1, dp_both r.ex _ _ y2 p' e2, hh.1, hh.2, q G H _ (Ex.refl G) r (.bl _)⟩
  · cases c
theorem opd_ne : OpD cm X (rNeU X.K) oNe := fun B G H σ env v1 v2 d1 d2 d Q r y1 y2 c q => by
  unfold oNe at c
  split at c
  · obtain ⟨k, hk⟩ := Option.isSome_iff_exists.mp (by assumption)
    obtain ⟨f1, f2⟩ := flat_of y1 y2 hk
    rw [hk] at c
    cases c
    exact .inr (.inr ⟨f1, q G H _ (Ex.refl G) r (by rw [f2]; exact .bl _)⟩)
  split at c
  · rename_i hl
    obtain ⟨xs, ys, rfl, rfl, hn⟩ := lenD_of hl
    cases c
    cases y1 with | lst g1 h1 => cases y2 with | lst g2 h2 =>
      exact .inr (.inl ⟨_, _, _, _, rfl, rfl, SqL.of (r.ex _ _ g1), SqL.of (r.ex _ _ g2), by rw [h1.length, h2.length]; exact hn, q G H _ (Ex.refl G) r (.bl _)⟩)
  simp only [Option.bind_eq_some_iff] at c
  obtain ⟨p, e1, p', e2, c⟩ := c
  split at c
  · rename_i hh
    cases c
    exact .inl ⟨p, p', dp_both r.ex _ _ y1 p e1, dp_both r.ex _ _ y2 p' e2, hh.1, hh.2, q G H _ (Ex.refl G) r (.bl _)⟩
  · cases c
theorem opd_lt : OpD cm X (rI0 fun i j => .bl (decide (i < j))) oLt := fun B G H σ env v1 v2 d1 d2 d Q r y1 y2 c q => by
  cases y1 <;> cases y2 <;> simp only [oLt] at c <;> try (cases c; done)
  cases c; exact ⟨_, _, rfl, rfl, q G H _ (Ex.refl G) r (.bl _)⟩
theorem opd_le : OpD cm X (rI0 fun i j => .bl (decide (i ≤ j))) oLe := fun B G H σ env v1 v2 d1 d2 d Q r y1 y2 c q => by
  cases y1 <;> cases y2 <;> simp only [oLe] at c <;> try (cases c; done)
  cases c; exact ⟨_, _, rfl, rfl, q G H _ (Ex.refl G) r (.bl _)⟩
theorem opd_gt : OpD cm X (rI0 fun i j => .bl (decide (j < i))) oGt := fun B G H σ env v1 v2 d1 d2 d Q r y1 y2 c q => by
  cases y1 <;> cases y2 <;> simp only [oGt] at c <;> try (cases c; done)
  cases c; exact ⟨_, _, rfl, rfl, q G H _ (Ex.refl G) r (.bl _)⟩
theorem opd_ge : OpD cm X (rI0 fun i j => .bl (decide (j ≤ i))) oGe := fun B G H σ env v1 v2 d1 d2 d Q r y1 y2 c q => by
  cases y1 <;> cases y2 <;> simp only [oGe] at c <;> try (cases c; done)
  cases c; exact ⟨_, _, rfl, rfl, q G H _ (Ex.refl G) r (.bl _)⟩
def rIsU : R2 := fun x y H Q => (fun x y H Q => y = .non ∧ Q (.bl (decide (x = .non))) H) x y H Q ∨ rIsB x y H Q
theorem op_isU : OpR X (compareOp .Is) rIsU := op_isN.or op_isBl
theorem opd_is : OpD cm X rIsU oIs := fun B G H σ env v1 v2 d1 d2 d Q r y1 y2 c q => by
  cases y2 with
  | non =>
    have e : oIs d1 .non = some (.bl (isNon d1)) := by cases d1 <;> rfl
    rw [e] at c
    cases c
    exact .inl ⟨rfl, by rw [isNon_iff y1]; exact q G H _ (Ex.refl G) r (.bl _)⟩
  | bl b =>
    cases y1 <;> simp only [oIs] at c <;> try (cases c; done)
    cases c
    exact .inr ⟨_, _, rfl, rfl, q G H _ (Ex.refl G) r (.bl _)⟩
  | _ => cases y1 <;> simp only [oIs] at c <;> cases c
def rIsNotU : R2 := fun x y H Q => (fun x y H Q => y = .non ∧ Q (.bl (!decide (x = .non))) H) x y H Q ∨ rNotB x y H Q
theorem op_isNotU : OpR X (compareOp .IsNot) rIsNotU := op_notN.or op_notBl
theorem opd_isNot : OpD cm X rIsNotU oIsNot := fun B G H σ env v1 v2 d1 d2 d Q r y1 y2 c q => by
  cases y2 with
  | non =>
    have e : oIsNot d1 .non = some (.bl (!isNon d1)) := by cases d1 <;> rfl
    rw [e] at c
    cases c
    exact .inl ⟨rfl, by rw [isNon_iff y1]; exact q G H _ (Ex.refl G) r (.bl _)⟩
  | bl b =>
    cases y1 <;> simp only [oIsNot] at c <;> try (cases c; done)
    cases c
    exact .inr ⟨_, _, rfl, rfl, q G H _ (Ex.refl G) r (.bl _)⟩
  | _ => cases y1 <;> simp only [oIsNot] at c <;> cases c
theorem opd_ix : OpD cm X (rIx X.K) oIx := fun B G H σ env v1 v2 d1 d2 d Q r y1 y2 c q => by
  cases y1 <;> cases y2 <;> simp only [oIx] at c <;> try (cases c; done)
  · split at c
    · rename_i i hh
      simp only [Option.map_eq_some_iff] at c
      obtain ⟨z, e1, rfl⟩ := c
      exact .inr (.inr ⟨_, _, z, rfl, rfl, by assumption, e1, q G H _ (Ex.refl G) r (.str _)⟩)
    · cases c
  · rename_i a vs ds h1 hs i
    obtain ⟨v, e1, y⟩ := hs.at c
    exact .inl ⟨a, vs, i, v, rfl, rfl, SqL.of (r.ex _ _ h1), e1, q G H _ (Ex.refl G) r y⟩
  · rename_i a vs ds h1 hs i
    obtain ⟨v, e1, y⟩ := hs.at c
    exact .inr (.inl ⟨a, vs, i, v, rfl, rfl, ex_t r.ex h1, e1, q G H _ (Ex.refl G) r y⟩)
end
end Vs

set_option Elab.async false
set_option linter.all false
set_option maxRecDepth 100000
set_option maxHeartbeats 4000000
/-! VsD: tests, argument lists, displays, slices, calls of built-ins. -/
namespace Vs
open PySem PySem.Spec PyProof.Rows L2 Evl

def oTru : D → Option Bool
  | .non => some false
  | .bl b => some b
  | .int i => some (i != 0)
  | .str x => if x.length ≤ sizeLine then some ((x.length : Int) != 0) else none
  | .lst xs => some (!xs.isEmpty)
  | .tup xs => some (!xs.isEmpty)
  | .dic kvs => some (!kvs.isEmpty)
  | .scr _ => none
  | .obj _ _ => none
  | .exn _ _ => none
def oBl : D → Option Bool
  | .bl b => some b
  | _ => none

section
variable {cm : Cm} {X : Cx} {B : Base} {G H : Hp} {σ : L2.St} {env : Vs.Env} {a b c e : Expr} {es rest : List Expr} {f g h : M D} {u w : M Bool} {pos : Pos}
theorem Rps.isEmpty {K : PySem.W.Frag} {vs : List V} {ds : List D} (h : Rps K cm G vs ds) : vs.isEmpty = ds.isEmpty := by cases h <;> rfl
theorem tru_of {K : PySem.W.Frag} {v : V} {d : D} {k : Bool} (ex : Ex G H) (y : Rp K cm G v d) (q : oTru d = some k) : TruV K v H k := by
  cases y <;> simp only [oTru] at q <;> try (cases q; done)
  · cases q; rfl
  · cases q; rfl
  · cases q; rfl
  · split at q
    · cases q; exact ⟨by assumption, rfl⟩
    · cases q
  · rename_i h1 hs
    cases q
    exact .inl ⟨_, SqL.of (ex _ _ h1), by rw [hs.isEmpty]⟩
  · rename_i h1 hs
    cases q
    exact .inr (.inl ⟨_, ex_t ex h1, by rw [hs.isEmpty]⟩)
  · rename_i a ks ds h1 h2 h3
    cases q
    refine .inr (.inr ⟨_, ex _ _ h1, ?_⟩)
    have e : ks.length = ds.length := by simpa using congrArg List.length h2
    cases ks <;> cases ds <;> first | rfl | (simp at e)

/-! ### tests -/
def eTru (f : M D) : M Bool := fun env => (f env).bind fun d env1 => R.opt (oTru d) env1
def eBl (f : M D) : M Bool := fun env => (f env).bind fun d env1 => R.opt (oBl d) env1
theorem ct_tru (ha : CE cm X a f) (he : ∀ whole, isTrue a X.env whole = (do let v ← whole; standAt a.pos; holding [v] (truthy v)) := by intro _; rfl) : CT cm X a (eTru f) := fun B tk =>
  (pt_truth (ha B tk) he).weak fun σ H Q ⟨G, env, r, q⟩ => want.bind r q fun d env1 G1 H1 v e1 r1 y q1 => by
    cases c : oTru d with
    | none => rw [c] at q1; exact q1.elim
    | some k => rw [c] at q1; exact ⟨k, tru_of r1.ex y c, q1 G1 H1 k (Ex.refl G1) r1 rfl⟩
theorem ct_cmp {op : CmpOp} {r : R2} {o : D → D → Option D} (ho : OpR X (compareOp op) r) (hr : OpD cm X r o) (ha : CE cm X a f) (hb : CE cm X b g) (hm : behindInMarks op b = false) : CT cm X (.Compare a [op] [b] pos) (eBl (eBin o f g)) := fun B tk =>
  (pt_cmpR ho (ha B tk) (hb B tk) hm).weak fun σ H Q ⟨G, env, r0, q⟩ => by
    refine tOp_of hr ?_
    refine want.bind r0 q fun d env1 G1 H1 v e1 r1 y q1 => ?_
    cases c : oBl d with
    | none => rw [c] at q1; exact q1.elim
    | some k =>
      rw [c] at q1
      cases d <;> simp only [oBl] at c <;> try (cases c; done)
      cases c
      cases y
      exact ⟨_, rfl, q1 G1 H1 _ (Ex.refl G1) r1 rfl⟩
def eAnd (u w : M Bool) : M Bool := fun env => (u env).bind fun b env1 => if b = true then w env1 else .ok false env1
def eOr (u w : M Bool) : M Bool := fun env => (u env).bind fun b env1 => if b = true then .ok true env1 else w env1
def eNot (u : M Bool) : M Bool := fun env => (u env).bind fun b env1 => .ok (!b) env1
theorem ct_w (h : CW cm X e u) : CT cm X e u := fun B tk => (h B tk).pt
theorem cw_and1 (h : CT cm X a u) : CW cm X (.BoolOp .And [a] pos) u := fun B tk => pw_and1 (h B tk)
theorem cw_or1 (h : CT cm X a u) : CW cm X (.BoolOp .Or [a] pos) u := fun B tk => pw_or1 (h B tk)
theorem cw_and (h : CT cm X a u) (h2 : CW cm X (.BoolOp .And (b :: rest) pos) w) : CW cm X (.BoolOp .And (a :: b :: rest) pos) (eAnd u w) := fun B tk =>
  (pw_and (h B tk) (h2 B tk)).weak fun σ H Q ⟨G, env, r, q⟩ => want.bind r q fun k env1 G1 H1 v e1 r1 y q1 => by
    cases y
    cases k with
    | true => exact iteT ⟨G1, env1, r1, q1⟩
    | false => exact iteF (q1 G1 H1 false (Ex.refl G1) r1 rfl)
theorem cw_or (h : CT cm X a u) (h2 : CW cm X (.BoolOp .Or (b :: rest) pos) w) : CW cm X (.BoolOp .Or (a :: b :: rest) pos) (eOr u w) := fun B tk =>
  (pw_or (h B tk) (h2 B tk)).weak fun σ H Q ⟨G, env, r, q⟩ => want.bind r q fun k env1 G1 H1 v e1 r1 y q1 => by
    cases y
    cases k with
    | true => exact iteT (q1 G1 H1 true (Ex.refl G1) r1 rfl)
    | false => exact iteF ⟨G1, env1, r1, q1⟩
theorem ct_not (h : CT cm X a u) : CT cm X (.UnaryOp .Not a pos) (eNot u) := fun B tk => (pt_not (h B tk)).weak fun σ H Q ⟨G, env, r, q⟩ => want.bind r q fun k env1 G1 H1 v e1 r1 y q1 => by
  cases y
  exact q1 G1 H1 _ (Ex.refl G1) r1 rfl
/-! ### .. as values -/
def eAndV (f g : M D) : M D := fun env => (f env).bind fun d env1 => match oTru d with
  | some true => g env1
  | some false => .ok d env1
  | none => .no
def eOrV (f g : M D) : M D := fun env => (f env).bind fun d env1 => match oTru d with
  | some false => g env1
  | some true => .ok d env1
  | none => .no
def eNotV (f : M D) : M D := fun env => (f env).bind fun d env1 => (R.opt (oTru d) env1).bind fun k env2 => .ok (.bl (!k)) env2
theorem ce_one {op} (h : CE cm X a f) : CE cm X (.BoolOp op [a] pos) f := fun B tk => pe_one (h B tk)
theorem ce_and (h : CE cm X a f) (h2 : CE cm X (.BoolOp .And (b :: rest) pos) g) : CE cm X (.BoolOp .And (a :: b :: rest) pos) (eAndV f g) := fun B tk =>
  (pe_andT (h B tk) (h2 B tk)).weak fun σ H Q ⟨G, env, r, q⟩ => want.bind r q fun d env1 G1 H1 v e1 r1 y q1 => by
    cases c : oTru d with
    | none => rw [c] at q1; exact q1.elim
    | some k =>
      rw [c] at q1
      cases k with
      | true => exact ⟨true, tru_of r1.ex y c, iteT ⟨G1, env1, r1, q1⟩⟩
      | false => exact ⟨false, tru_of r1.ex y c, iteF (q1 G1 H1 v (Ex.refl G1) r1 y)⟩
theorem ce_or (h : CE cm X a f) (h2 : CE cm X (.BoolOp .Or (b :: rest) pos) g) : CE cm X (.BoolOp .Or (a :: b :: rest) pos) (eOrV f g) := fun B tk =>
  (pe_orT (h B tk) (h2 B tk)).weak fun σ H Q ⟨G, env, r, q⟩ => want.bind r q fun d env1 G1 H1 v e1 r1 y q1 => by
    cases c : oTru d with
    | none => rw [c] at q1; exact q1.elim
    | some k =>
      rw [c] at q1
      cases k with
      | true => exact ⟨true, tru_of r1.ex y c, iteT (q1 G1 H1 v (Ex.refl G1) r1 y)⟩
      | false => exact ⟨false, tru_of r1.ex y c, iteF ⟨G1, env1, r1, q1⟩⟩
theorem ce_not (h : CE cm X a f) : CE cm X (.UnaryOp .Not a pos) (eNotV f) := fun B tk => (pe_notT (h B tk)).weak fun σ H Q ⟨G, env, r, q⟩ => want.bind r q fun d env1 G1 H1 v e1 r1 y q1 => by
  cases c : oTru d with
  | none => rw [c] at q1; exact q1.elim
  | some k => rw [c] at q1; exact ⟨k, tru_of r1.ex y c, q1 G1 H1 _ (Ex.refl G1) r1 (.bl _)⟩
def eIf (u : M Bool) (f g : M D) : M D := fun env => (u env).bind fun b env1 => if b = true then f env1 else g env1
theorem ce_if (hc : CT cm X c u) (ha : CE cm X a f) (hb : CE cm X b g) : CE cm X (.IfExp c a b pos) (eIf u f g) := fun B tk => (pe_ifExp (hc B tk) (ha B tk) (hb B tk)).weak fun σ H Q ⟨G, env, r, q⟩ => want.bind r q fun k env1 G1 H1 v e1 r1 y q1 => by
  cases y
  cases k with
  | true => exact iteT ⟨G1, env1, r1, q1⟩
  | false => exact iteF ⟨G1, env1, r1, q1⟩
/-- a op1 b op2 c -/
def eChain (o o' : D → D → Option D) (f g h : M D) : M D := fun env => (f env).bind fun x env1 => (g env1).bind fun y env2 => (R.opt ((o x y).bind oBl) env2).bind fun k env3 =>
  if k = true then (h env3).bind fun z env4 => R.opt (o' y z) env4 else .ok (.bl false) env3
theorem ce_chain {op op' : CmpOp} {r r' : R2} {o o' : D → D → Option D} (ho : OpR X (compareOp op) r) (hr : OpD cm X r o) (ho' : OpR X (compareOp op') r') (hr' : OpD cm X r' o') (ha : CE cm X a f) (hb : CE cm X b g) (hc : CE cm X c h)
    (h1 : lastMarks [op, op'] [b, c] = false := by rfl) : CE cm X (.Compare a [op, op'] [b, c] pos) (eChain o o' f g h) := fun B tk => (pe_chain ho ho' (ha B tk) (hb B tk) (hc B tk) h1).weak fun σ H Q ⟨G, env, r0, q⟩ =>
  want.bind r0 q fun x env1 G1 H1 v1 e1 r1 y1 q1 => want.bind r1 q1 fun y env2 G2 H2 v2 e2 r2 y2 q2 => by
    cases cc : o x y with
    | none => rw [cc] at q2; exact q2.elim
    | some d =>
      rw [cc] at q2
      cases c3 : oBl d with
      | none => simp only [Option.bind_some, c3] at q2; exact q2.elim
      | some k =>
        simp only [Option.bind_some, c3, R.opt_some, R.bind_ok] at q2
        refine hr B G2 H2 σ env2 v1 v2 x y d _ r2 (Rp.mono e2 y1) y2 cc fun G3 H3 v3 e3 r3 y3 => ?_
        cases d <;> simp only [oBl] at c3 <;> try (cases c3; done)
        cases c3
        cases y3
        refine ⟨_, rfl, ?_⟩
        rename_i k
        cases k with
        | true =>
          refine iteT ?_
          refine want.bind r3 (want.mono e3 q2) fun z env4 G4 H4 v4 e4 r4 y4 q4 => ?_
          cases c5 : o' y z with
          | none => rw [c5] at q4; exact q4.elim
          | some dd =>
            rw [c5] at q4
            exact hr' B G4 H4 σ env4 v2 v4 y z dd Q r4 (Rp.mono (e3.trans e4) y2) y4 c5 q4
        | false => exact iteF (q2 G3 H3 _ e3 r3 (.bl _))
/-- .. as a test -/
theorem ct_chain {op op' : CmpOp} {r r' : R2} {o o' : D → D → Option D} (ho : OpR X (compareOp op) r) (hr : OpD cm X r o) (ho' : OpR X (compareOp op') r') (hr' : OpD cm X r' o') (ha : CE cm X a f) (hb : CE cm X b g) (hc : CE cm X c h)
    (h1 : lastMarks [op, op'] [b, c] = false := by rfl) : CT cm X (.Compare a [op, op'] [b, c] pos) (eBl (eChain o o' f g h)) := fun B tk => (pt_chain ho ho' (ha B tk) (hb B tk) (hc B tk) h1).weak fun σ H Q ⟨G, env, r0, q⟩ => by
  have hh := ce_chain (pos := pos) ho hr ho' hr' ha hb hc h1
  show tChain r r' _ _ _ σ H fun x H' => ∃ k, x = .bl k ∧ Q k H'
  have key : ∀ Q1 : VK, tG X.K cm (YV X.K cm) B (eChain o o' f g h) σ H Q1 → tChain r r' (tG X.K cm (YV X.K cm) B f) (tG X.K cm (YV X.K cm) B g) (tG X.K cm (YV X.K cm) B h) σ H Q1 := fun Q1 ⟨G, env, r0, q⟩ =>
    want.bind r0 q fun x env1 G1 H1 v1 e1 r1 y1 q1 => want.bind r1 q1 fun y env2 G2 H2 v2 e2 r2 y2 q2 => by
      cases cc : o x y with
      | none => rw [cc] at q2; exact q2.elim
      | some d =>
        rw [cc] at q2
        cases c3 : oBl d with
        | none => simp only [Option.bind_some, c3] at q2; exact q2.elim
        | some k =>
          simp only [Option.bind_some, c3, R.opt_some, R.bind_ok] at q2
          refine hr B G2 H2 σ env2 v1 v2 x y d _ r2 (Rp.mono e2 y1) y2 cc fun G3 H3 v3 e3 r3 y3 => ?_
          cases d <;> simp only [oBl] at c3 <;> try (cases c3; done)
          cases c3
          cases y3
          refine ⟨_, rfl, ?_⟩
          rename_i k
          cases k with
          | true =>
            refine iteT ?_
            refine want.bind r3 (want.mono e3 q2) fun z env4 G4 H4 v4 e4 r4 y4 q4 => ?_
            cases c5 : o' y z with
            | none => rw [c5] at q4; exact q4.elim
            | some dd =>
              rw [c5] at q4
              exact hr' B G4 H4 σ env4 v2 v4 y z dd Q1 r4 (Rp.mono (e3.trans e4) y2) y4 c5 q4
          | false => exact iteF (q2 G3 H3 _ e3 r3 (.bl _))
  refine key _ ?_
  refine want.bind r0 q fun d env1 G1 H1 v e1 r1 y q1 => ?_
  cases c : oBl d with
  | none => rw [c] at q1; exact q1.elim
  | some k =>
    rw [c] at q1
    cases d <;> simp only [oBl] at c <;> try (cases c; done)
    cases c
    cases y
    exact ⟨_, rfl, q1 G1 H1 _ (Ex.refl G1) r1 rfl⟩

/-! ### argument lists of data -/
def YD (K : PySem.W.Frag) (cm : Cm) : Hp → L2.St → List V → List D → Prop := fun G _ vs ds => Rps K cm G vs ds
variable (cm X) in
def CD (es : List Expr) (f : M (List D)) : Prop := ∀ B : Base, Fit cm X B → PA X es (tG X.K cm (YD X.K cm) B f)
def eNil : M (List D) := fun env => .ok [] env
def eCons (f : M D) (g : M (List D)) : M (List D) := fun env => (f env).bind fun d env1 => (g env1).bind fun ds env2 => .ok (d :: ds) env2
theorem cd_nil : CD cm X [] eNil := fun B tk => pa_nil.weak fun σ H Q ⟨G, env, r, q⟩ => q G H [] (Ex.refl G) r .nil
theorem cd_cons {l : M (List D)} (h : CE cm X e f) (h2 : CD cm X es l) (hs : starEach (e :: es) X.env = (false, eval e X.env) :: starEach es X.env := by rfl) : CD cm X (e :: es) (eCons f l) := fun B tk => (pa_cons (h B tk) (h2 B tk) hs).weak fun σ H Q ⟨G, env, r, q⟩ =>
  want.bind r q fun d env1 G1 H1 v e1 r1 y1 q1 => want.bind r1 q1 fun ds env2 G2 H2 vs e2 r2 y2 q2 => q2 G2 H2 _ (Ex.refl G2) r2 (.cons (Rp.mono e2 y1) y2)
/-! ### displays -/
def eLst (l : M (List D)) : M D := fun env => (l env).bind fun ds env1 => if ds.length ≤ sizeLine then .ok (.lst ds) env1 else .no
def eTup (l : M (List D)) : M D := fun env => (l env).bind fun ds env1 => if ds.length ≤ sizeLine then .ok (.tup ds) env1 else .no
theorem ce_lst {l : M (List D)} (h : CD cm X es l) : CE cm X (.List es pos) (eLst l) := fun B tk => (pe_lst (h B tk)).weak fun σ H Q ⟨G, env, r, q⟩ => want.bind r q fun ds env1 G1 H1 vs e1 r1 y1 q1 => by
  by_cases hz : ds.length ≤ sizeLine
  · rw [if_pos hz] at q1
    refine ⟨by rw [Rps.length y1]; exact hz, fun p hp => ?_⟩
    obtain ⟨r2, e2⟩ := r1.alloc (o := .lst vs) hp
    exact q1 _ _ _ e2 r2 (.lst upd_same (Rps.mono e2 y1))
  · rw [if_neg hz] at q1; exact q1.elim
theorem ce_tup {l : M (List D)} {x1} (h : CD cm X es l) : CE cm X (.Tuple es x1 pos) (eTup l) := fun B tk => (pe_tup (h B tk)).weak fun σ H Q ⟨G, env, r, q⟩ => want.bind r q fun ds env1 G1 H1 vs e1 r1 y1 q1 => by
  by_cases hz : ds.length ≤ sizeLine
  · rw [if_pos hz] at q1
    refine ⟨by rw [Rps.length y1]; exact hz, fun p hp => ?_⟩
    obtain ⟨r2, e2⟩ := r1.alloc (o := .tup vs) hp
    exact q1 _ _ _ e2 r2 (.tup (st_of upd_same) (Rps.mono e2 y1))
  · rw [if_neg hz] at q1; exact q1.elim
/-! ### slices -/
def YO : Hp → L2.St → Option Int → Option Int → Prop := fun _ _ b a => b = a
variable (cm X) in
def CO (e : Option Expr) (f : M (Option Int)) : Prop := ∀ B : Base, Fit cm X B → PO X e (tG X.K cm YO B f)
theorem _root_.L2.PO.weak {X : Cx} {e : Option Expr} {t t' : TO} (h : PO X e t) (w : ∀ σ H Q, t' σ H Q → t σ H Q) : PO X e t' := ⟨fun pins s σ H Q I q => h.run pins s σ H Q I (w _ _ _ q)⟩
def eNoP : M (Option Int) := fun env => .ok none env
def eP (f : M D) : M (Option Int) := fun env => (f env).bind fun d env1 => match d with
  | .int i => .ok (some i) env1
  | _ => .no
theorem co_none : CO cm X none eNoP := fun B tk => po_none.weak fun σ H Q ⟨G, env, r, q⟩ => q G H none (Ex.refl G) r rfl
theorem co_some (h : CE cm X e f) : CO cm X (some e) (eP f) := fun B tk => (po_some (h B tk)).weak fun σ H Q ⟨G, env, r, q⟩ => want.bind r q fun d env1 G1 H1 v e1 r1 y1 q1 => by
  cases y1 <;> try (exact q1.elim)
  exact ⟨_, rfl, q1 G1 H1 _ (Ex.refl G1) r1 rfl⟩
variable (cm X) in
def SlD (r : V → Option Int → Option Int → Hp → VK → Prop) (o : D → Option Int → Option Int → Option D) : Prop := ∀ (B : Base) (G H : Hp) (σ : L2.St) (env : Vs.Env) (v1 : V) (d1 d : D) (lo hi : Option Int) (Q : VK), Rel X.K cm B G H σ env → Rp X.K cm G v1 d1 → o d1 lo hi = some d →
  (∀ G' H' v, Ex G G' → Rel X.K cm B G' H' σ env → Rp X.K cm G' v d → Q v H') → r v1 lo hi H Q
def cutD {α : Type} (xs : List α) (lo hi : Option Int) : List α := (xs.drop (HT.sIx xs.length 0 lo)).take (HT.sIx xs.length xs.length hi - HT.sIx xs.length 0 lo)
theorem Rps.cut {K : PySem.W.Frag} {vs : List V} {ds : List D} (h : Rps K cm G vs ds) (lo hi : Option Int) : Rps K cm G (cutV vs lo hi) (cutD ds lo hi) := by
  unfold cutV cutD
  rw [h.length]
  exact (h.drop _).take _
def oSl : D → Option Int → Option Int → Option D
  | .lst xs, lo, hi => some (.lst (cutD xs lo hi))
  | .tup xs, lo, hi => some (.tup (cutD xs lo hi))
  | .scr ns, lo, hi => some (.lst ((cutD ns lo hi).map D.int))
  | _, _, _ => none
theorem cut_whole {α : Type} {xs : List α} {lo hi : Option Int} (h : HT.sIx xs.length 0 lo = 0 ∧ HT.sIx xs.length xs.length hi = xs.length) : cutD xs lo hi = xs := by
  unfold cutD
  rw [h.1, h.2]
  simp
theorem cutD_map {α β : Type} (k : α → β) (xs : List α) (lo hi : Option Int) : cutD (xs.map k) lo hi = (cutD xs lo hi).map k := by
  unfold cutD
  rw [List.length_map, List.map_take, List.map_drop]
def rSlU (X : Cx) : V → Option Int → Option Int → Hp → VK → Prop := fun x lo hi H Q => rSlL X.K x lo hi H Q ∨ rSlA X.K x lo hi H Q
theorem sl_U : SlR X (rSlU X) := sl_list.or sl_tupA
theorem sld_U : SlD cm X (rSlU X) oSl := fun B G H σ env v1 d1 d lo hi Q r y1 c q => by
  cases y1 <;> simp only [oSl] at c <;> try (cases c; done)
  · rename_i a ns h1
    cases c
    refine .inl ⟨a, ns.map V.int, rfl, ex_l r.ex h1, fun p hp => ?_⟩
    obtain ⟨r1, e1⟩ := r.alloc (o := .lst (cutV (ns.map V.int) lo hi)) hp
    refine q _ _ _ e1 r1 (.lst upd_same ?_)
    have z : cutV (ns.map V.int) lo hi = (cutD ns lo hi).map V.int := cutD_map V.int ns lo hi
    rw [z]
    exact Rps.of_ints _
  · rename_i a vs ds h1 hs
    cases c
    refine .inl ⟨a, vs, rfl, SqL.of (r.ex _ _ h1), fun p hp => ?_⟩
    obtain ⟨r1, e1⟩ := r.alloc (o := .lst (cutV vs lo hi)) hp
    exact q _ _ _ e1 r1 (.lst upd_same ((hs.cut lo hi).mono e1))
  · rename_i a vs ds h1 hs
    cases c
    refine .inr ⟨a, vs, rfl, ex_t r.ex h1, fun hw => ?_, fun hw p hp => ?_⟩
    · rw [hs.length] at hw
      rw [cut_whole hw] at q
      exact q G H _ (Ex.refl G) r (.tup h1 hs)
    · obtain ⟨r1, e1⟩ := r.alloc (o := .tup (cutV vs lo hi)) hp
      exact q _ _ _ e1 r1 (.tup (st_of upd_same) ((hs.cut lo hi).mono e1))
def eSl (f : M D) (lo hi : M (Option Int)) : M D := fun env => (f env).bind fun d env1 => (lo env1).bind fun l env2 => (hi env2).bind fun u env3 => R.opt (oSl d l u) env3
theorem ce_sl {lo hi : Option Expr} {l u : M (Option Int)} {p2 : Pos} (he : CE cm X e f) (hl : CO cm X lo l) (hu : CO cm X hi u) : CE cm X (.Subscript e (.Slice lo hi none p2) pos) (eSl f l u) := fun B tk =>
  (pe_slice sl_U (he B tk) (hl B tk) (hu B tk)).weak fun σ H Q ⟨G, env, r, q⟩ => want.bind r q fun d env1 G1 H1 v e1 r1 y1 q1 => want.bind r1 q1 fun l env2 G2 H2 v2 e2 r2 y2 q2 => want.bind r2 q2 fun u env3 G3 H3 v3 e3 r3 y3 q3 => by
    cases y2
    cases y3
    cases c : oSl d l u with
    | none => rw [c] at q3; exact q3.elim
    | some dd =>
      rw [c] at q3
      exact sld_U B G3 H3 σ env3 v d dd l u Q r3 (Rp.mono (e2.trans e3) y1) c q3
/-- xs[::-1] -/
def eRev (f : M D) : M D := fun env => (f env).bind fun d env1 => match d with
  | .lst xs => .ok (.lst xs.reverse) env1
  | _ => .no
theorem ce_rev {k : Nat} {p1 p2 p3 : Pos} (he : CE cm X e f) : CE cm X (.Subscript e (.Slice none none (some (.UnaryOp .USub (.Constant (.int 1) k p1) p2)) p3) pos) (eRev f) := fun B tk =>
  (pe_revL (he B tk)).weak fun σ H Q ⟨G, env, r, q⟩ => want.bind r q fun d env1 G1 H1 v e1 r1 y1 q1 => by
    cases y1 <;> try (exact q1.elim)
    rename_i a vs ds h1 hs
    refine ⟨a, vs, rfl, SqL.of (r1.ex _ _ h1), fun p hp => ?_⟩
    obtain ⟨r2, e2⟩ := r1.alloc (o := .lst vs.reverse) hp
    exact q1 _ _ _ e2 r2 (.lst upd_same ((hs.reverse).mono e2))

/-! ### calls of built-ins -/
def eCal (o : List D → Option D) (l : M (List D)) : M D := fun env => (l env).bind fun ds env1 => R.opt (o ds) env1
theorem tCB_of {r : List V → Hp → VK → Prop} {o : List D → Option D} {l : M (List D)} {Q : VK} (hr : CaD cm X r o) (q : tG X.K cm (YV X.K cm) B (eCal o l) σ H Q) : tCB r (tG X.K cm (YD X.K cm) B l) σ H Q := by
  obtain ⟨G, env, r0, q⟩ := q
  refine want.bind r0 q fun ds env1 G1 H1 vs e1 r1 y1 q1 => ?_
  cases c : o ds with
  | none => rw [c] at q1; exact q1.elim
  | some d =>
    rw [c] at q1
    exact hr B G1 H1 σ env1 vs ds d Q r1 y1 c q1
variable {x : Str} {p : Pos} {id T : String} {r : List V → Hp → VK → Prop} {o : List D → Option D} {l : M (List D)}
theorem ce_calB (hc : CallR X (.builtin id) r) (hr : CaD cm X r o) (hg : Gl X x) (hm : X.mg x = none) (hv : bootBuiltins x = some (.builtin id)) (ha : CD cm X (e :: es) l) (hn : x ≠ "__name__" := by decide) (hdb : (x == ("__debug__" : Str)) = false := by decide)
    (he : starEach (e :: es) X.env = (false, eval e X.env) :: starEach es X.env := by rfl) (hpl : (backTo pos (starEach es X.env)).any (·.1) = false := by rfl) : CE cm X (.Call (.Name x p) (e :: es) [] pos) (eCal o l) := fun B tk =>
  (pe_callB hc hg hm hv (ha B tk) hn hdb he hpl).weak fun σ H Q q => tCB_of hr q
theorem ce_calT (hc : CallR X (.type T) r) (hr : CaD cm X r o) (hg : Gl X x) (hm : X.mg x = none) (hv : bootBuiltins x = some (.type T)) (ha : CD cm X (e :: es) l) (hn : x ≠ "__name__" := by decide) (hdb : (x == ("__debug__" : Str)) = false := by decide)
    (he : starEach (e :: es) X.env = (false, eval e X.env) :: starEach es X.env := by rfl) (hpl : (backTo pos (starEach es X.env)).any (·.1) = false := by rfl) : CE cm X (.Call (.Name x p) (e :: es) [] pos) (eCal o l) := fun B tk =>
  (pe_callTy hc hg hm hv (ha B tk) hn hdb he hpl).weak fun σ H Q q => tCB_of hr q
end

/-! ### the built-ins by data -/
def oLen : List D → Option D
  | [.lst xs] => some (.int xs.length)
  | [.tup xs] => some (.int xs.length)
  | [.str x] => if x.length ≤ sizeLine then some (.int x.length) else none
  | _ => none
def oAbs : List D → Option D
  | [.int i] => some (.int (if i < 0 then -i else i))
  | _ => none
def oIntC : List D → Option D
  | [.int i] => some (.int i)
  | [.bl b] => some (.int (if b then 1 else 0))
  | _ => none
def oMax2 : List D → Option D
  | [.int i, .int j] => some (.int (if j > i then j else i))
  | _ => none
def oMin2 : List D → Option D
  | [.int i, .int j] => some (.int (if j < i then j else i))
  | _ => none
def blsOf : List D → Option (List Bool)
  | [] => some []
  | .bl b :: ds => (blsOf ds).map (b :: ·)
  | _ => none
def intsOf : List D → Option (List Int)
  | [] => some []
  | .int b :: ds => (intsOf ds).map (b :: ·)
  | _ => none
def oAll : List D → Option D
  | [.lst xs] => (blsOf xs).map fun bs => .bl (bs.all id)
  | _ => none
def oAny : List D → Option D
  | [.lst xs] => (blsOf xs).map fun bs => .bl (bs.any id)
  | _ => none
def oSum : List D → Option D
  | [.lst xs] => (intsOf xs).map fun ns => .int ns.sum
  | _ => none
def oTupC : List D → Option D
  | [.lst xs] => some (.tup xs)
  | [.tup xs] => some (.tup xs)
  | _ => none
def oLstC : List D → Option D
  | [.lst xs] => some (.lst xs)
  | [.tup xs] => some (.lst xs)
  | _ => none
section
variable {cm : Cm} {X : Cx} {G H : Hp}
theorem bls_of {K : PySem.W.Frag} : ∀ {ds : List D} {vs : List V} {bs : List Bool}, Rps K cm G vs ds → blsOf ds = some bs → vs = bs.map V.bl
  | [], vs, bs, h, e => by
    cases h
    simp only [blsOf, Option.some.injEq] at e
    subst e; rfl
  | d :: ds, vs, bs, h, e => by
    cases h with
    | cons h1 h2 =>
      cases d <;> simp only [blsOf] at e <;> try (cases e; done)
      simp only [Option.map_eq_some_iff] at e
      obtain ⟨bs', e1, rfl⟩ := e
      cases h1
      rw [bls_of h2 e1]; rfl
theorem ints_of {K : PySem.W.Frag} : ∀ {ds : List D} {vs : List V} {bs : List Int}, Rps K cm G vs ds → intsOf ds = some bs → vs = bs.map V.int
  | [], vs, bs, h, e => by
    cases h
    simp only [intsOf, Option.some.injEq] at e
    subst e; rfl
  | d :: ds, vs, bs, h, e => by
    cases h with
    | cons h1 h2 =>
      cases d <;> simp only [intsOf] at e <;> try (cases e; done)
      simp only [Option.map_eq_some_iff] at e
      obtain ⟨bs', e1, rfl⟩ := e
      cases h1
      rw [ints_of h2 e1]; rfl
/-- one argument -/
theorem Rps.one {K : PySem.W.Frag} {vs : List V} {d : D} (h : Rps K cm G vs [d]) : ∃ v, vs = [v] ∧ Rp K cm G v d := by
  cases h with | cons h1 h2 => cases h2; exact ⟨_, rfl, h1⟩
theorem Rps.two {K : PySem.W.Frag} {vs : List V} {d d' : D} (h : Rps K cm G vs [d, d']) : ∃ v v', vs = [v, v'] ∧ Rp K cm G v d ∧ Rp K cm G v' d' := by
  cases h with | cons h1 h2 => cases h2 with | cons h2 h3 => cases h3; exact ⟨_, _, rfl, h1, h2⟩
def rLenU (X : Cx) : List V → Hp → VK → Prop := fun xs H Q => (∃ p ys, xs = [.ref p] ∧ (SqL X.K H p ys ∨ SqT X.K H p ys) ∧ Q (.int ys.length) H) ∨ (∃ z, xs = [.str z] ∧ z.length ≤ sizeLine ∧ Q (.int z.length) H)
theorem call_lenU : CallR X (.builtin "len") (rLenU X) := call_len_seq.or call_len_str
theorem cad_len : CaD cm X (rLenU X) oLen := fun B G H σ env vs ds d Q r ys c q => by
  unfold oLen at c
  split at c
  · cases c
    obtain ⟨v, rfl, y⟩ := ys.one
    cases y with
    | lst h1 hs => exact .inl ⟨_, _, rfl, .inl (SqL.of (r.ex _ _ h1)), by rw [hs.length]; exact q G H _ (Ex.refl G) r (.int _)⟩
  · cases c
    obtain ⟨v, rfl, y⟩ := ys.one
    cases y with
    | tup h1 hs => exact .inl ⟨_, _, rfl, .inr (ex_t r.ex h1), by rw [hs.length]; exact q G H _ (Ex.refl G) r (.int _)⟩
  · split at c
    · cases c
      obtain ⟨v, rfl, y⟩ := ys.one
      cases y
      exact .inr ⟨_, rfl, by assumption, q G H _ (Ex.refl G) r (.int _)⟩
    · cases c
  · cases c
theorem cad_abs : CaD cm X (fun xs H Q => ∃ i, xs = [.int i] ∧ Q (.int (if i < 0 then -i else i)) H) oAbs := fun B G H σ env vs ds d Q r ys c q => by
  unfold oAbs at c
  split at c
  · cases c
    obtain ⟨v, rfl, y⟩ := ys.one
    cases y
    exact ⟨_, rfl, q G H _ (Ex.refl G) r (.int _)⟩
  · cases c
theorem cad_int : CaD cm X (fun xs H Q => (∃ i, xs = [.int i] ∧ Q (.int i) H) ∨ ∃ k, xs = [.bl k] ∧ Q (.int (if k then 1 else 0)) H) oIntC := fun B G H σ env vs ds d Q r ys c q => by
  unfold oIntC at c
  split at c
  · cases c
    obtain ⟨v, rfl, y⟩ := ys.one
    cases y
    exact .inl ⟨_, rfl, q G H _ (Ex.refl G) r (.int _)⟩
  · cases c
    obtain ⟨v, rfl, y⟩ := ys.one
    cases y
    exact .inr ⟨_, rfl, q G H _ (Ex.refl G) r (.int _)⟩
  · cases c
theorem cad_max2 : CaD cm X (fun xs H Q => ∃ i j, xs = [.int i, .int j] ∧ Q (.int (if j > i then j else i)) H) oMax2 := fun B G H σ env vs ds d Q r ys c q => by
  unfold oMax2 at c
  split at c
  · cases c
    obtain ⟨v, v', rfl, y, y'⟩ := ys.two
    cases y; cases y'
    exact ⟨_, _, rfl, q G H _ (Ex.refl G) r (.int _)⟩
  · cases c
theorem cad_min2 : CaD cm X (fun xs H Q => ∃ i j, xs = [.int i, .int j] ∧ Q (.int (if j < i then j else i)) H) oMin2 := fun B G H σ env vs ds d Q r ys c q => by
  unfold oMin2 at c
  split at c
  · cases c
    obtain ⟨v, v', rfl, y, y'⟩ := ys.two
    cases y; cases y'
    exact ⟨_, _, rfl, q G H _ (Ex.refl G) r (.int _)⟩
  · cases c
theorem cad_all : CaD cm X (rAll X.K) oAll := fun B G H σ env vs ds d Q r ys c q => by
  unfold oAll at c
  split at c
  · simp only [Option.map_eq_some_iff] at c
    obtain ⟨bs, e1, rfl⟩ := c
    obtain ⟨v, rfl, y⟩ := ys.one
    cases y with
    | lst h1 hs => exact ⟨_, bs, rfl, by rw [← bls_of hs e1]; exact SqL.of (r.ex _ _ h1), q G H _ (Ex.refl G) r (.bl _)⟩
  · cases c
theorem cad_any : CaD cm X (rAny X.K) oAny := fun B G H σ env vs ds d Q r ys c q => by
  unfold oAny at c
  split at c
  · simp only [Option.map_eq_some_iff] at c
    obtain ⟨bs, e1, rfl⟩ := c
    obtain ⟨v, rfl, y⟩ := ys.one
    cases y with
    | lst h1 hs => exact ⟨_, bs, rfl, by rw [← bls_of hs e1]; exact SqL.of (r.ex _ _ h1), q G H _ (Ex.refl G) r (.bl _)⟩
  · cases c
theorem cad_sum : CaD cm X (rSum X.K) oSum := fun B G H σ env vs ds d Q r ys c q => by
  unfold oSum at c
  split at c
  · simp only [Option.map_eq_some_iff] at c
    obtain ⟨bs, e1, rfl⟩ := c
    obtain ⟨v, rfl, y⟩ := ys.one
    cases y with
    | lst h1 hs => exact ⟨_, bs, rfl, by rw [← ints_of hs e1]; exact SqL.of (r.ex _ _ h1), q G H _ (Ex.refl G) r (.int _)⟩
  · cases c
theorem cad_tup : CaD cm X (fun xs H Q => ∃ p ys, xs = [.ref p] ∧ ((SqL X.K H p ys ∧ ∀ l, H l = none → Q (.ref l) (upd H l (.tup ys))) ∨ (SqT X.K H p ys ∧ Q (.ref p) H))) oTupC := fun B G H σ env vs ds d Q r ys c q => by
  unfold oTupC at c
  split at c
  · cases c
    obtain ⟨v, rfl, y⟩ := ys.one
    cases y with
    | lst h1 hs =>
      refine ⟨_, _, rfl, .inl ⟨SqL.of (r.ex _ _ h1), fun p hp => ?_⟩⟩
      obtain ⟨r2, e2⟩ := r.alloc (o := .tup _) hp
      exact q _ _ _ e2 r2 (.tup (st_of upd_same) (hs.mono e2))
  · cases c
    obtain ⟨v, rfl, y⟩ := ys.one
    cases y with
    | tup h1 hs => exact ⟨_, _, rfl, .inr ⟨ex_t r.ex h1, q G H _ (Ex.refl G) r (.tup h1 hs)⟩⟩
  · cases c
theorem cad_lst : CaD cm X (fun xs H Q => ∃ p ys, xs = [.ref p] ∧ (SqL X.K H p ys ∨ SqT X.K H p ys) ∧ ∀ l, H l = none → Q (.ref l) (upd H l (.lst ys))) oLstC := fun B G H σ env vs ds d Q r ys c q => by
  unfold oLstC at c
  split at c
  · cases c
    obtain ⟨v, rfl, y⟩ := ys.one
    cases y with
    | lst h1 hs =>
      refine ⟨_, _, rfl, .inl (SqL.of (r.ex _ _ h1)), fun p hp => ?_⟩
      obtain ⟨r2, e2⟩ := r.alloc (o := .lst _) hp
      exact q _ _ _ e2 r2 (.lst upd_same (hs.mono e2))
  · cases c
    obtain ⟨v, rfl, y⟩ := ys.one
    cases y with
    | tup h1 hs =>
      refine ⟨_, _, rfl, .inr (ex_t r.ex h1), fun p hp => ?_⟩
      obtain ⟨r2, e2⟩ := r.alloc (o := .lst _) hp
      exact q _ _ _ e2 r2 (.lst upd_same (hs.mono e2))
  · cases c
end
end Vs

set_option Elab.async false
set_option linter.all false
set_option maxRecDepth 100000
set_option maxHeartbeats 4000000
/-! VsD2: a def's promise where no repr is under way (needed for repr of what has parts); the law's head for it. -/
namespace Vs
open PySem PySem.Spec PyProof.Rows L2 Evl

/-- a def keeps its promise, called while nothing is being shown -/
structure FnG (P : Program) (w : World) (K : PySem.W.Frag) (mg : Str → Option Value) (base : Heap) (k : Nat) (f : Addr) (fd : FuncData) (ps : List Str) (sp : Sp) : Prop where
  many : ∀ vs H Q E, sp vs H Q E → vs.length = ps.length
  runs : ∀ (A : Around) (outer : List PySem.Env) (s : Shared) (H : Hp) (args : Args) (us : List Value) (vs : List V) (Q : VK) (E : XK), Room k A → A.guards = some [] → Env0 P w K mg base A outer s H → BindsTo s fd args (ps.zip us) → Vals vs us →
    sp vs H Q E → codeAny (model P w) A (.call (.ref f) args) (CR (L2.CX P w) outer P w H s Q E) s
section
variable {P : Program} {w : World} {K : PySem.W.Frag} {mg : Str → Option Value} {base : Heap} {k : Nat} {f : Addr} {name qual : Str} {params : Arguments} {body : List Stmt} {scope : Scope} {dV kV doc pm cdv ct oc : Value} {an od : Option Addr}
  {osl : Array (Option Value)} {N ps : List Str} {sp : Sp}
/-- by its body -/
theorem fnG_of (there : K.lookup f = some ⟨oc, od, .func (PySem.W.fnOf name qual params body scope dV kV doc pm an cdv ct), osl⟩) (code : PySem.W.codeIn K cdv qual = true) (S : FnScope N ps scope) (many : ∀ vs H Q E, sp vs H Q E → vs.length = ps.length)
    (does : ∀ (A : Around) (outer : List PySem.Env) (s : Shared) (H : Hp) (vs : List V) (Q : VK) (E : XK), Room k (A.deeper (envOfC qual scope s.heap.objs.size f cdv)) → A.guards = some [] → sp vs H Q E →
      ∃ t, PSs (cxOf (L2.CX P w) P w K mg base N qual scope f cdv A outer s H E) body t ∧ t { nx := fun _ H' => Q .non H', rt := Q } (L2.start N vs) H) :
    FnG P w K mg base (k + 1) f (PySem.W.fnOf name qual params body scope dV kV doc pm an cdv ct) ps sp where
  many := many
  runs := by
    intro A outer s H args us vs Q E room guard env binds rel promise
    have kept : K.In s.heap := env.mod.kin.keeps (fun b o there => (env.bs b o there).1)
    have free : s.heap.NoLimit := env.mod.nolimit.keeps (fun b o there => (env.bs b o there).1)
    obtain ⟨t, run, want⟩ := does A outer s H vs Q E (room.deeper _) guard promise
    refine codeAny_call_function room.depth (kept _ _ there) rfl S.co S.gen rfl (PySem.W.codeRec_of kept code) (binds _ _ _ _ ?_)
    refine wpAny_newFunctionEnv_cells S.kind (fun y hy => ?_) (fun env' same s1 made => ?_)
    · rcases S.par y.1 (List.of_mem_zip (show (y.1, y.2) ∈ ps.zip us from hy)).1 with q | q
      · exact .inl q
      · exact .inr ⟨q, PySem.W.cellsFrom_some _ _ _ (.inl q)⟩
    · subst same
      refine ⟨free.keeps made.toInCall.keep, codeAny_func ?_⟩
      have inv := inv_start (CX := L2.CX P w) (P := P) (w := w) (K := K) (mg := mg) (base := base) (E := E) S room.hd env (many _ _ _ _ promise) rel made
      refine wpAny_mono (run.run [] s1 _ H _ inv want) ?_ (fun _ _ h => h)
      rintro (_ | _ | _ | u) s' ends
      · obtain ⟨σ', H', J, q⟩ := ends
        exact ⟨.non, H', J.os, J.bare, J.base, J.hok, rfl, q⟩
      all_goals first
        | (obtain ⟨v, σ', H', J, rv, q⟩ := ends; exact ⟨v, H', J.os, J.bare, J.base, J.hok, rv, q⟩)
        | (obtain ⟨_, _, _, q⟩ := ends; exact q.elim)
end

/-! ### the law's own call -/
section
variable {P : Program} {w : World} {K : PySem.W.Frag} {mg mb : Str → Option Value} {k : Nat} {fa a : Addr} {fd : FuncData} {x : Str} {sp : Sp} {s : Shared} {vs : List Value} {ns : List Int}
/-- from a heap in which the script is known, or nothing at all -/
theorem lawG_from (H : Hp) (only : ∀ b u, H b = some u → b = a ∧ ∃ xs, u = .frz { cls := .type "list", data := .seq vs.toArray } (.lst xs)) (seen : SqL K H a (ns.map V.int)) (ok : HOk P w H s.heap) (apart : H a ≠ none → K.lookup a = none)
    (KX : K.In s.heap) (gl : s.heap.Ns mainGlobals mg) (bl : s.heap.Ns builtinsNs mb) (boot : ∀ x : Str, x ≠ "__name__" → mb x = bootBuiltins x) (lim : s.heap.NoLimit) (gens : s.gens = #[])
    (there : s.heap.get? a = some { cls := .type "list", data := .seq vs.toArray }) (room : Room k callerA)
    (F : ∀ base : Heap, K.In base → base.Ns mainGlobals mg → FnG P w K mg base k fa fd [x] sp) (bind : ∀ (s : Shared) (u : Value), BindsTo s fd ⟨[u], []⟩ [(x, u)])
    (hsp : sp [.ref a] H (fun v _ => v = .bl true) fun _ _ _ => False) :
    codeAny (model P w) callerA (.call (.ref fa) ⟨[.ref a], []⟩) (fun r s' => r = .ok (.ret (.bool true)) ∧ OldK s.heap s'.heap ∧ s'.os = s.os ∧ AllBare s'.gens) s := by
  have free : ∀ {b : Addr} {o : Obj}, s.heap.get? b = some o → b ≠ a → H b = none := fun {b o} _ ne => by
    cases q : H b with
    | none => rfl
    | some u => exact absurd (only b u q).1 ne
  have dictFree : ∀ {b : Addr} {o : Obj} {es : Array DictEntry} {n : Nat}, s.heap.get? b = some o → o.data = .dict es n → H b = none := fun {b o es n} e d => free e fun z => by
    subst z
    rw [there] at e
    cases e
    cases d
  have ns_ : ∀ {b : Addr} {m : Str → Option Value}, s.heap.Ns b m → (hidT s.heap H).Ns b m := fun {b m} h => by
    obtain ⟨o, es, n, e, d, r⟩ := h
    exact ⟨o, es, n, hidT_get e (dictFree e d), d, r⟩
  have kin : K.In (hidT s.heap H) := fun b o e => hidT_get (KX b o e) (by
    cases q : H b with
    | none => rfl
    | some u =>
      have z := (only b u q).1
      subst z
      rw [apart (by rw [q]; exact fun z => nomatch z)] at e
      cases e)
  obtain ⟨mc, l1, l2⟩ := lim
  have env : Env0 P w K mg (hidT s.heap H) callerA [] s H := by
    refine ⟨rfl, ⟨kin, ns_ gl, ⟨mb, ns_ bl, boot⟩, ⟨mc, ns_ l1, l2⟩⟩, fun b o e => of_hidT e, Nat.le_of_eq (hidT_size _ _), trivial, fun b hb => (by cases (show b ∈ ([] : List Addr) from hb)), ok, AllBare.of_eq gens⟩
  refine codeAny_mono ((F _ kin (ns_ gl)).runs callerA [] s H ⟨[.ref a], []⟩ [.ref a] [.ref a] _ _ room rfl env (bind s (.ref a)) (.cons rfl .nil) hsp) ?_
  rintro (e | (_ | _ | _ | u)) s' h
  · obtain ⟨_, _, _, _, _, _, _, _, _, _, _, _, z⟩ := h
    exact z.elim
  all_goals first
    | exact False.elim h
    | skip
  obtain ⟨v, H', os, bare, un, ok', rv, q⟩ := h
  subst q
  cases rv
  refine ⟨rfl, OldK.of_keep fun b o e => ?_, os, bare⟩
  cases q : H b with
  | none => exact un.keep b o e q (fun z => nomatch z) (fun z => nomatch z)
  | some u =>
    obtain ⟨_, xs, rfl⟩ := only b u q
    have q2 := un.frzs b _ _ q
    have h1 := (ok b _ q).1
    have h2 := (ok' b _ q2).1
    rw [e] at h1
    cases h1
    exact h2
theorem lawG_call (KX : K.In s.heap) (gl : s.heap.Ns mainGlobals mg) (bl : s.heap.Ns builtinsNs mb) (boot : ∀ x : Str, x ≠ "__name__" → mb x = bootBuiltins x) (lim : s.heap.NoLimit) (gens : s.gens = #[])
    (there : s.heap.get? a = some { cls := .type "list", data := .seq vs.toArray }) (isInts : IntsAre vs ns) (few : ns.length ≤ sizeLine) (room : Room k callerA)
    (F : ∀ base : Heap, K.In base → base.Ns mainGlobals mg → FnG P w K mg base k fa fd [x] sp) (bind : ∀ (s : Shared) (u : Value), BindsTo s fd ⟨[u], []⟩ [(x, u)])
    (hsp : ∀ H : Hp, (∀ b ps, H b ≠ some (.tbl ps)) → SqL K H a (ns.map V.int) → sp [.ref a] H (fun v _ => v = .bl true) fun _ _ _ => False) :
    codeAny (model P w) callerA (.call (.ref fa) ⟨[.ref a], []⟩) (fun r s' => r = .ok (.ret (.bool true)) ∧ OldK s.heap s'.heap ∧ s'.os = s.os ∧ AllBare s'.gens) s := by
  have rel := vals_ints isInts
  have len := isInts.length
  cases hk : K.lookup a with
  | some o =>
    have e := KX a o hk
    rw [there] at e
    cases e
    have seen : SqL K (fun _ => none) a (ns.map V.int) := .inr ⟨_, vs.toArray, _, hk, rfl, rfl, rfl, by rw [List.size_toArray, len]; exact few, by simpa using rel⟩
    exact lawG_from (fun _ => none) (fun b u z => nomatch z) seen (fun b u z => nomatch z) (fun z => absurd rfl z) KX gl bl boot lim gens there room F bind (hsp _ (fun b ps z => nomatch z) seen)
  | none =>
    have seen : SqL K (fun b => if b = a then some (.frz { cls := .type "list", data := .seq vs.toArray } (.lst (ns.map V.int))) else none) a (ns.map V.int) := .inl (.inr ⟨{ cls := .type "list", data := .seq vs.toArray }, if_pos rfl⟩)
    refine lawG_from _ (fun b u z => ?_) seen (fun b u z => ?_) (fun _ => hk) KX gl bl boot lim gens there room F bind (hsp _ (fun b ps z => ?_) seen)
    · by_cases hb : b = a
      · rw [if_pos hb] at z
        cases z
        exact ⟨hb, _, rfl⟩
      · rw [if_neg hb] at z
        cases z
    · by_cases hb : b = a
      · rw [if_pos hb] at z
        cases z
        subst hb
        exact ⟨there, by rw [List.length_map]; exact few, vs, _, rel, there⟩
      · rw [if_neg hb] at z
        cases z
    · by_cases hb : b = a
      · rw [if_pos hb] at z
        cases z
      · rw [if_neg hb] at z
        cases z
end
/-- the goal that the head leaves -/
theorem walkG {l : PySem.W.OpenLaw} {n k : Nat} {q : Program} {loose : List Str} {XP : (Str → Option Value) → Heap → Prop} {YP : World → Heap → Prop} {d : DefRec} {K : Params → PySem.W.Frag} {sp : PySem.W.Frag → Sp} {x : Str} (most : l.most = some n) (few : n ≤ sizeLine) (nodef : d.params.defaults = [])
    (room : Room k callerA) (hY : ∀ (w : World) (h : Heap), YP w h → (K w.params).In h)
    (F : ∀ (w : World) (mg : Str → Option Value) (fa : Addr) (h : Heap), (K w.params).In h → h.Ns mainGlobals mg → mg d.name = some (.ref fa) →
      ∃ fd : FuncData, (∀ (s : Shared) (u : Value), BindsTo s fd ⟨[u], []⟩ [(x, u)]) ∧ ∀ base : Heap, (K w.params).In base → base.Ns mainGlobals mg → FnG l.prog w (K w.params) mg base k fa fd [x] (sp (K w.params)))
    (hsp : ∀ (K : PySem.W.Frag) (H : Hp) (a : Addr) (ns : List Int), ns.length ≤ n → (∀ b ps, H b ≠ some (.tbl ps)) → SqL K H a (ns.map V.int) → sp K [.ref a] H (fun v _ => v = .bl true) fun _ _ _ => False) :
    PySem.W.WalkO q loose XP YP l.row.toRowW d [] (fun f vs => PySem.call f vs) := by
  refine Att.attach_call most nodef fun w s₀ s₁ mg mb fa o pm cd doc a vs ns G Y ho hd hcd hmg there isInts len gens => ?_
  have KX := hY w _ Y
  obtain ⟨fd, bind, hF⟩ := F w mg fa _ KX G.T.g hmg
  exact lawG_call KX G.T.g G.T.b G.T.builtins G.T.nolimit gens there isInts (Nat.le_trans len few) room hF bind fun H hT seen => hsp _ H a ns len hT seen
end Vs

set_option Elab.async false
set_option linter.all false
set_option maxRecDepth 100000
set_option maxHeartbeats 4000000
/-! VsE: statements, defs, calls of defs. -/
namespace Vs
open PySem PySem.Spec PyProof.Rows L2 Evl

inductive RS where
  | next (env : Vs.Env) | ret (d : D) (env : Vs.Env) | brk (env : Vs.Env) | cont (env : Vs.Env) | exc (x : Xn) (env : Vs.Env) | retF (ds : List D) (env : Vs.Env) | no
def R.toS {α : Type} (r : R α) (k : α → Vs.Env → RS) : RS := match r with
  | .ok a e => k a e
  | .exc x e => .exc x e
  | .no => .no
@[simp] theorem R.toS_ok {α : Type} (a : α) (e : Vs.Env) (f : α → Vs.Env → RS) : (R.ok a e).toS f = f a e := rfl
@[simp] theorem R.toS_exc {α : Type} (x : Xn) (e : Vs.Env) (f : α → Vs.Env → RS) : (R.exc x e : R α).toS f = .exc x e := rfl
@[simp] theorem R.toS_no {α : Type} (f : α → Vs.Env → RS) : (R.no : R α).toS f = .no := rfl
def RS.seq (r : RS) (k : Vs.Env → RS) : RS := match r with
  | .next e => k e
  | r => r
@[simp] theorem RS.seq_next (e : Vs.Env) (k : Vs.Env → RS) : (RS.next e).seq k = k e := rfl
@[simp] theorem RS.seq_ret (d : D) (e : Vs.Env) (k : Vs.Env → RS) : (RS.ret d e).seq k = .ret d e := rfl
@[simp] theorem RS.seq_brk (e : Vs.Env) (k : Vs.Env → RS) : (RS.brk e).seq k = .brk e := rfl
@[simp] theorem RS.seq_cont (e : Vs.Env) (k : Vs.Env → RS) : (RS.cont e).seq k = .cont e := rfl
@[simp] theorem RS.seq_exc (x : Xn) (e : Vs.Env) (k : Vs.Env → RS) : (RS.exc x e).seq k = .exc x e := rfl
@[simp] theorem RS.seq_retF (ds : List D) (e : Vs.Env) (k : Vs.Env → RS) : (RS.retF ds e).seq k = .retF ds e := rfl
@[simp] theorem RS.seq_no (k : Vs.Env → RS) : RS.no.seq k = .no := rfl
abbrev MS := Vs.Env → RS

section
variable (K : PySem.W.Frag) (cm : Cm)
def wantS (B : Base) (G : Hp) (D : Ends) : RS → Prop
  | .next env' => ∀ G' H' σ', Ex G G' → Rel K cm B G' H' σ' env' → D.nx σ' H'
  | .ret d env' => ∀ G' H' σ' v, Ex G G' → Rel K cm B G' H' σ' env' → Rp K cm G' v d → D.rt v H'
  | .brk env' => ∀ G' H' σ', Ex G G' → Rel K cm B G' H' σ' env' → D.bk σ' H'
  | .cont env' => ∀ G' H' σ', Ex G G' → Rel K cm B G' H' σ' env' → D.ct σ' H'
  | .exc x env' => ∀ G' H' σ' cls dd, Ex G G' → Rel K cm B G' H' σ' env' → XRel K cm G' H' cls dd x → B.W cls dd σ' H'
  | .retF ds env' => ∀ G' H' σ' p vs, Ex G G' → Rel K cm B G' H' σ' env' → H' p = some (.lst vs) → G' p = none → Rps K cm G' vs ds → ¬ B.prot p → D.rt (.ref p) H'
  | .no => False
def tS (B : Base) (g : MS) : TS := fun D σ H => ∃ G env, Rel K cm B G H σ env ∧ wantS K cm B G D (g env)
end
section
variable {K : PySem.W.Frag} {cm : Cm} {α β : Type} {Y : Hp → L2.St → β → α → Prop} {B : Base} {G G1 H : Hp} {σ : L2.St} {env : Vs.Env} {D : Ends}
theorem wantS.mono {r : RS} (e : Ex G G1) (h : wantS K cm B G D r) : wantS K cm B G1 D r := by
  cases r with
  | next env' => exact fun G' H' σ' e1 => h G' H' σ' (e.trans e1)
  | ret d env' => exact fun G' H' σ' v e1 => h G' H' σ' v (e.trans e1)
  | brk env' => exact fun G' H' σ' e1 => h G' H' σ' (e.trans e1)
  | cont env' => exact fun G' H' σ' e1 => h G' H' σ' (e.trans e1)
  | exc x env' => exact fun G' H' σ' c d e1 => h G' H' σ' c d (e.trans e1)
  | retF ds env' => exact fun G' H' σ' p vs e1 => h G' H' σ' p vs (e.trans e1)
  | no => exact h
/-- an expression's reading within a statement -/
theorem wantS.bind {Q1 : β → Hp → Prop} {f : M α} {k : α → Vs.Env → RS} (r : Rel K cm B G H σ env) (h : wantS K cm B G D ((f env).toS k))
    (hk : ∀ a env1 G1 H1 b, Ex G G1 → Rel K cm B G1 H1 σ env1 → Y G1 σ b a → wantS K cm B G1 D (k a env1) → Q1 b H1) : tG K cm Y B f σ H Q1 := by
  refine ⟨G, env, r, ?_⟩
  cases e : f env with
  | ok a env1 =>
    rw [e] at h
    exact fun G1 H1 b e1 r1 y => hk a env1 G1 H1 b e1 r1 y (wantS.mono e1 h)
  | exc x env1 =>
    rw [e] at h
    exact fun G' H' cls dd => h G' H' σ cls dd
  | no =>
    rw [e] at h
    exact h
end
section
variable (cm : Cm) (X : Cx)
def CS (st : Stmt) (g : MS) : Prop := ∀ B : Base, Fit cm X B → PassesOwn (model X.prog X.w) X.A X.env X.xe → PS X st (tS X.K cm B g)
def CSs (st : List Stmt) (g : MS) : Prop := ∀ B : Base, Fit cm X B → PassesOwn (model X.prog X.w) X.A X.env X.xe → PSs X st (tS X.K cm B g)
/-- a target takes data -/
def But (ws : List Nat) (σ σ' : L2.St) : Prop := σ'.length = σ.length ∧ ∀ j, j ∉ ws → σ'[j]? = σ[j]?
def tGt (B : Base) (ws : List Nat) (k : D → Vs.Env → Option Vs.Env) : TG := fun v σ H Q => ∃ G env d env', Rel X.K cm B G H σ env ∧ Rp X.K cm G v d ∧ k d env = some env' ∧ ∀ G' H' σ', Ex G G' → Rel X.K cm B G' H' σ' env' → But ws σ σ' → Q σ' H'
def tGts (B : Base) (ws : List Nat) (k : List D → Vs.Env → Option Vs.Env) : TGs := fun vs σ H Q => ∃ G env ds env', Rel X.K cm B G H σ env ∧ Rps X.K cm G vs ds ∧ k ds env = some env' ∧ ∀ G' H' σ', Ex G G' → Rel X.K cm B G' H' σ' env' → But ws σ σ' → Q σ' H'
/-- ws: the slots that it stores -/
def CG (tg : Expr) (ws : List Nat) (k : D → Vs.Env → Option Vs.Env) : Prop := ∀ B : Base, PG X tg (tGt cm X B ws k)
def CGs (tg : List Expr) (ws : List Nat) (k : List D → Vs.Env → Option Vs.Env) : Prop := ∀ B : Base, PGs X tg (tGts cm X B ws k)
end
theorem _root_.L2.PG.weak {X : Cx} {e : Expr} {t t' : TG} (h : PG X e t) (w : ∀ v σ H Q, t' v σ H Q → t v σ H Q) : PG X e t' := ⟨fun pins s σ H v u Q I r q => h.run pins s σ H v u Q I r (w _ _ _ _ q)⟩
theorem _root_.L2.PGs.weak {X : Cx} {e : List Expr} {t t' : TGs} (h : PGs X e t) (w : ∀ v σ H Q, t' v σ H Q → t v σ H Q) : PGs X e t' := ⟨fun pins s σ H v u Q I r q => h.run pins s σ H v u Q I r (w _ _ _ _ q)⟩

section
variable {cm : Cm} {X : Cx} {B : Base} {G H : Hp} {σ : L2.St} {env : Vs.Env} {a b c e tg : Expr} {es tgs : List Expr} {st : Stmt} {sts : List Stmt} {f : M D} {u : M Bool} {g g2 : MS} {pos : Pos}
/-! ### targets -/
def kN (i : Nat) : D → Vs.Env → Option Vs.Env := fun d env => some (env.set i (some (.fz d)))
def kNil : List D → Vs.Env → Option Vs.Env
  | [], env => some env
  | _, _ => none
def kCons (k : D → Vs.Env → Option Vs.Env) (ks : List D → Vs.Env → Option Vs.Env) : List D → Vs.Env → Option Vs.Env
  | d :: ds, env => (k d env).bind fun env1 => ks ds env1
  | [], _ => none
def kT (n : Nat) (ks : List D → Vs.Env → Option Vs.Env) : D → Vs.Env → Option Vs.Env
  | .tup ds, env => if ds.length = n then ks ds env else none
  | _, _ => none
theorem cg_n (i : Nat) {x : Str} (hN : X.N.Nodup) (hi : X.N[i]? = some x := by rfl) (hx : Loc X.env.scope x := by first | exact Or.inl rfl | exact Or.inr rfl) (hf : X.fn x = true ∨ X.env.scope.names.lookup x = some .local := by first | exact .inl rfl | exact .inr rfl | assumption) : CG cm X (.Name x pos) [i] (kN i) := fun B =>
  (pg_name hN hi hx hf).weak fun v σ H Q ⟨G, env, d, env', r, y, e, q⟩ => by
    cases e
    exact q G H _ (Ex.refl G) (r.setFz i y) ⟨by simp, fun j hj => List.getElem?_set_ne fun z => hj (by simp [z])⟩
theorem cgs_nil : CGs cm X [] [] kNil := fun B => pgs_nil.weak fun vs σ H Q ⟨G, env, ds, env', r, y, e, q⟩ => by
  cases y with
  | nil => cases e; exact ⟨rfl, q G H σ (Ex.refl G) r ⟨rfl, fun _ _ => rfl⟩⟩
  | cons _ _ => cases e
theorem cgs_cons {w1 w2 : List Nat} {k : D → Vs.Env → Option Vs.Env} {ks : List D → Vs.Env → Option Vs.Env} (h1 : CG cm X tg w1 k) (h2 : CGs cm X tgs w2 ks) (hs : (assignEach (tg :: tgs) X.env).map (·.2) = assign tg X.env :: (assignEach tgs X.env).map (·.2) := by rfl) : CGs cm X (tg :: tgs) (w1 ++ w2) (kCons k ks) := fun B =>
  (pgs_cons (h1 B) (h2 B) hs).weak fun vs σ H Q ⟨G, env, ds, env', r, y, e, q⟩ => by
    cases y with
    | nil => cases e
    | cons y1 y2 =>
      have e : (k _ env).bind (fun env1 => ks _ env1) = some env' := e
      rw [Option.bind_eq_some_iff] at e
      obtain ⟨env1, e1, e2⟩ := e
      exact ⟨_, _, rfl, G, env, _, env1, r, y1, e1, fun G' H' σ' ex r' b1 => ⟨G', env1, _, env', r', Rps.mono ex y2, e2, fun G2 H2 σ2 ex2 r2 b2 => q G2 H2 σ2 (ex.trans ex2) r2 ⟨b2.1.trans b1.1, fun j hj => (b2.2 j fun z => hj (List.mem_append_right _ z)).trans (b1.2 j fun z => hj (List.mem_append_left _ z))⟩⟩⟩
theorem cg_t {ws : List Nat} {k : Nat} {ks : List D → Vs.Env → Option Vs.Env} {n : Nat} (hc : X.calm = true) (h : CGs cm X tgs ws ks) (hn : (assignEach tgs X.env).length = n := by rfl) (hst : (assignEach tgs X.env).findIdx? (·.1) = none := by rfl) : CG cm X (.Tuple tgs k pos) ws (kT n ks) := fun B =>
  (pg_tup hc (h B) hn hst).weak fun v σ H Q ⟨G, env, d, env', r, y, e, q⟩ => by
    match d, y, e with
    | .tup ds, .tup (a := a) (vs := vs) h1 hs, e =>
      have e : (if ds.length = n then ks ds env else none) = some env' := e
      by_cases hl : ds.length = n
      · rw [if_pos hl] at e
        exact ⟨a, vs, rfl, ex_t r.ex h1, hs.length.trans hl, G, env, ds, env', r, hs, e, q⟩
      · rw [if_neg hl] at e; cases e

/-! ### statements -/
theorem css_nil : CSs cm X [] (fun env => .next env) := fun B tk hp => pss_nil.weak fun D σ H ⟨G, env, r, q⟩ => q G H σ (Ex.refl G) r
def sSeq (g g2 : MS) : MS := fun env => (g env).seq g2
theorem css_cons (h : CS cm X st g) (h2 : CSs cm X sts g2) : CSs cm X (st :: sts) (sSeq g g2) := fun B tk hp => (pss_cons (h B tk hp) (h2 B tk hp)).weak fun D σ H ⟨G, env, r, q⟩ => by
  refine ⟨G, env, r, ?_⟩
  unfold sSeq at q
  cases c : g env with
  | next env1 => rw [c] at q; exact fun G' H' σ' e r' => ⟨G', env1, r', wantS.mono e q⟩
  | ret d env1 => rw [c] at q; exact q
  | brk env1 => rw [c] at q; exact q
  | cont env1 => rw [c] at q; exact q
  | exc x env1 => rw [c] at q; exact q
  | retF ds env1 => rw [c] at q; exact q
  | no => rw [c] at q; exact q
theorem css_one (h : CS cm X st g) : CSs cm X [st] g := fun B tk hp => pss_one (h B tk hp)
/-- an own list is laid down (nothing of the text) -/
def fzE (i : Nat) (env : Vs.Env) : Vs.Env := match env[i]? with
  | some (some (.ol _ ds)) => env.set i (some (.fz (.lst ds)))
  | _ => env
theorem css_fz (i : Nat) (h : CSs cm X sts g) : CSs cm X sts (fun env => g (fzE i env)) := fun B tk hp => (h B tk hp).weak fun D σ H ⟨G, env, r, q⟩ => by
  have q : wantS X.K cm B G D (g (fzE i env)) := q
  unfold fzE at q
  split at q
  · rename_i k ds e
    obtain ⟨G1, e1, r1⟩ := r.freeze e
    exact ⟨G1, _, r1, wantS.mono e1 q⟩
  · exact ⟨G, env, r, q⟩
def sExpr (f : M D) : MS := fun env => (f env).toS fun _ env1 => .next env1
theorem cs_expr (h : CE cm X e f) (hs : swapsWith e none pos.line X.env = pure false := by rfl) : CS cm X (.Expr e pos) (sExpr f) := fun B tk hp => (ps_expr (h B tk) hs).weak fun D σ H ⟨G, env, r, q⟩ =>
  wantS.bind r q fun d env1 G1 H1 v e1 r1 y q1 => q1 G1 H1 σ (Ex.refl G1) r1
theorem cs_doc {x j pos pos'} : CS cm X (.Expr (.Constant (.str x) j pos) pos') (fun env => .next env) := fun B tk hp => ps_doc.weak fun D σ H ⟨G, env, r, q⟩ => q G H σ (Ex.refl G) r
theorem cs_pass : CS cm X (.Pass pos) (fun env => .next env) := fun B tk hp => ps_pass.weak fun D σ H ⟨G, env, r, q⟩ => q G H σ (Ex.refl G) r
theorem cs_brk : CS cm X (.Break pos) (fun env => .brk env) := fun B tk hp => ps_break.weak fun D σ H ⟨G, env, r, q⟩ => q G H σ (Ex.refl G) r
theorem cs_cont : CS cm X (.Continue pos) (fun env => .cont env) := fun B tk hp => ps_continue.weak fun D σ H ⟨G, env, r, q⟩ => q G H σ (Ex.refl G) r
def sRet (f : M D) : MS := fun env => (f env).toS fun d env1 => .ret d env1
theorem cs_ret (h : CE cm X e f) : CS cm X (.Return (some e) pos) (sRet f) := fun B tk hp => (ps_ret (h B tk)).weak fun D σ H ⟨G, env, r, q⟩ =>
  wantS.bind r q fun d env1 G1 H1 v e1 r1 y q1 => q1 G1 H1 σ v (Ex.refl G1) r1 y
theorem cs_retN : CS cm X (.Return none pos) (fun env => .ret .non env) := fun B tk hp => ps_retN.weak fun D σ H ⟨G, env, r, q⟩ => q G H σ _ (Ex.refl G) r .non
def sIf (u : M Bool) (g g2 : MS) : MS := fun env => (u env).toS fun k env1 => if k = true then g env1 else g2 env1
theorem cs_if {p q : List Stmt} (hc : CT cm X c u) (h : CSs cm X p g) (h2 : CSs cm X q g2) : CS cm X (.If c p q pos) (sIf u g g2) := fun B tk hp => (ps_if (hc B tk) (h B tk hp) (h2 B tk hp)).weak fun D σ H ⟨G, env, r, q⟩ =>
  wantS.bind r q fun k env1 G1 H1 v e1 r1 y q1 => by
    cases y
    cases k with
    | true => exact iteT ⟨G1, env1, r1, q1⟩
    | false => exact iteF ⟨G1, env1, r1, q1⟩
def sAsg (f : M D) (k : D → Vs.Env → Option Vs.Env) : MS := fun env => (f env).toS fun d env1 => match k d env1 with
  | some env2 => .next env2
  | none => .no
theorem asg_of {ws : List Nat} {k : D → Vs.Env → Option Vs.Env} {D : Ends} (q : tS X.K cm B (sAsg f k) D σ H) : tAsg (tG X.K cm (YV X.K cm) B f) (tGt cm X B ws k) D σ H := by
  obtain ⟨G, env, r, q⟩ := q
  refine wantS.bind r q fun d env1 G1 H1 v e1 r1 y q1 => ?_
  cases c : k d env1 with
  | none => rw [c] at q1; exact q1.elim
  | some env2 => rw [c] at q1; exact ⟨G1, env1, d, env2, r1, y, c, fun G' H' σ' e r _ => q1 G' H' σ' e r⟩
theorem cs_asg {ws : List Nat} {k : D → Vs.Env → Option Vs.Env} (h : CE cm X e f) (hg : CG cm X tg ws k) (hs : swapsWithSole [tg] e pos.line X.env = pure false := by rfl) (hw : swappedStores [tg] e X.env = pure none := by rfl)
    (h1 : (assignEach [tg] X.env).map (·.2) = [assign tg X.env] := by rfl) : CS cm X (.Assign [tg] e pos) (sAsg f k) := fun B tk hp => (ps_asg (h B tk) (hg B) hs hw h1).weak fun D σ H q => asg_of q
def sSet (i : Nat) (f : M D) : MS := fun env => (f env).toS fun d env1 => .next (env1.set i (some (.fz d)))
theorem cs_set (i : Nat) {x : Str} {pos' : Pos} (h : CE cm X e f) (hN : X.N.Nodup) (hi : X.N[i]? = some x := by rfl) (hx : Loc X.env.scope x := by first | exact Or.inl rfl | exact Or.inr rfl) (hs : swapsWith e (some (.Name x pos')) pos.line X.env = pure false := by rfl)
    (hf : X.fn x = true ∨ X.env.scope.names.lookup x = some .local := by first | exact .inl rfl | exact .inr rfl | assumption) : CS cm X (.Assign [.Name x pos'] e pos) (sSet i f) := fun B tk hp => (ps_set hN hi hx (h B tk) hs hf).weak fun D σ H ⟨G, env, r, q⟩ =>
  wantS.bind r q fun d env1 G1 H1 v e1 r1 y q1 => q1 G1 H1 _ (Ex.refl G1) (r1.setFz i y)
/-- a, b = x, y -/
def sPar (i j : Nat) (l : M (List D)) : MS := fun env => (l env).toS fun ds env1 => match ds with
  | [d1, d2] => .next ((env1.set i (some (.fz d1))).set j (some (.fz d2)))
  | _ => .no
theorem cs_par (i j : Nat) {x y : Str} {px py pt : Pos} {kt k2 pt2} {l : M (List D)} (hc : X.calm = true) (hN : X.N.Nodup) (ha : CD cm X [a, b] l) (hi : X.N[i]? = some x := by rfl) (hj : X.N[j]? = some y := by rfl) (hij : i ≠ j := by decide)
    (hx : X.env.scope.names.lookup x = some .local := by rfl) (hy : X.env.scope.names.lookup y = some .local := by rfl) (hw : swappedStores [.Tuple [.Name x px, .Name y py] kt pt] (.Tuple [a, b] k2 pt2) X.env = pure (some [x, y]) := by rfl)
    (hs : swapsWithSole [.Tuple [.Name x px, .Name y py] kt pt] (.Tuple [a, b] k2 pt2) pos.line X.env = pure false := by rfl) : CS cm X (.Assign [.Tuple [.Name x px, .Name y py] kt pt] (.Tuple [a, b] k2 pt2) pos) (sPar i j l) := fun B tk hp =>
  (ps_par hc hN hi hj hij hx hy (ha B tk) hw hs).weak fun D σ H ⟨G, env, r, q⟩ => wantS.bind r q fun ds env1 G1 H1 vs e1 r1 y q1 => by
    match ds, y, q1 with
    | [d1, d2], y, q1 =>
      obtain ⟨v1, v2, rfl, y1, y2⟩ := y.two
      exact ⟨v1, v2, rfl, q1 G1 H1 _ (Ex.refl G1) ((r1.setFz i y1).setFz j y2)⟩
def sPar3 (i j k : Nat) (l : M (List D)) : MS := fun env => (l env).toS fun ds env1 => match ds with
  | [d1, d2, d3] => .next (((env1.set i (some (.fz d1))).set j (some (.fz d2))).set k (some (.fz d3)))
  | _ => .no
/-- x op= e -/
def sAug (i : Nat) (o : D → D → Option D) (f : M D) : MS := fun env => match env[i]? with
  | some (some (.fz d)) => (f env).toS fun d2 env1 => match o d d2 with
    | some z => .next (env1.set i (some (.fz z)))
    | none => .no
  | _ => .no
theorem cs_aug (i : Nat) {x : Str} {op : Operator} {ti : TIp} {o : D → D → Option D} {pos' : Pos} (ho : PIp X op ti) (hr : OpD cm X ti o) (h : CE cm X e f) (hN : X.N.Nodup) (hi : X.N[i]? = some x := by rfl) (hx : Loc X.env.scope x := by first | exact Or.inl rfl | exact Or.inr rfl)
    (hf : X.fn x = true ∨ X.env.scope.names.lookup x = some .local := by first | exact .inl rfl | exact .inr rfl | assumption) : CS cm X (.AugAssign (.Name x pos') op e pos) (sAug i o f) := fun B tk hp => (ps_aug hN hi hx (h B tk) ho hf).weak fun D σ H ⟨G, env, r, q⟩ => by
  unfold sAug at q
  split at q
  · rename_i d c
    obtain ⟨v, e1, tr⟩ := r.sl i _ c
    refine ⟨v, e1, wantS.bind r q fun d2 env1 G1 H1 v2 e2 r1 y q1 => ?_⟩
    cases cc : o d d2 with
    | none => rw [cc] at q1; exact q1.elim
    | some z =>
      rw [cc] at q1
      exact hr B G1 H1 σ env1 v v2 d d2 z _ r1 (Rp.mono e2 tr) y cc fun G2 H2 v3 e3 r3 y3 => q1 G2 H2 _ e3 (r3.setFz i y3)
  · exact q.elim
end

/-! ### defs -/
inductive FR where
  | ok (d : D) (out : Option (List D)) | exc (x : Xn) (out : Option (List D)) | no
/-- what a def does: the content of the list that its first argument is (if it is one that may change), the other arguments -/
abbrev Fs := Option (List D) → List D → FR
inductive ArgsRel (K : PySem.W.Frag) (cm : Cm) (G H : Hp) : List V → Option Addr → Option (List D) → List D → Prop
  | pure {vs : List V} {ds : List D} : Rps K cm G vs ds → ArgsRel K cm G H vs none none ds
  | io {a : Addr} {ws vs : List V} {cs ds : List D} : H a = some (.lst ws) → G a = none → Rps K cm G ws cs → Rps K cm G vs ds → ArgsRel K cm G H (.ref a :: vs) (some a) (some cs) ds
theorem ArgsRel.len {K : PySem.W.Frag} {cm : Cm} {G H : Hp} {vs : List V} {own : Option Addr} {io : Option (List D)} {ds : List D} (h : ArgsRel K cm G H vs own io ds) : vs.length = io.toList.length + ds.length := by
  cases h with
  | pure h => simpa using h.length
  | io h1 h2 h3 h4 => simp [h4.length]; omega
def OutRel (K : PySem.W.Frag) (cm : Cm) (G H : Hp) (own : Option Addr) (out : Option (List D)) : Prop := ∀ a, own = some a → ∃ cs ws, out = some cs ∧ H a = some (.lst ws) ∧ G a = none ∧ Rps K cm G ws cs
section
variable (K : PySem.W.Frag) (cm : Cm)
def wantF (G H : Hp) (own : Option Addr) (Q : VK) (E : XK) : FR → Prop
  | .ok d out => ∀ G' H' v, Ex G G' → Gd cm G' H' → Keep G H G' H' own → OutRel K cm G' H' own out → Rp K cm G' v d → Q v H'
  | .exc x out => ∀ G' H' cls dd, Ex G G' → Gd cm G' H' → Keep G H G' H' own → OutRel K cm G' H' own out → XRel K cm G' H' cls dd x → E cls dd H'
  | .no => False
/-- the promise of a def by its function -/
def spF (n : Nat) (F : Fs) : Sp := fun vs H Q E => vs.length = n ∧ ∃ G own io ds, Gd cm G H ∧ ArgsRel K cm G H vs own io ds ∧ wantF K cm G H own Q E (F io ds)
end
/-- a def's function: N names, np parameters, its body -/
def finF (io : Option (List D)) (env : Vs.Env) : Option (Option (List D)) := match io with
  | none => some none
  | some _ => match (env[0]? : Option (Option T)) with
    | some (some (T.ol (some 0) cs)) => some (some cs)
    | _ => none
def env0 (nN : Nat) (io : Option (List D)) (ds : List D) : Vs.Env := (io.toList.map fun cs => some (T.ol (some 0) cs)) ++ (ds.map fun d => some (T.fz d)) ++ List.replicate (nN - (io.toList.length + ds.length)) none
def runF (nN : Nat) (g : MS) : Fs := fun io ds => match g (env0 nN io ds) with
  | .next env => match finF io env with
    | some out => .ok .non out
    | none => .no
  | .ret d env => match finF io env with
    | some out => .ok d out
    | none => .no
  | .exc x env => match finF io env with
    | some out => .exc x out
    | none => .no
  | _ => .no
section
variable {P : Program} {w : World} {K : PySem.W.Frag} {cm : Cm} {mg : Str → Option Value} {base : Heap}
def B0 (G H : Hp) (own : Option Addr) (E : XK) : Base := { prot := fun p => H p ≠ none ∧ (∀ ps, H p ≠ some (.tbl ps)) ∧ G p = none ∧ own ≠ some p, H0 := H, ins := fun _ => own, W := fun cls d _ H => E cls d H, tt := fun p => ∃ ps, H p = some (.tbl ps) }
theorem rel_start {N : List Str} {G H : Hp} {vs : List V} {own : Option Addr} {io : Option (List D)} {ds : List D} {E : XK} (ex : Gd cm G H) (ar : ArgsRel K cm G H vs own io ds) : Rel K cm (B0 G H own E) G H (L2.start N vs) (env0 N.length io ds) := by
  have hl := ar.len
  have nol : ∀ {l : List D} {m : Nat} {i : Nat} {k : Option Nat} {cs : List D}, ((l.map fun d => some (T.fz d)) ++ List.replicate m none)[i]? = some (some (T.ol k cs)) → False := fun {l m i k cs} h => by
    rw [List.getElem?_append] at h
    split at h
    · rw [List.getElem?_map] at h
      cases q : l[i]? with
      | none => rw [q] at h; cases h
      | some d => rw [q] at h; cases h
    · rw [List.getElem?_replicate] at h
      split at h <;> cases h
  have noo : ∀ {l : List D} {m : Nat} {i : Nat} {c : Str} {cs : List (Str × D)}, ((l.map fun d => some (T.fz d)) ++ List.replicate m none)[i]? = some (some (T.oo c cs)) → False := fun {l m i k cs} h => by
    rw [List.getElem?_append] at h
    split at h
    · rw [List.getElem?_map] at h
      cases q : l[i]? with
      | none => rw [q] at h; cases h
      | some d => rw [q] at h; cases h
    · rw [List.getElem?_replicate] at h
      split at h <;> cases h
  have fzs : ∀ {l : List D} {us : List V} {m : Nat} {i : Nat} {t : T}, Rps K cm G us l → ((l.map fun d => some (T.fz d)) ++ List.replicate m none)[i]? = some (some t) → ∃ v d, t = .fz d ∧ (us.map some ++ List.replicate m none)[i]? = some (some v) ∧ Rp K cm G v d := fun {l us m i t} hs h => by
    rw [List.getElem?_append] at h
    split at h
    · rename_i hi
      rw [List.length_map] at hi
      rw [List.getElem?_map] at h
      cases q : l[i]? with
      | none => rw [q] at h; cases h
      | some d =>
        rw [q] at h
        cases h
        obtain ⟨v, e, y⟩ := hs.get q
        refine ⟨v, d, rfl, ?_, y⟩
        rw [List.getElem?_append_left (by rw [List.length_map, hs.length]; exact hi), List.getElem?_map, e]
        rfl
    · rw [List.getElem?_replicate] at h
      split at h <;> cases h
  cases ar with
  | pure hs =>
    refine ⟨ex.ex, ?_, fun i t e => ?_, fun i j a k cs k' cs' e1 e2 e3 e4 => ?_, fun p hp => ⟨hp.2.2.1, rfl, hp.1⟩, fun p hp => hp.2.1, ex.nt, ex.tb, fun p h => h, fun i j c c' fs fs' e1 e2 => ?_⟩
    · have hl' : vs.length = ds.length := by simpa using hl
      simp [L2.start, env0, hl']
    · obtain ⟨v, d, rfl, e1, y⟩ := fzs (m := N.length - vs.length) hs (by
        have : env0 N.length none ds = (ds.map fun d => some (T.fz d)) ++ List.replicate (N.length - vs.length) none := by
          have hl' : vs.length = ds.length := by simpa using hl
          simp [env0, hl']
        rw [← this]; exact e)
      exact ⟨v, e1, y⟩
    · have : env0 N.length none ds = (ds.map fun d => some (T.fz d)) ++ List.replicate (N.length - ds.length) none := by simp [env0]
      rw [this] at e1
      exact (nol e1).elim
    · have : env0 N.length none ds = (ds.map fun d => some (T.fz d)) ++ List.replicate (N.length - ds.length) none := by simp [env0]
      rw [this] at e1
      exact (noo e1).elim
  | @io a ws vs cs ds h1 h2 h3 h4 =>
    have hl' : vs.length = ds.length := h4.length
    have e0 : env0 N.length (some cs) ds = some (T.ol (some 0) cs) :: ((ds.map fun d => some (T.fz d)) ++ List.replicate (N.length - (vs.length + 1)) none) := by
      simp [env0, hl', Nat.add_comm]
    have s0 : L2.start N (V.ref a :: vs) = some (.ref a) :: (vs.map some ++ List.replicate (N.length - (vs.length + 1)) none) := by simp [L2.start]
    rw [e0, s0]
    refine ⟨ex.ex, by simp [hl'], fun i t e => ?_, fun i j b k cs k' cs' e1 e2 e3 e4 => ?_, fun p hp => ⟨hp.2.2.1, rfl, hp.1⟩, fun p hp => hp.2.1, ex.nt, ex.tb, fun p h => h, fun i j c c' fs fs' e1 e2 => ?_⟩
    · cases i with
      | zero =>
        have e : some (some (T.ol (some 0) cs)) = some (some t) := e
        cases e
        exact ⟨.ref a, rfl, a, ws, rfl, h1, h2, h3, fun hp => hp.2.2.2 rfl, fun j _ => rfl⟩
      | succ i =>
        obtain ⟨v, d, rfl, e1, y⟩ := fzs h4 (by simpa using e)
        exact ⟨v, by simpa using e1, y⟩
    · cases i with
      | zero =>
        cases j with
        | zero => rfl
        | succ j => exact (nol (by simpa using e2)).elim
      | succ i => exact (nol (by simpa using e1)).elim
    · cases i with
      | zero =>
        have e1 : some (some (T.ol (some 0) cs)) = some (some (T.oo c fs)) := e1
        cases e1
      | succ i => exact (noo (by simpa using e1)).elim
theorem finF_out {B : Base} {G H : Hp} {σ : L2.St} {env : Vs.Env} {own : Option Addr} {io out : Option (List D)} (r : Rel K cm B G H σ env) (hi : B.ins 0 = own) (hn : io = none → own = none) (e : finF io env = some out) : OutRel K cm G H own out := fun a ha => by
  unfold finF at e
  cases io with
  | none => rw [hn rfl] at ha; cases ha
  | some cs0 =>
    dsimp only at e
    split at e
    · rename_i cs c
      cases e
      obtain ⟨v, e1, tr⟩ := r.sl 0 _ c
      obtain ⟨a', ws, rfl, h1, h2, h3, h4, h5⟩ := tr
      have := h5 0 rfl
      rw [hi, ha] at this
      cases this
      exact ⟨cs, ws, rfl, h1, h2, h3⟩
    · cases e
/-- THE RULE for a def -/
theorem fnOk {x qual : Str} {params : Arguments} {fbody : List Stmt} {scope : Scope} {dvs : List V} {kws : List (Str × V)} {f : Addr} {fd : FuncData} {N ps : List Str} {k : Nat} {g : MS} (F : FunD K x qual params fbody scope dvs kws f fd) (S : FnScope N ps scope)
    (body : ∀ (cdv : Value) (A : Around) (outer : List PySem.Env) (s : Shared) (H : Hp) (E : XK), Room k (A.deeper (envOfC qual scope s.heap.objs.size f cdv)) → A.guards = some [] → CSs cm (cxOf (L2.CX P w) P w K mg base N qual scope f cdv A outer s H E) fbody g) :
    FnG P w K mg base (k + 1) f fd ps (spF K cm ps.length (runF N.length g)) := by
  obtain ⟨oc, od, dV, kV, doc, pm, an, cdv, ct, osl, rfl, lk, hcd, _, _⟩ := F.ex
  exact fnG_of lk hcd S (fun vs H Q E h => h.1) fun A outer s H vs Q E hr hgd ⟨hl, G, own, io, ds, ex, ar, q⟩ => by
    refine ⟨_, body cdv A outer s H E hr hgd (B0 G H own E) ⟨takes_of rfl rfl rfl rfl, fun _ _ _ z => z.elim⟩ (passes_of rfl), G, env0 N.length io ds, rel_start ex ar, ?_⟩
    have hn : io = none → own = none := fun e => by cases ar <;> first | rfl | cases e
    have kp : ∀ {G' H' : Hp} {σ' : L2.St} {env' : Vs.Env}, Rel K cm (B0 G H own E) G' H' σ' env' → Keep G H G' H' own := fun {G' H' σ' env'} r => ⟨fun p h1 hz h2 h3 => by
      obtain ⟨q1, q2, _⟩ := r.pr p ⟨h1, hz, h2, h3⟩
      exact ⟨q1, q2⟩, fun p ps h => r.tk p ⟨ps, h⟩⟩
    unfold runF at q
    cases c : g (env0 N.length io ds) with
    | next env' =>
      rw [c] at q
      dsimp only at q
      cases e : finF io env' with
      | none => rw [e] at q; exact q.elim
      | some out => rw [e] at q; exact fun G' H' σ' e1 r => q G' H' .non e1 r.gd (kp r) (finF_out r rfl hn e) .non
    | ret d env' =>
      rw [c] at q
      dsimp only at q
      cases e : finF io env' with
      | none => rw [e] at q; exact q.elim
      | some out => rw [e] at q; exact fun G' H' σ' v e1 r y => q G' H' v e1 r.gd (kp r) (finF_out r rfl hn e) y
    | exc x env' =>
      rw [c] at q
      dsimp only at q
      cases e : finF io env' with
      | none => rw [e] at q; exact q.elim
      | some out => rw [e] at q; exact fun G' H' σ' cls dd e1 r y => q G' H' cls dd e1 r.gd (kp r) (finF_out r rfl hn e) y
    | brk env' => rw [c] at q; exact q.elim
    | cont env' => rw [c] at q; exact q.elim
    | retF ds env' => rw [c] at q; exact q.elim
    | no => rw [c] at q; exact q.elim
end
end Vs

set_option Elab.async false
set_option linter.all false
set_option maxRecDepth 100000
set_option maxHeartbeats 4000000
/-! VsF: calls of defs. -/
namespace Vs
open PySem PySem.Spec PyProof.Rows L2 Evl

section
variable {K : PySem.W.Frag} {cm : Cm} {B : Base} {G G' H H' : Hp} {σ : L2.St} {env : Vs.Env}
/-- behind a call that left our own lists alone -/
theorem Rel.after (r : Rel K cm B G H σ env) (e1 : Ex G G') (e2 : Gd cm G' H') (kp : Keep G H G' H' none) : Rel K cm B G' H' σ env := by
  refine ⟨e2.ex, r.len, fun i t e => ?_, r.ap, fun p hp => ?_, fun p hp ps => ?_, e2.nt, e2.tb, fun p hp => by obtain ⟨ps, e⟩ := r.tk p hp; exact kp.2 p ps e, r.ao⟩
  · obtain ⟨v, ev, tr⟩ := r.sl i t e
    refine ⟨v, ev, ?_⟩
    cases t with
    | fz d => exact Rp.mono e1 tr
    | th o => exact th_ge tr e1
    | oo c fs =>
      obtain ⟨b, C, dx, vs, rfl, h1, h2, h3, h4, h5, h6, h7, h8, h9, h10⟩ := tr
      obtain ⟨q1, q2⟩ := kp.1 b (by rw [h3]; exact fun z => nomatch z) (fun ps z => by rw [h3] at z; cases z) h5 (fun z => nomatch z)
      obtain ⟨q3, q4⟩ := kp.1 dx (by rw [h4]; exact fun z => nomatch z) (fun ps z => by rw [h4] at z; cases z) h6 (fun z => nomatch z)
      exact ⟨b, C, dx, vs, rfl, h1, h2, q2.trans h3, q4.trans h4, q1, q3, h7, Rps.mono e1 h8, h9, h10⟩
    | ol k ds =>
      obtain ⟨a, vs, rfl, h1, h2, h3, h4, h5⟩ := tr
      obtain ⟨q1, q2⟩ := kp.1 a (by rw [h1]; exact fun z => nomatch z) (fun ps z => by rw [h1] at z; cases z) h2 (fun z => nomatch z)
      exact ⟨a, vs, rfl, q2.trans h1, q1, Rps.mono e1 h3, h4, h5⟩
  · obtain ⟨h1, h2, h3⟩ := r.pr p hp
    obtain ⟨q1, q2⟩ := kp.1 p (by rw [h2]; exact h3) (r.ptb p hp) h1 (fun z => nomatch z)
    exact ⟨q1, q2.trans h2, h3⟩
  · obtain ⟨h1, h2, h3⟩ := r.pr p hp
    obtain ⟨q1, q2⟩ := kp.1 p (by rw [h2]; exact h3) (r.ptb p hp) h1 (fun z => nomatch z)
    rw [q2]; exact r.ptb p hp ps
/-- behind a call that changed the list in slot i -/
theorem Rel.afterIo (r : Rel K cm B G H σ env) {i : Nat} {k : Option Nat} {cs cs' : List D} {a : Addr} {ws : List V} (e : env[i]? = some (some (.ol k cs))) (hi : σ[i]? = some (some (.ref a))) (e1 : Ex G G') (e2 : Gd cm G' H') (kp : Keep G H G' H' (some a))
    (h1 : H' a = some (.lst ws)) (h2 : G' a = none) (h3 : Rps K cm G' ws cs') : Rel K cm B G' H' σ (env.set i (some (.ol k cs'))) := by
  obtain ⟨v, ev, tr⟩ := r.sl i _ e
  rw [hi] at ev; cases ev
  obtain ⟨a', vs, z, g1, g2, g3, g4, g5⟩ := tr
  cases z
  refine ⟨e2.ex, by simp [r.len], fun j t ej => ?_, fun j j' b k1 ds1 k2 ds2 q1 q2 q3 q4 => ?_, fun p hp => ?_, fun p hp ps => ?_, e2.nt, e2.tb, fun p hp => by obtain ⟨ps, e⟩ := r.tk p hp; exact kp.2 p ps e, fun j j' c c' fs fs' e1 e2 => ?_⟩
  · rcases get_set ej with ⟨rfl, e3, _⟩ | ⟨ne, e3⟩
    · cases e3
      exact ⟨.ref a, hi, a, ws, rfl, h1, h2, h3, g4, g5⟩
    · obtain ⟨u, eu, tr⟩ := r.sl j t e3
      refine ⟨u, eu, ?_⟩
      cases t with
      | fz d => exact Rp.mono e1 tr
      | th o => exact th_ge tr e1
      | oo c fs =>
        obtain ⟨b, C, dx, vs', rfl, m1, m2, m3, m4, m5, m6, m7, m8, m9, m10⟩ := tr
        have n1 : some a ≠ some b := fun z => by cases z; rw [g1] at m3; cases m3
        have n2 : some a ≠ some dx := fun z => by cases z; rw [g1] at m4; cases m4
        obtain ⟨q1, q2⟩ := kp.1 b (by rw [m3]; exact fun z => nomatch z) (fun ps z => by rw [m3] at z; cases z) m5 n1
        obtain ⟨q3, q4⟩ := kp.1 dx (by rw [m4]; exact fun z => nomatch z) (fun ps z => by rw [m4] at z; cases z) m6 n2
        exact ⟨b, C, dx, vs', rfl, m1, m2, q2.trans m3, q4.trans m4, q1, q3, m7, Rps.mono e1 m8, m9, m10⟩
      | ol k2 ds2 =>
        obtain ⟨b, vs2, rfl, m1, m2, m3, m4, m5⟩ := tr
        have nb : some a ≠ some b := fun z => by
          cases z
          exact ne (r.ap j i a _ _ _ _ e3 e eu hi)
        obtain ⟨q1, q2⟩ := kp.1 b (by rw [m1]; exact fun z => nomatch z) (fun ps z => by rw [m1] at z; cases z) m2 nb
        exact ⟨b, vs2, rfl, q2.trans m1, q1, Rps.mono e1 m3, m4, m5⟩
  · have old : ∀ {j : Nat} {k1 : Option Nat} {ds1 : List D}, (env.set i (some (.ol k cs')))[j]? = some (some (.ol k1 ds1)) → ∃ k0 ds0, env[j]? = some (some (.ol k0 ds0)) := fun {j k1 ds1} q => by
      rcases get_set q with ⟨rfl, _, _⟩ | ⟨_, q⟩
      · exact ⟨_, _, e⟩
      · exact ⟨_, _, q⟩
    obtain ⟨_, _, p1⟩ := old q1
    obtain ⟨_, _, p2⟩ := old q2
    exact r.ap j j' b _ _ _ _ p1 p2 q3 q4
  · obtain ⟨m1, m2, m3⟩ := r.pr p hp
    have np : some a ≠ some p := fun z => by cases z; exact g4 hp
    obtain ⟨q1, q2⟩ := kp.1 p (by rw [m2]; exact m3) (r.ptb p hp) m1 np
    exact ⟨q1, q2.trans m2, m3⟩
  · obtain ⟨m1, m2, m3⟩ := r.pr p hp
    have np : some a ≠ some p := fun z => by cases z; exact g4 hp
    obtain ⟨q1, q2⟩ := kp.1 p (by rw [m2]; exact m3) (r.ptb p hp) m1 np
    rw [q2]; exact r.ptb p hp ps
  · rcases get_set e1 with ⟨_, z, _⟩ | ⟨_, e1⟩
    · cases z
    · rcases get_set e2 with ⟨_, z, _⟩ | ⟨_, e2⟩
      · cases z
      · exact r.ao _ _ _ _ _ _ e1 e2
end

/-- what a call of a def gives -/
def FR.toR (r : FR) (env : Vs.Env) : R D := match r with
  | .ok d _ => .ok d env
  | .exc x _ => .exc x env
  | .no => .no
/-- .. of one that changes the list in slot i -/
def FR.toIo (r : FR) (i : Nat) (k : Option Nat) (env : Vs.Env) : R D := match r with
  | .ok d (some cs) => .ok d (env.set i (some (.ol k cs)))
  | .exc x (some cs) => .exc x (env.set i (some (.ol k cs)))
  | _ => .no
def eCall (n : Nat) (F : Fs) (dds : List D) (l : M (List D)) : M D := fun env => (l env).bind fun ds env1 => if (ds ++ dds).length = n then (F none (ds ++ dds)).toR env1 else .no
def eCallIo (n : Nat) (F : Fs) (i : Nat) (dds : List D) (l : M (List D)) : M D := fun env => match env[i]? with
  | some (some _) => (l env).bind fun ds env1 => match env1[i]? with
    | some (some (.ol k cs)) => if (ds ++ dds).length + 1 = n then (F (some cs) (ds ++ dds)).toIo i k env1 else .no
    | _ => .no
  | _ => .no
section
variable {cm : Cm} {X : Cx} {B : Base} {G H : Hp} {σ : L2.St} {env : Vs.Env} {Fn : Fs} {n : Nat} {Q : VK}
/-- the promise of a pure call, from the run's want -/
theorem sp_pure {vs : List V} {ds : List D} (r : Rel X.K cm B G H σ env) (y : Rps X.K cm G vs ds) (hn : ds.length = n) (q : want X.K cm (YV X.K cm) B G σ Q ((Fn none ds).toR env)) : spF X.K cm n Fn vs H Q (WE B.W σ) := by
  refine ⟨y.length.trans hn, G, none, none, ds, r.gd, .pure y, ?_⟩
  cases c : Fn none ds with
  | ok d out =>
    rw [c] at q
    exact fun G' H' v e1 e2 kp _ yv => q G' H' v e1 (r.after e1 e2 kp) yv
  | exc x out =>
    rw [c] at q
    exact fun G' H' cls dd e1 e2 kp _ yx => q G' H' cls dd e1 (r.after e1 e2 kp) yx
  | no => rw [c] at q; exact q
theorem sp_io {i : Nat} {k : Option Nat} {cs : List D} {vs : List V} {ds : List D} {a : Addr} (r : Rel X.K cm B G H σ env) (e : env[i]? = some (some (.ol k cs))) (hi : σ[i]? = some (some (.ref a))) (y : Rps X.K cm G vs ds) (hn : ds.length + 1 = n)
    (q : want X.K cm (YV X.K cm) B G σ Q ((Fn (some cs) ds).toIo i k env)) : spF X.K cm n Fn (.ref a :: vs) H Q (WE B.W σ) := by
  obtain ⟨v, ev, tr⟩ := r.sl i _ e
  rw [hi] at ev; cases ev
  obtain ⟨a', ws, z, g1, g2, g3, g4, g5⟩ := tr
  cases z
  refine ⟨by simp [y.length, hn], G, some a, some cs, ds, r.gd, .io g1 g2 g3 y, ?_⟩
  cases c : Fn (some cs) ds with
  | ok d out =>
    rw [c] at q
    refine fun G' H' v e1 e2 kp ho yv => ?_
    obtain ⟨cs', ws', rfl, h1, h2, h3⟩ := ho a rfl
    exact q G' H' v e1 (r.afterIo e hi e1 e2 kp h1 h2 h3) yv
  | exc x out =>
    rw [c] at q
    refine fun G' H' cls dd e1 e2 kp ho yx => ?_
    obtain ⟨cs', ws', rfl, h1, h2, h3⟩ := ho a rfl
    exact q G' H' cls dd e1 (r.afterIo e hi e1 e2 kp h1 h2 h3) yx
  | no => rw [c] at q; exact q
variable {x : Str} {f : Addr} {fd : FuncData} {k : Nat} {ps : List Str} {e : Expr} {es : List Expr} {l : M (List D)} {dvs : List V} {dds : List D} {dws : List Value} {p pos : Pos}
/-- a callee runs -/
theorem run_fnG {sp : Sp} {E : XK} {pins : List (Addr × Obj)} {s : Shared} {us : List Value} {vs : List V} (F : FnG X.prog X.w X.K X.mg X.base k f fd ps sp) (hr : Room k X.A) (hgd : X.A.guards = some []) (hb : Binds X.K fd ps dws) (hd : Vals dvs dws) (hx : PassesAt (L2.CX X.prog X.w) X σ E)
    (I : Inv X pins σ H s) (r : Vals vs us) (h : sp (vs ++ dvs) H Q E) : wpAny (model X.prog X.w) X.A (call (.ref f) us) (EP X pins σ Q) X.xe s := by
  have rel := r.append hd
  have many : (us ++ dws).length = ps.length := rel.length.symm.trans (F.many _ _ _ _ h)
  refine wpAny_call (codeAny_mono (F.runs X.A X.stack s H ⟨us, []⟩ _ _ Q E hr hgd I.env0 (hb s us I.kIn many) rel h) ?_)
  rintro (e | (_ | _ | _ | u)) s' hq
  · exact hx pins H s e s' I hq
  all_goals first
    | exact I.after hq
    | exact False.elim hq
theorem pe_callG {sp : Sp} {E : L2.St → XK} {t : TA} (F : FnG X.prog X.w X.K X.mg X.base k f fd ps sp) (hr : Room k X.A) (hgd : X.A.guards = some []) (hg : Gl X x) (hm : X.mg x = some (.ref f)) (hk : PySem.W.keepIn X.K (.ref f) = true) (hb : Binds X.K fd ps dws) (hd : Vals dvs dws)
    (hx : ∀ σ, PassesAt (L2.CX X.prog X.w) X σ (E σ)) (ha : PA X (e :: es) t) (hdb : (x == ("__debug__" : Str)) = false := by decide) (he : starEach (e :: es) X.env = (false, eval e X.env) :: starEach es X.env := by rfl)
    (hpl : (backTo pos (starEach es X.env)).any (·.1) = false := by rfl) : PE X (.Call (.Name x p) (e :: es) [] pos) (tCallSD sp dvs E t) where
  run := by
    intro pins s σ H Q I h
    refine wpAny_Call_Name_kw (ld_glob I hg hm ?_ hdb)
    refine PySem.W.callWith_K (h₀ := X.base) I.ok.mod.kin hk (thn (ha.run pos pins s σ H _ I h) ?_) he hpl
    rintro us s1 ⟨vs, H1, I1, r, q⟩
    exact ⟨I1.kIn, run_fnG F hr hgd hb hd (hx σ) I1 r q⟩
/-- f(e, ..) -/
theorem ce_call (F : FnG X.prog X.w X.K X.mg X.base k f fd ps (spF X.K cm n Fn)) (hr : Room k X.A) (hgd : X.A.guards = some []) (hg : Gl X x) (hm : X.mg x = some (.ref f)) (hk : PySem.W.keepIn X.K (.ref f) = true) (hb : Binds X.K fd ps dws) (hd : Vals dvs dws)
    (hdd : ∀ G, Rps X.K cm G dvs dds) (ha : CD cm X (e :: es) l) (hdb : (x == ("__debug__" : Str)) = false := by decide) (he : starEach (e :: es) X.env = (false, eval e X.env) :: starEach es X.env := by rfl)
    (hpl : (backTo pos (starEach es X.env)).any (·.1) = false := by rfl) : CE cm X (.Call (.Name x p) (e :: es) [] pos) (eCall n Fn dds l) := fun B tk =>
  (pe_callG F hr hgd hg hm hk hb hd (fun σ => passAt tk.tk σ) (ha B tk) hdb he hpl).weak fun σ H Q ⟨G, env, r, q⟩ => want.bind r q fun ds env1 G1 H1 vs e1 r1 y q1 => by
    by_cases hn : (ds ++ dds).length = n
    · rw [if_pos hn] at q1
      exact sp_pure r1 (Rps.append y (hdd G1)) hn q1
    · rw [if_neg hn] at q1; exact q1.elim
/-- f() -/
theorem ce_call0 (F : FnG X.prog X.w X.K X.mg X.base k f fd ps (spF X.K cm n Fn)) (hr : Room k X.A) (hgd : X.A.guards = some []) (hg : Gl X x) (hm : X.mg x = some (.ref f)) (hk : PySem.W.keepIn X.K (.ref f) = true) (hb : Binds X.K fd ps dws) (hd : Vals dvs dws)
    (hdd : ∀ G, Rps X.K cm G dvs dds) (hdb : (x == ("__debug__" : Str)) = false := by decide) : CE cm X (.Call (.Name x p) [] [] pos) (eCall n Fn dds eNil) := fun B tk => by
  have h : PE X (.Call (.Name x p) [] [] pos) (tCallSD (spF X.K cm n Fn) dvs (WE B.W) tNil) := by
    refine ⟨fun pins s σ H Q I h => ?_⟩
    refine wpAny_Call_Name_kw (ld_glob I hg hm ?_ hdb)
    exact PySem.W.callWith_K0 I.kIn hk (run_fnG (us := []) F hr hgd hb hd (passAt tk.tk σ) I .nil h)
  exact h.weak fun σ H Q ⟨G, env, r, q⟩ => by
    have q : want X.K cm (YV X.K cm) B G σ Q (if ([] ++ dds).length = n then (Fn none ([] ++ dds)).toR env else .no) := q
    by_cases hn : ([] ++ dds).length = n
    · rw [if_pos hn] at q
      exact sp_pure r (hdd G) hn q
    · rw [if_neg hn] at q; exact q.elim
/-- f(own list, e, ..) -/
theorem ce_callIo (i : Nat) {y : Str} {py : Pos} (F : FnG X.prog X.w X.K X.mg X.base k f fd ps (spF X.K cm n Fn)) (hr : Room k X.A) (hgd : X.A.guards = some []) (hg : Gl X x) (hm : X.mg x = some (.ref f)) (hk : PySem.W.keepIn X.K (.ref f) = true) (hb : Binds X.K fd ps dws) (hd : Vals dvs dws)
    (hdd : ∀ G, Rps X.K cm G dvs dds) (ha : CD cm X es l) (hN : X.N[i]? = some y := by rfl) (hv : Vis X.env.scope y := by first | exact Or.inl rfl | exact Or.inr (Or.inl rfl) | exact Or.inr (Or.inr rfl)) (hd1 : (y == ("__debug__" : Str)) = false := by decide)
    (hcd : (y == ("__classdict__" : Str)) = false := by decide) (hdb : (x == ("__debug__" : Str)) = false := by decide) (hs : starEach (.Name y py :: es) X.env = (false, eval (.Name y py) X.env) :: starEach es X.env := by rfl)
    (hpl : (backTo pos (starEach es X.env)).any (·.1) = false := by rfl) : CE cm X (.Call (.Name x p) (.Name y py :: es) [] pos) (eCallIo n Fn i dds l) := fun B tk =>
  (pe_callG F hr hgd hg hm hk hb hd (fun σ => passAt tk.tk σ) (pa_cons (pe_var (i := i) hN hv hd1 hcd) (ha B tk) hs) hdb hs hpl).weak fun σ H Q ⟨G, env, r, q⟩ => by
    unfold eCallIo at q
    split at q
    · rename_i t0 c0
      obtain ⟨v, ev, _⟩ := r.sl i _ c0
      refine ⟨v, ev, want.bind r q fun ds env1 G1 H1 vs e1 r1 y q1 => ?_⟩
      split at q1
      · rename_i k cs c1
        by_cases hn : (ds ++ dds).length + 1 = n
        · rw [if_pos hn] at q1
          obtain ⟨v', ev', tr⟩ := r1.sl i _ c1
          obtain ⟨a, ws, rfl, _⟩ := id tr
          rw [ev] at ev'; cases ev'
          exact sp_io r1 c1 ev (Rps.append y (hdd G1)) hn q1
        · rw [if_neg hn] at q1; exact q1.elim
      · exact q1.elim
    · exact q.elim

/-! ### keywords -/
variable {ks : List Str} {kws : List Keyword} {m : Nat} {g : List Value → List Value → List Value} {gV : List V → List V → List V} {gD : List D → List D → List D} {lk : M (List D)}
variable (cm X) in
def CK (kws : List Keyword) (f : M (List D)) : Prop := ∀ B : Base, Fit cm X B → PK X kws (tG X.K cm (YD X.K cm) B f)
theorem _root_.L2.PK.weak {X : Cx} {e : List Keyword} {t t' : TA} (h : PK X e t) (w : ∀ σ H Q, t' σ H Q → t σ H Q) : PK X e t' := ⟨fun ps pins s σ H Q I q => h.run ps pins s σ H Q I (w _ _ _ q)⟩
theorem ck_nil : CK cm X [] eNil := fun B tk => pk_nil.weak fun σ H Q ⟨G, env, r, q⟩ => q G H [] (Ex.refl G) r .nil
theorem ck_cons {nm : Option Str} {kpos : Pos} {fe : M D} (h : CE cm X e fe) (h2 : CK cm X kws lk) : CK cm X (⟨nm, e, kpos⟩ :: kws) (eCons fe lk) := fun B tk => (pk_cons (h B tk) (h2 B tk)).weak fun σ H Q ⟨G, env, r, q⟩ =>
  want.bind r q fun d env1 G1 H1 v e1 r1 y1 q1 => want.bind r1 q1 fun ds env2 G2 H2 vs e2 r2 y2 q2 => q2 G2 H2 _ (Ex.refl G2) r2 (.cons (Rp.mono e2 y1) y2)
def tCallNS (n m : Nat) (sp : Sp) (gV : List V → List V → List V) (E : L2.St → XK) (t tk : TA) : TE := fun σ H Q => t σ H fun vs H1 => tk σ H1 fun zs H2 => vs.length = n ∧ zs.length = m ∧ sp (gV vs zs) H2 Q (E σ)
theorem run_fnNS {sp : Sp} {E : L2.St → XK} {pins : List (Addr × Obj)} {σ : L2.St} {H : Hp} {s : Shared} {Q : VK} {us ws : List Value} {vs zs : List V} (F : FnG X.prog X.w X.K X.mg X.base k f fd ps sp) (hr : Room k X.A) (hgd : X.A.guards = some []) (hb : KBn X.K fd ps m ks g gV) (hx : PassesAt (L2.CX X.prog X.w) X σ (E σ))
    (I : Inv X pins σ H s) (r : Vals vs us) (rz : Vals zs ws) (l1 : vs.length = m) (l2 : zs.length = ks.length) (h : sp (gV vs zs) H Q (E σ)) : wpAny (model X.prog X.w) X.A (call (.ref f) us (ks.zip ws)) (EP X pins σ Q) X.xe s := by
  have r2 := hb.rel r rz
  refine wpAny_call (codeAny_mono (F.runs X.A X.stack s H ⟨us, ks.zip ws⟩ (g us ws) (gV vs zs) Q (E σ) hr hgd I.env0 (hb.to s us ws I.kIn (r.length.symm.trans l1) (rz.length.symm.trans l2)) r2 h) fun r s' hq => ?_)
  cases r with
  | error e => exact hx pins H s e s' I hq
  | ok fl =>
    cases fl with
    | ret u => exact I.after hq
    | next => exact False.elim hq
    | brk => exact False.elim hq
    | cont => exact False.elim hq
theorem pe_callNS {sp : Sp} {E : L2.St → XK} {t tk : TA} (F : FnG X.prog X.w X.K X.mg X.base k f fd ps sp) (hr : Room k X.A) (hgd : X.A.guards = some []) (hg : Gl X x) (hm : X.mg x = some (.ref f)) (hk : PySem.W.keepIn X.K (.ref f) = true) (hb : KBn X.K fd ps m ks g gV) (hx : ∀ σ, PassesAt (L2.CX X.prog X.w) X σ (E σ))
    (ha : PA X (e :: es) t) (hkw : PK X kws tk) (hall : (backToKw pos (keywordEach kws X.env)).all (·.1.isSome) = true := by rfl) (hks : (backToKw pos (keywordEach kws X.env)).filterMap (·.1) = ks := by rfl)
    (hdb : (x == ("__debug__" : Str)) = false := by decide) (he : starEach (e :: es) X.env = (false, eval e X.env) :: starEach es X.env := by rfl)
    (hpl : ((backTo pos (starEach (e :: es) X.env)).any (·.1) || (backToKw pos (keywordEach kws X.env)).any (·.1.isNone)) = false := by rfl) :
    PE X (.Call (.Name x p) (e :: es) kws pos) (tCallNS m ks.length sp gV E t tk) := by
  refine ⟨fun pins s σ H Q I h => ?_⟩
  refine wpAny_Call_Name_kw (ld_glob I hg hm ?_ hdb)
  refine PySem.W.callWith_KW (h₀ := X.base) I.ok.mod.kin hk hall (thn (ha.run pos pins s σ H _ I h) fun us s1 ⟨vs, H1, I1, r, q⟩ => ?_) hpl he
  refine thn (hkw.run pos pins s1 σ H1 _ I1 q) fun ws s2 ⟨zs, H2, I2, rz, l1, l2, q2⟩ => ⟨I2.kIn, ?_⟩
  rw [hks]
  exact run_fnNS F hr hgd hb (hx σ) I2 r rz l1 l2 q2
theorem pe_callNS0 {sp : Sp} {E : L2.St → XK} {tk : TA} (F : FnG X.prog X.w X.K X.mg X.base k f fd ps sp) (hr : Room k X.A) (hgd : X.A.guards = some []) (hg : Gl X x) (hm : X.mg x = some (.ref f)) (hk : PySem.W.keepIn X.K (.ref f) = true) (hb : KBn X.K fd ps 0 ks g gV) (hx : ∀ σ, PassesAt (L2.CX X.prog X.w) X σ (E σ))
    (hkw : PK X kws tk) (hall : (backToKw pos (keywordEach kws X.env)).all (·.1.isSome) = true := by rfl) (hks : (backToKw pos (keywordEach kws X.env)).filterMap (·.1) = ks := by rfl)
    (hdb : (x == ("__debug__" : Str)) = false := by decide)
    (hpl : ((backTo pos (starEach [] X.env)).any (·.1) || (backToKw pos (keywordEach kws X.env)).any (·.1.isNone)) = false := by rfl) :
    PE X (.Call (.Name x p) [] kws pos) (tCallNS 0 ks.length sp gV E tNil tk) := by
  refine ⟨fun pins s σ H Q I h => ?_⟩
  refine wpAny_Call_Name_kw (ld_glob I hg hm ?_ hdb)
  refine PySem.W.callWith_KW0 (h₀ := X.base) I.ok.mod.kin hk hall ?_ hpl
  refine thn (hkw.run pos pins s σ H _ I h) fun ws s2 ⟨zs, H2, I2, rz, l1, l2, q2⟩ => ⟨I2.kIn, ?_⟩
  rw [hks]
  exact run_fnNS (us := []) (vs := []) F hr hgd hb (hx σ) I2 .nil rz rfl l2 q2
def eCallN (n m mk : Nat) (F : Fs) (gD : List D → List D → List D) (l lk : M (List D)) : M D := fun env => (l env).bind fun ds env1 => (lk env1).bind fun es env2 =>
  if ds.length = m ∧ es.length = mk ∧ (gD ds es).length = n then (F none (gD ds es)).toR env2 else .no
/-- f(e, .., k = v, ..) -/
theorem ce_callN (F : FnG X.prog X.w X.K X.mg X.base k f fd ps (spF X.K cm n Fn)) (hr : Room k X.A) (hgd : X.A.guards = some []) (hg : Gl X x) (hm : X.mg x = some (.ref f)) (hk : PySem.W.keepIn X.K (.ref f) = true) (hb : KBn X.K fd ps m ks g gV)
    (hrel : ∀ G vs ds zs es, Rps X.K cm G vs ds → Rps X.K cm G zs es → Rps X.K cm G (gV vs zs) (gD ds es)) (ha : CD cm X (e :: es) l) (hkw : CK cm X kws lk)
    (hall : (backToKw pos (keywordEach kws X.env)).all (·.1.isSome) = true) (hks : (backToKw pos (keywordEach kws X.env)).filterMap (·.1) = ks)
    (hdb : (x == ("__debug__" : Str)) = false) (he : starEach (e :: es) X.env = (false, eval e X.env) :: starEach es X.env)
    (hpl : ((backTo pos (starEach (e :: es) X.env)).any (·.1) || (backToKw pos (keywordEach kws X.env)).any (·.1.isNone)) = false) (hmk : ks.length = mk) : CE cm X (.Call (.Name x p) (e :: es) kws pos) (eCallN n m mk Fn gD l lk) := fun B tk => by
  subst hmk; exact
  (pe_callNS F hr hgd hg hm hk hb (fun σ => passAt tk.tk σ) (ha B tk) (hkw B tk) hall hks hdb he hpl).weak fun σ H Q ⟨G, env, r, q⟩ => want.bind r q fun ds env1 G1 H1 vs e1 r1 y q1 => want.bind r1 q1 fun es env2 G2 H2 zs e2 r2 y2 q2 => by
    by_cases hn : ds.length = m ∧ es.length = ks.length ∧ (gD ds es).length = n
    · rw [if_pos hn] at q2
      exact ⟨(Rps.length y).trans hn.1, (Rps.length y2).trans hn.2.1, sp_pure r2 (hrel _ _ _ _ _ (Rps.mono e2 y) y2) hn.2.2 q2⟩
    · rw [if_neg hn] at q2; exact q2.elim
theorem ce_callN0 (F : FnG X.prog X.w X.K X.mg X.base k f fd ps (spF X.K cm n Fn)) (hr : Room k X.A) (hgd : X.A.guards = some []) (hg : Gl X x) (hm : X.mg x = some (.ref f)) (hk : PySem.W.keepIn X.K (.ref f) = true) (hb : KBn X.K fd ps 0 ks g gV)
    (hrel : ∀ G vs ds zs es, Rps X.K cm G vs ds → Rps X.K cm G zs es → Rps X.K cm G (gV vs zs) (gD ds es)) (hkw : CK cm X kws lk)
    (hall : (backToKw pos (keywordEach kws X.env)).all (·.1.isSome) = true) (hks : (backToKw pos (keywordEach kws X.env)).filterMap (·.1) = ks)
    (hdb : (x == ("__debug__" : Str)) = false)
    (hpl : ((backTo pos (starEach [] X.env)).any (·.1) || (backToKw pos (keywordEach kws X.env)).any (·.1.isNone)) = false) (hmk : ks.length = mk) : CE cm X (.Call (.Name x p) [] kws pos) (eCallN n 0 mk Fn gD eNil lk) := fun B tk => by
  subst hmk; exact
  (pe_callNS0 F hr hgd hg hm hk hb (fun σ => passAt tk.tk σ) (hkw B tk) hall hks hdb hpl).weak fun σ H Q ⟨G, env, r, q⟩ => by
    have q : want X.K cm (YV X.K cm) B G σ Q ((lk env).bind fun es env2 => if ([] : List D).length = 0 ∧ es.length = ks.length ∧ (gD [] es).length = n then (Fn none (gD [] es)).toR env2 else .no) := q
    refine want.bind r q fun es env2 G2 H2 zs e2 r2 y2 q2 => ?_
    by_cases hn : ([] : List D).length = 0 ∧ es.length = ks.length ∧ (gD [] es).length = n
    · rw [if_pos hn] at q2
      exact ⟨rfl, (Rps.length y2).trans hn.2.1, sp_pure r2 (hrel _ _ _ _ _ .nil y2) hn.2.2 q2⟩
    · rw [if_neg hn] at q2; exact q2.elim
end
end Vs

set_option Elab.async false
set_option linter.all false
set_option maxRecDepth 100000
set_option maxHeartbeats 4000000
/-! VsG: what is walked; for, while, comprehensions. -/
namespace Vs
open PySem PySem.Spec PyProof.Rows L2 Evl

/-- an iterator that gives the data ds, one by one -/
structure ItD (K : PySem.W.Frag) (cm : Cm) (J : It) (G : Hp) (ds : List D) : Prop where
  go : ∀ (B : Base) (G' H' : Hp) (σ : L2.St) (env : Vs.Env) (i : Nat), Ex G G' → Rel K cm B G' H' σ env → i < ds.length → J.go i H'
  stop : ∀ (B : Base) (G' H' : Hp) (σ : L2.St) (env : Vs.Env), Ex G G' → Rel K cm B G' H' σ env → J.stop ds.length H'
  yld : ∀ (B : Base) (G' H' : Hp) (σ : L2.St) (env : Vs.Env) (i : Nat) (d : D) (x : V) (H'' : Hp), Ex G G' → Rel K cm B G' H' σ env → ds[i]? = some d → J.yld i H' x H'' → ∃ G'', Ex G' G'' ∧ Rel K cm B G'' H'' σ env ∧ Rp K cm G'' x d
theorem ItD.mono {K : PySem.W.Frag} {cm : Cm} {J : It} {G G1 : Hp} {ds : List D} (h : ItD K cm J G ds) (e : Ex G G1) : ItD K cm J G1 ds :=
  ⟨fun B G' H' σ env i e1 => h.go B G' H' σ env i (e.trans e1), fun B G' H' σ env e1 => h.stop B G' H' σ env (e.trans e1), fun B G' H' σ env i d x H'' e1 => h.yld B G' H' σ env i d x H'' (e.trans e1)⟩
section
variable {K : PySem.W.Frag} {cm : Cm} {G : Hp} {vs : List V} {ds : List D} {a b : Addr}
theorem Rps.lt {i : Nat} (h : Rps K cm G vs ds) (hi : i < ds.length) : ∃ v, vs[i]? = some v := by
  rw [← h.length] at hi
  exact ⟨_, List.getElem?_eq_getElem hi⟩
theorem itd_list (h : G a = some (.lst vs)) (hs : Rps K cm G vs ds) : ItD K cm (Itl K a) G ds where
  go := fun B G' H' σ env i e r hi => by
    obtain ⟨v, ev⟩ := hs.lt hi
    exact ⟨vs, v, SqL.of (r.ex _ _ (e _ _ h)), ev⟩
  stop := fun B G' H' σ env e r => ⟨vs, SqL.of (r.ex _ _ (e _ _ h)), by rw [hs.length]; exact Nat.le_refl _⟩
  yld := fun B G' H' σ env i d x H'' e r ei y => by
    obtain ⟨rfl, f⟩ := y
    obtain ⟨v, ev, yv⟩ := hs.get ei
    have := f vs (SqL.of (r.ex _ _ (e _ _ h)))
    rw [ev] at this
    cases this
    exact ⟨G', Ex.refl _, r, yv.mono e⟩
theorem itd_tup (h : SqT K G a vs) (hs : Rps K cm G vs ds) : ItD K cm (Itt K a) G ds where
  go := fun B G' H' σ env i e r hi => by
    obtain ⟨v, ev⟩ := hs.lt hi
    exact ⟨vs, v, ex_t (e.trans r.ex) h, ev⟩
  stop := fun B G' H' σ env e r => ⟨vs, ex_t (e.trans r.ex) h, by rw [hs.length]; exact Nat.le_refl _⟩
  yld := fun B G' H' σ env i d x H'' e r ei y => by
    obtain ⟨rfl, f⟩ := y
    obtain ⟨v, ev, yv⟩ := hs.get ei
    have := f vs (ex_t (e.trans r.ex) h)
    rw [ev] at this
    cases this
    exact ⟨G', Ex.refl _, r, yv.mono e⟩
/-- lo, lo + 1, .. -/
def rngD (lo : Int) (n : Nat) : List D := (List.range n).map fun i : Nat => D.int (lo + (i : Int))
theorem rngD_length (lo : Int) (n : Nat) : (rngD lo n).length = n := by simp [rngD]
theorem itd_rng (lo : Int) (n : Nat) : ItD K cm (Itr lo n) G (rngD lo n) where
  go := fun B G' H' σ env i e r hi => by rw [rngD_length] at hi; exact hi
  stop := fun B G' H' σ env e r => by rw [rngD_length]; exact Nat.le_refl _
  yld := fun B G' H' σ env i d x H'' e r ei y => by
    obtain ⟨rfl, rfl⟩ := y
    unfold rngD at ei
    rw [List.getElem?_map] at ei
    cases q : (List.range n)[i]? with
    | none => rw [q] at ei; cases ei
    | some j =>
      rw [q] at ei
      have hj : i = j := by
        rw [List.getElem?_eq_some_iff] at q
        obtain ⟨h, e⟩ := q
        simpa using e
      cases ei
      subst hj
      exact ⟨G', Ex.refl _, r, .int _⟩
def zipD : List D → List D → List D
  | x :: xs, y :: ys => .tup [x, y] :: zipD xs ys
  | _, _ => []
theorem zipD_length : ∀ (xs ys : List D), (zipD xs ys).length = min xs.length ys.length
  | [], ys => by simp [zipD]
  | x :: xs, [] => by simp [zipD]
  | x :: xs, y :: ys => by simp [zipD, zipD_length xs ys]
theorem zipD_get : ∀ {xs ys : List D} {i : Nat} {d : D}, (zipD xs ys)[i]? = some d → ∃ x y, xs[i]? = some x ∧ ys[i]? = some y ∧ d = .tup [x, y]
  | [], ys, i, d, h => by simp [zipD] at h
  | x :: xs, [], i, d, h => by simp [zipD] at h
  | x :: xs, y :: ys, 0, d, h => by
    have h : some (D.tup [x, y]) = some d := h
    cases h
    exact ⟨x, y, rfl, rfl, rfl⟩
  | x :: xs, y :: ys, i + 1, d, h => zipD_get (xs := xs) (ys := ys) (i := i) (d := d) h
theorem itd_zip {ws : List V} {es : List D} (h : G a = some (.lst vs)) (hs : Rps K cm G vs ds) (h' : G b = some (.lst ws)) (hs' : Rps K cm G ws es) : ItD K cm (Itz K a b) G (zipD ds es) where
  go := fun B G' H' σ env i e r hi => by
    rw [zipD_length] at hi
    obtain ⟨v, ev⟩ := hs.lt (i := i) (by omega)
    obtain ⟨w, ew⟩ := hs'.lt (i := i) (by omega)
    exact ⟨vs, ws, v, w, SqL.of (r.ex _ _ (e _ _ h)), SqL.of (r.ex _ _ (e _ _ h')), ev, ew⟩
  stop := fun B G' H' σ env e r => ⟨vs, ws, SqL.of (r.ex _ _ (e _ _ h)), SqL.of (r.ex _ _ (e _ _ h')), by rw [zipD_length, hs.length, hs'.length]; omega⟩
  yld := fun B G' H' σ env i d x H'' e r ei y => by
    obtain ⟨T, x1, x2, rfl, nT, rfl, f1, f2⟩ := y
    obtain ⟨d1, d2, e1, e2, rfl⟩ := zipD_get ei
    obtain ⟨v, ev, yv⟩ := hs.get e1
    obtain ⟨w, ew, yw⟩ := hs'.get e2
    have q1 := f1 vs (SqL.of (r.ex _ _ (e _ _ h)))
    have q2 := f2 ws (SqL.of (r.ex _ _ (e _ _ h')))
    rw [ev] at q1; cases q1
    rw [ew] at q2; cases q2
    obtain ⟨r2, e3⟩ := r.alloc (o := .tup [x1, x2]) nT
    exact ⟨_, e3, r2, .tup (st_of upd_same) (.cons (yv.mono (e.trans e3)) (.cons (yw.mono (e.trans e3)) .nil))⟩
theorem itd_zipT {ws : List V} {es : List D} (h : SqT K G a vs) (hs : Rps K cm G vs ds) (h' : SqT K G b ws) (hs' : Rps K cm G ws es) : ItD K cm (RZ.ItzT K a b) G (zipD ds es) where
  go := fun B G' H' σ env i e r hi => by
    rw [zipD_length] at hi
    obtain ⟨v, ev⟩ := hs.lt (i := i) (by omega)
    obtain ⟨w, ew⟩ := hs'.lt (i := i) (by omega)
    exact ⟨vs, ws, v, w, ex_t (e.trans r.ex) h, ex_t (e.trans r.ex) h', ev, ew⟩
  stop := fun B G' H' σ env e r => ⟨vs, ws, ex_t (e.trans r.ex) h, ex_t (e.trans r.ex) h', by rw [zipD_length, hs.length, hs'.length]; omega⟩
  yld := fun B G' H' σ env i d x H'' e r ei y => by
    obtain ⟨T, x1, x2, rfl, nT, rfl, f1, f2⟩ := y
    obtain ⟨d1, d2, e1, e2, rfl⟩ := zipD_get ei
    obtain ⟨v, ev, yv⟩ := hs.get e1
    obtain ⟨w, ew, yw⟩ := hs'.get e2
    have q1 := f1 vs (ex_t (e.trans r.ex) h)
    have q2 := f2 ws (ex_t (e.trans r.ex) h')
    rw [ev] at q1; cases q1
    rw [ew] at q2; cases q2
    obtain ⟨r2, e3⟩ := r.alloc (o := .tup [x1, x2]) nT
    exact ⟨_, e3, r2, .tup (st_of upd_same) (.cons (yv.mono (e.trans e3)) (.cons (yw.mono (e.trans e3)) .nil))⟩
def enumD (ds : List D) : List D := zipD (rngD 0 ds.length) ds
theorem itd_enum (h : G a = some (.lst vs)) (hs : Rps K cm G vs ds) : ItD K cm (Ite K a) G (enumD ds) where
  go := fun B G' H' σ env i e r hi => by
    rw [enumD, zipD_length, rngD_length] at hi
    obtain ⟨v, ev⟩ := hs.lt (i := i) (by omega)
    exact ⟨vs, v, SqL.of (r.ex _ _ (e _ _ h)), ev⟩
  stop := fun B G' H' σ env e r => ⟨vs, SqL.of (r.ex _ _ (e _ _ h)), by rw [enumD, zipD_length, rngD_length, hs.length]; omega⟩
  yld := fun B G' H' σ env i d x H'' e r ei y => by
    obtain ⟨T, x1, rfl, nT, rfl, f1⟩ := y
    obtain ⟨d1, d2, e1, e2, rfl⟩ := zipD_get ei
    obtain ⟨v, ev, yv⟩ := hs.get e2
    have q1 := f1 vs (SqL.of (r.ex _ _ (e _ _ h)))
    rw [ev] at q1; cases q1
    unfold rngD at e1
    rw [List.getElem?_map] at e1
    cases q : (List.range ds.length)[i]? with
    | none => rw [q] at e1; cases e1
    | some j =>
      rw [q] at e1
      have hj : i = j := by
        rw [List.getElem?_eq_some_iff] at q
        obtain ⟨h, e⟩ := q
        simpa using e
      cases e1
      subst hj
      obtain ⟨r2, e3⟩ := r.alloc (o := .tup [.int (i : Nat), x1]) nT
      refine ⟨_, e3, r2, .tup (st_of upd_same) (.cons ?_ (.cons (yv.mono (e.trans e3)) .nil))⟩
      have : (0 : Int) + (i : Nat) = (i : Nat) := by omega
      show Rp K cm _ (V.int (i : Nat)) (D.int (0 + (i : Nat)))
      rw [this]
      exact .int _
end

/-! ### iterables -/
section
variable (cm : Cm) (X : Cx)
def tI (B : Base) (f : M (List D)) : TI := fun σ H R => ∃ G env, Rel X.K cm B G H σ env ∧ (match f env with
  | .ok ds env' => ∀ G' H' J, Ex G G' → Rel X.K cm B G' H' σ env' → ItD X.K cm J G' ds → R J H'
  | .exc x env' => ∀ G' H' cls dd, Ex G G' → Rel X.K cm B G' H' σ env' → XRel X.K cm G' H' cls dd x → B.W cls dd σ H'
  | .no => False)
def CI (tg iter : Expr) (f : M (List D)) : Prop := ∀ B : Base, Fit cm X B → PI X tg iter (tI cm X B f)
end
theorem _root_.L2.PI.weak {X : Cx} {tg e : Expr} {t t' : TI} (h : PI X tg e t) (w : ∀ σ H Q, t' σ H Q → t σ H Q) : PI X tg e t' := ⟨fun pins s σ H Q I q => h.run pins s σ H Q I (w _ _ _ q)⟩
section
variable {cm : Cm} {X : Cx} {B : Base} {G H : Hp} {σ : L2.St} {env : Vs.Env} {e e2 tg : Expr} {f : M D} {pos : Pos} {l : M (List D)}
/-- a part's reading, then the iterator -/
theorem tI.bind {α β : Type} {Y : Hp → L2.St → β → α → Prop} {Q1 : β → Hp → Prop} {R : It → Hp → Prop} {f : M α} {k : α → Vs.Env → Vs.R (List D)} (r : Rel X.K cm B G H σ env)
    (h : match (f env).bind k with
      | .ok ds env' => ∀ G' H' J, Ex G G' → Rel X.K cm B G' H' σ env' → ItD X.K cm J G' ds → R J H'
      | .exc x env' => ∀ G' H' cls dd, Ex G G' → Rel X.K cm B G' H' σ env' → XRel X.K cm G' H' cls dd x → B.W cls dd σ H'
      | .no => False)
    (hk : ∀ a env1 G1 H1 b, Ex G G1 → Rel X.K cm B G1 H1 σ env1 → Y G1 σ b a → (match k a env1 with
      | .ok ds env' => ∀ G' H' J, Ex G1 G' → Rel X.K cm B G' H' σ env' → ItD X.K cm J G' ds → R J H'
      | .exc x env' => ∀ G' H' cls dd, Ex G1 G' → Rel X.K cm B G' H' σ env' → XRel X.K cm G' H' cls dd x → B.W cls dd σ H'
      | .no => False) → Q1 b H1) : tG X.K cm Y B f σ H Q1 := by
  refine ⟨G, env, r, ?_⟩
  cases e : f env with
  | ok a env1 =>
    rw [e] at h
    refine fun G1 H1 b e1 r1 y => hk a env1 G1 H1 b e1 r1 y ?_
    simp only [Vs.R.bind_ok] at h
    split at h
    · exact fun G' H' J e2 => h G' H' J (e1.trans e2)
    · exact fun G' H' c d e2 => h G' H' c d (e1.trans e2)
    · exact h
  | exc x env1 =>
    rw [e] at h
    exact h
  | no =>
    rw [e] at h
    exact h
def eItems (f : M D) : M (List D) := fun env => (f env).bind fun d env1 => match d with
  | .lst xs => .ok xs env1
  | .tup xs => .ok xs env1
  | _ => .no
def iSeq (K : PySem.W.Frag) (tl : TE) : TI := fun σ H R => tl σ H fun x H1 => ∃ a, x = .ref a ∧ (((∃ xs, SqL K H1 a xs) ∧ R (Itl K a) H1) ∨ ((∃ xs, SqT K H1 a xs) ∧ R (Itt K a) H1))
theorem pi_seq {l : Expr} {tl : TE} (hl : PE X l tl) : PI X tg l (iSeq X.K tl) := by
  refine ⟨fun pins s σ H R I h => ?_⟩
  refine thn (hl.run pins s σ H _ I h) fun v s1 ⟨x, H1, I1, r1, q1⟩ => ?_
  obtain ⟨a, e, q1⟩ := q1
  subst e
  have ev : v = .ref a := r1
  subst ev
  rcases q1 with ⟨⟨xs, hq⟩, q⟩ | ⟨⟨xs, hq⟩, q⟩
  · obtain ⟨its, rv, p, hz⟩ := I1.list hq
    refine wpAny_pyIter_list p.isList ?_
    refine ⟨s1.heap.objs.size, [s1.heap.objs.size], _, _, H1, rfl, I1.kept (t' := s1.toks) fun b o e => Heap.get?_push_of_some _ e, turn_list a _, ⟨_, Heap.get?_push_size _ rfl, rfl, rfl⟩, fun b hb => ?_, q⟩
    have e : b = s1.heap.objs.size := by simpa using hb
    subst e
    exact I1.fpOk (Nat.le_refl _) (I1.hok.fresh (Nat.le_refl _))
  · obtain ⟨its, rv, p, hz⟩ := I1.tuple hq
    refine wpAny_pyIter_tuple (show s1.heap.IsTuple a its.toArray from p) ?_
    refine ⟨s1.heap.objs.size, [s1.heap.objs.size], _, _, H1, rfl, I1.kept (t' := s1.toks) fun b o e => Heap.get?_push_of_some _ e, turn_tuple a _, ⟨_, Heap.get?_push_size _ rfl, rfl, rfl⟩, fun b hb => ?_, q⟩
    have e : b = s1.heap.objs.size := by simpa using hb
    subst e
    exact I1.fpOk (Nat.le_refl _) (I1.hok.fresh (Nat.le_refl _))
theorem ci_seq (h : CE cm X e f) : CI cm X tg e (eItems f) := fun B tk => (pi_seq (h B tk)).weak fun σ H R ⟨G, env, r, q⟩ => tI.bind (Y := YV X.K cm) r q fun d env1 G1 H1 v e1 r1 y q1 => by
  cases y <;> try (exact q1.elim)
  · rename_i a vs ds h1 hs
    exact ⟨a, rfl, .inl ⟨⟨vs, SqL.of (r1.ex _ _ h1)⟩, q1 G1 H1 _ (Ex.refl _) r1 (itd_list h1 hs)⟩⟩
  · rename_i a vs ds h1 hs
    exact ⟨a, rfl, .inr ⟨⟨vs, ex_t r1.ex h1⟩, q1 G1 H1 _ (Ex.refl _) r1 (itd_tup h1 hs)⟩⟩
def eRng1 (l : M (List D)) : M (List D) := fun env => (l env).bind fun ds env1 => match ds with
  | [.int j] => if -(2 ^ 62) ≤ j ∧ j < 2 ^ 62 then .ok (rngD 0 j.toNat) env1 else .no
  | _ => .no
theorem ci_rng1 {a : Expr} {p : Pos} (hg : Gl X "range") (hm : X.mg "range" = none) (ha : CD cm X [a] l) (hs : starEach [a] X.env = [(false, eval a X.env)] := by rfl) : CI cm X tg (.Call (.Name "range" p) [a] [] pos) (eRng1 l) := fun B tk =>
  (pi_range1 hg hm (ha B tk) hs).weak fun σ H R ⟨G, env, r, q⟩ => tI.bind (Y := YD X.K cm) r q fun ds env1 G1 H1 vs e1 r1 y q1 => by
    match ds, y, q1 with
    | [.int j], y, q1 =>
      obtain ⟨v, rfl, yv⟩ := y.one
      cases yv
      dsimp only at q1
      by_cases hj : -(2 ^ 62) ≤ j ∧ j < 2 ^ 62
      · rw [if_pos hj] at q1
        exact ⟨j, rfl, hj.1, hj.2, q1 G1 H1 _ (Ex.refl _) r1 (itd_rng 0 j.toNat)⟩
      · rw [if_neg hj] at q1; exact q1.elim
def eRng2 (l : M (List D)) : M (List D) := fun env => (l env).bind fun ds env1 => match ds with
  | [.int i, .int j] => if -(2 ^ 62) ≤ i ∧ i < 2 ^ 62 ∧ -(2 ^ 62) ≤ j ∧ j < 2 ^ 62 then .ok (rngD i (j - i).toNat) env1 else .no
  | _ => .no
theorem ci_rng2 {a b : Expr} {p : Pos} (hg : Gl X "range") (hm : X.mg "range" = none) (ha : CD cm X [a, b] l) (hs : starEach [a, b] X.env = [(false, eval a X.env), (false, eval b X.env)] := by rfl) (hs2 : starEach [b] X.env = [(false, eval b X.env)] := by rfl) :
    CI cm X tg (.Call (.Name "range" p) [a, b] [] pos) (eRng2 l) := fun B tk =>
  (pi_range2 hg hm (ha B tk) hs hs2).weak fun σ H R ⟨G, env, r, q⟩ => tI.bind (Y := YD X.K cm) r q fun ds env1 G1 H1 vs e1 r1 y q1 => by
    match ds, y, q1 with
    | [.int i, .int j], y, q1 =>
      obtain ⟨v, v', rfl, yv, yv'⟩ := y.two
      cases yv; cases yv'
      dsimp only at q1
      by_cases hj : -(2 ^ 62) ≤ i ∧ i < 2 ^ 62 ∧ -(2 ^ 62) ≤ j ∧ j < 2 ^ 62
      · rw [if_pos hj] at q1
        exact ⟨i, j, rfl, hj, q1 G1 H1 _ (Ex.refl _) r1 (itd_rng i (j - i).toNat)⟩
      · rw [if_neg hj] at q1; exact q1.elim
def eZip (l : M (List D)) : M (List D) := fun env => (l env).bind fun ds env1 => match ds with
  | [.lst xs, .lst ys] => .ok (zipD xs ys) env1
  | [.tup xs, .tup ys] => .ok (zipD xs ys) env1
  | _ => .no
theorem ci_zip {p tpos : Pos} {elts : List Expr} {kk : Nat} (hg : Gl X "zip") (hm : X.mg "zip" = none) (ha : CD cm X [e, e2] l)
    (hs : starEach [e, e2] X.env = (false, eval e X.env) :: starEach [e2] X.env := by rfl) (hpl : (backTo pos (starEach [e2] X.env)).any (·.1) = false := by rfl) :
    CI cm X (.Tuple elts kk tpos) (.Call (.Name "zip" p) [e, e2] [] pos) (eZip l) := fun B tk =>
  (RZ.pi_zipA hg hm (ha B tk) hs hpl).weak fun σ H R ⟨G, env, r, q⟩ => tI.bind (Y := YD X.K cm) r q fun ds env1 G1 H1 vs e1 r1 y q1 => by
    match ds, y, q1 with
    | [.lst xs, .lst ys], y, q1 =>
      obtain ⟨v, v', rfl, yv, yv'⟩ := y.two
      cases yv with | lst h1 hs1 => cases yv' with | lst h2 hs2 => exact ⟨_, _, _, _, rfl, .inl ⟨SqL.of (r1.ex _ _ h1), SqL.of (r1.ex _ _ h2), q1 G1 H1 _ (Ex.refl _) r1 (itd_zip h1 hs1 h2 hs2)⟩⟩
    | [.tup xs, .tup ys], y, q1 =>
      obtain ⟨v, v', rfl, yv, yv'⟩ := y.two
      cases yv with | tup h1 hs1 => cases yv' with | tup h2 hs2 => exact ⟨_, _, _, _, rfl, .inr ⟨ex_t r1.ex h1, ex_t r1.ex h2, q1 G1 H1 _ (Ex.refl _) r1 (itd_zipT h1 hs1 h2 hs2)⟩⟩
def eEnum (l : M (List D)) : M (List D) := fun env => (l env).bind fun ds env1 => match ds with
  | [.lst xs] => .ok (enumD xs) env1
  | _ => .no
theorem ci_enum {p tpos : Pos} {elts : List Expr} {kk : Nat} (hg : Gl X "enumerate") (hm : X.mg "enumerate" = none) (ha : CD cm X [e] l)
    (hs : starEach [e] X.env = [(false, eval e X.env)] := by rfl) : CI cm X (.Tuple elts kk tpos) (.Call (.Name "enumerate" p) [e] [] pos) (eEnum l) := fun B tk =>
  (pi_enum hg hm (ha B tk) hs).weak fun σ H R ⟨G, env, r, q⟩ => tI.bind (Y := YD X.K cm) r q fun ds env1 G1 H1 vs e1 r1 y q1 => by
    match ds, y, q1 with
    | [.lst xs], y, q1 =>
      obtain ⟨v, rfl, yv⟩ := y.one
      cases yv with | lst h1 hs1 => exact ⟨_, _, rfl, SqL.of (r1.ex _ _ h1), q1 G1 H1 _ (Ex.refl _) r1 (itd_enum h1 hs1)⟩
end

/-! ### for -/
def loopS (k : D → Vs.Env → Option Vs.Env) (g : MS) : List D → Vs.Env → RS
  | [], env => .next env
  | d :: ds, env => match k d env with
    | none => .no
    | some env1 => match g env1 with
      | .next e => loopS k g ds e
      | .cont e => loopS k g ds e
      | .brk e => .next e
      | .ret d e => .ret d e
      | .exc x e => .exc x e
      | .retF d e => .retF d e
      | .no => .no
def sFor (l : M (List D)) (k : D → Vs.Env → Option Vs.Env) (g : MS) : MS := fun env => (l env).toS fun ds env1 => loopS k g ds env1
section
variable {cm : Cm} {X : Cx} {B : Base} {G H : Hp} {σ : L2.St} {env : Vs.Env} {e tg iter c : Expr} {body : List Stmt} {l : M (List D)} {k : D → Vs.Env → Option Vs.Env} {g : MS} {u : M Bool} {pos : Pos}
theorem cs_for {ws : List Nat} (hc : X.calm = true) (hi : CI cm X tg iter l) (hg : CG cm X tg ws k) (hb : CSs cm X body g) (hs : ∀ x, foldedSetIterable iter X.env x = pure x := by intro _; rfl) : CS cm X (.For tg iter body [] pos) (sFor l k g) := fun B tk hp =>
  (ps_for hp hc (hi B tk) (hg B) (hb B tk hp) hs).weak fun Dn σ H ⟨G, env, r, q⟩ => by
    refine ⟨G, env, r, ?_⟩
    unfold sFor at q
    cases c : l env with
    | no => rw [c] at q; exact q
    | exc x env' => rw [c] at q; exact fun G' H' cls dd => q G' H' σ cls dd
    | ok ds env' =>
      rw [c] at q
      have q : wantS X.K cm B G Dn (loopS k g ds env') := q
      refine fun G1 H1 J e1 r1 it => ?_
      refine ⟨fun i m σ H => ∃ G' env', Ex G1 G' ∧ Rel X.K cm B G' H σ env' ∧ i + m = ds.length ∧ wantS X.K cm B G' Dn (loopS k g (ds.drop i) env'), ⟨ds.length, G1, env', Ex.refl _, r1, by omega, by rw [List.drop_zero]; exact wantS.mono e1 q⟩, ?_⟩
      rintro i m σ2 H2 ⟨G2, env2, e2, r2, hm, q2⟩
      by_cases hlt : i < ds.length
      · refine .inr ⟨it.go B G2 H2 σ2 env2 i e2 r2 hlt, ?_⟩
        have hd : ds.drop i = ds[i] :: ds.drop (i + 1) := List.drop_eq_getElem_cons hlt
        rw [hd] at q2
        refine ⟨fun σ' H' => ∃ G' env', Ex G1 G' ∧ Rel X.K cm B G' H' σ' env' ∧ wantS X.K cm B G' Dn (loopS k g (ds.drop (i + 1)) env'), fun σ' H' ⟨G', env', h1, h2, h3⟩ => ⟨m - 1, by omega, G', env', h1, h2, by omega, h3⟩, fun x H3 y => ?_⟩
        obtain ⟨G3, e3, r3, y3⟩ := it.yld B G2 H2 σ2 env2 i ds[i] x H3 e2 r2 (List.getElem?_eq_getElem hlt) y
        unfold loopS at q2
        cases ck : k ds[i] env2 with
        | none => rw [ck] at q2; exact q2.elim
        | some env4 =>
          rw [ck] at q2
          dsimp only at q2
          refine ⟨G3, env2, _, env4, r3, y3, ck, fun G4 H4 σ4 e4 r4 _ => ⟨G4, env4, r4, ?_⟩⟩
          cases cg : g env4 with
          | next e => rw [cg] at q2; exact fun G5 H5 σ5 e5 r5 => ⟨G5, e, ((e2.trans e3).trans e4).trans e5, r5, wantS.mono ((e3.trans e4).trans e5) q2⟩
          | cont e => rw [cg] at q2; exact fun G5 H5 σ5 e5 r5 => ⟨G5, e, ((e2.trans e3).trans e4).trans e5, r5, wantS.mono ((e3.trans e4).trans e5) q2⟩
          | brk e => rw [cg] at q2; exact fun G5 H5 σ5 e5 r5 => q2 G5 H5 σ5 ((e3.trans e4).trans e5) r5
          | ret d e => rw [cg] at q2; exact fun G5 H5 σ5 v e5 r5 => q2 G5 H5 σ5 v ((e3.trans e4).trans e5) r5
          | exc x e => rw [cg] at q2; exact fun G5 H5 σ5 c d e5 r5 => q2 G5 H5 σ5 c d ((e3.trans e4).trans e5) r5
          | retF d e => rw [cg] at q2; exact fun G5 H5 σ5 p vs e5 r5 => q2 G5 H5 σ5 p vs ((e3.trans e4).trans e5) r5
          | no => rw [cg] at q2; exact q2.elim
      · have hi : i = ds.length := by omega
        subst hi
        rw [List.drop_length] at q2
        exact .inl ⟨it.stop B G2 H2 σ2 env2 e2 r2, q2 G2 H2 σ2 (Ex.refl _) r2⟩
/-! ### while -/
def whileS (u : M Bool) (g : MS) : Nat → Vs.Env → RS
  | 0, _ => .no
  | n + 1, env => (u env).toS fun b env1 => if b = true then (match g env1 with
      | .next e => whileS u g n e
      | .cont e => whileS u g n e
      | .brk e => .next e
      | .ret d e => .ret d e
      | .exc x e => .exc x e
      | .retF d e => .retF d e
      | .no => .no) else .next env1
def sWhile (n : Nat) (u : M Bool) (g : MS) : MS := fun env => whileS u g n env
theorem cs_while (n : Nat) (hc : CT cm X c u) (hb : CSs cm X body g) : CS cm X (.While c body [] pos) (sWhile n u g) := fun B tk hp =>
  (ps_while hp (hc B tk) (hb B tk hp)).weak fun Dn σ H ⟨G, env, r, q⟩ => by
    refine ⟨fun m σ H => ∃ G' env', Rel X.K cm B G' H σ env' ∧ wantS X.K cm B G' Dn (whileS u g m env'), ⟨n, G, env, r, q⟩, ?_⟩
    rintro m σ2 H2 ⟨G2, env2, r2, q2⟩
    cases m with
    | zero => exact q2.elim
    | succ m =>
      unfold whileS at q2
      refine wantS.bind r2 q2 fun b env3 G3 H3 b' e3 r3 y3 q3 => ?_
      cases y3
      cases b with
      | false => exact iteF (q3 G3 H3 σ2 (Ex.refl _) r3)
      | true =>
        refine iteT ⟨fun σ' H' => ∃ G' env', Rel X.K cm B G' H' σ' env' ∧ wantS X.K cm B G' Dn (whileS u g m env'), fun σ' H' ⟨G', env', h1, h2⟩ => ⟨m, Nat.lt_succ_self m, G', env', h1, h2⟩, G3, env3, r3, ?_⟩
        rw [if_pos rfl] at q3
        cases cg : g env3 with
        | next e => rw [cg] at q3; exact fun G5 H5 σ5 e5 r5 => ⟨G5, e, r5, wantS.mono e5 q3⟩
        | cont e => rw [cg] at q3; exact fun G5 H5 σ5 e5 r5 => ⟨G5, e, r5, wantS.mono e5 q3⟩
        | brk e => rw [cg] at q3; exact fun G5 H5 σ5 e5 r5 => q3 G5 H5 σ5 e5 r5
        | ret d e => rw [cg] at q3; exact fun G5 H5 σ5 v e5 r5 => q3 G5 H5 σ5 v e5 r5
        | exc x e => rw [cg] at q3; exact fun G5 H5 σ5 c d e5 r5 => q3 G5 H5 σ5 c d e5 r5
        | retF d e => rw [cg] at q3; exact fun G5 H5 σ5 p vs e5 r5 => q3 G5 H5 σ5 p vs e5 r5
        | no => rw [cg] at q3; exact q3.elim
end
end Vs

set_option Elab.async false
set_option linter.all false
set_option maxRecDepth 100000
set_option maxHeartbeats 4000000
/-! VsH: comprehensions; lists of the frame's own. -/
namespace Vs
open PySem PySem.Spec PyProof.Rows L2 Evl

/-! ### comprehensions -/
def wipeE (env : Vs.Env) : List Nat → Vs.Env
  | [] => env
  | v :: vs => (wipeE env vs).set v none
def restE (env env' : Vs.Env) : List Nat → Vs.Env
  | [] => env'
  | v :: vs => (restE env env' vs).set v (env.getD v none)
/-- no own list among the slots -/
def plainE (env : Vs.Env) (vs : List Nat) : Bool := vs.all fun v => match env[v]? with
  | some (some (.ol _ _)) => false
  | some (some (.oo _ _)) => false
  | some (some (.th _)) => false
  | _ => true
def loopC (vs : List Nat) (k : D → Vs.Env → Option Vs.Env) (t : M Bool) (el : M D) : List D → Vs.Env → R (List D)
  | [], env => .ok [] env
  | d :: ds, env => match k d env with
    | none => .no
    | some env1 => (t env1).bind fun b env2 => if b = true then (el env2).bind fun y env3 => (loopC vs k t el ds (wipeE env3 vs)).bind fun ys env4 => .ok (y :: ys) env4 else loopC vs k t el ds (wipeE env2 vs)
def eYes : M Bool := fun env => .ok true env
def eLc (vs : List Nat) (l : M (List D)) (k : D → Vs.Env → Option Vs.Env) (t : M Bool) (el : M D) : M D := fun env => (l env).bind fun ds env1 => if plainE env1 vs = true then (match loopC vs k t el ds (wipeE env1 vs) with
  | .ok ys env2 => if ys.length ≤ sizeLine then .ok (.lst ys) (restE env1 env2 vs) else .no
  | _ => .no) else .no

theorem wipeE_length (env : Vs.Env) : ∀ vs, (wipeE env vs).length = env.length
  | [] => rfl
  | v :: vs => by unfold wipeE; rw [List.length_set, wipeE_length env vs]
theorem restE_length (env env' : Vs.Env) : ∀ vs, (restE env env' vs).length = env'.length
  | [] => rfl
  | v :: vs => by unfold restE; rw [List.length_set, restE_length env env' vs]
theorem wipeE_some {env : Vs.Env} {i : Nat} {t : T} : ∀ {vs : List Nat}, (wipeE env vs)[i]? = some (some t) → env[i]? = some (some t) ∧ i ∉ vs
  | [], h => ⟨h, by simp⟩
  | v :: vs, h => by
    unfold wipeE at h
    rcases get_set h with ⟨_, z, _⟩ | ⟨ne, h⟩
    · cases z
    · obtain ⟨h1, h2⟩ := wipeE_some h
      exact ⟨h1, by simp only [List.mem_cons, not_or]; exact ⟨ne, h2⟩⟩
theorem restE_in {env env' : Vs.Env} {i : Nat} : ∀ {vs : List Nat}, i ∈ vs → i < env'.length → (restE env env' vs)[i]? = some (env.getD i none)
  | v :: vs, h, hl => by
    unfold restE
    by_cases e : v = i
    · subst e
      rw [List.getElem?_set_self (by rw [restE_length]; exact hl)]
    · rw [List.getElem?_set_ne e]
      exact restE_in ((List.mem_cons.mp h).resolve_left fun z => e z.symm) hl
theorem restE_out {env env' : Vs.Env} {i : Nat} : ∀ {vs : List Nat}, i ∉ vs → (restE env env' vs)[i]? = env'[i]?
  | [], h => rfl
  | v :: vs, h => by
    unfold restE
    rw [List.getElem?_set_ne (fun e => h (by simp [e]))]
    exact restE_out fun z => h (List.mem_cons_of_mem _ z)
theorem wipe_out2 {σ : L2.St} {i : Nat} : ∀ {vs : List Nat}, i ∉ vs → (wipe σ vs)[i]? = σ[i]?
  | [], _ => rfl
  | v :: vs, h => by
    unfold wipe
    rw [List.getElem?_set_ne (fun e => h (by simp [e]))]
    exact wipe_out2 fun z => h (List.mem_cons_of_mem _ z)
theorem wipe_in {σ : L2.St} {i : Nat} : ∀ {vs : List Nat}, i ∈ vs → i < σ.length → (wipe σ vs)[i]? = some none
  | v :: vs, h, hl => by
    unfold wipe
    by_cases e : v = i
    · subst e
      rw [List.getElem?_set_self (by rw [wipe_length]; exact hl)]
    · rw [List.getElem?_set_ne e]
      exact wipe_in ((List.mem_cons.mp h).resolve_left fun z => e z.symm) hl
theorem wipe_eq {σ σ' : L2.St} {vs : List Nat} (hl : σ'.length = σ.length) (h : ∀ j, j ∉ vs → σ'[j]? = σ[j]?) : wipe σ' vs = wipe σ vs := by
  apply List.ext_getElem?
  intro i
  by_cases hi : i ∈ vs
  · by_cases hz : i < σ.length
    · rw [wipe_in hi hz, wipe_in hi (by omega)]
    · rw [List.getElem?_eq_none (by rw [wipe_length]; omega), List.getElem?_eq_none (by rw [wipe_length]; omega)]
  · rw [wipe_out2 hi, wipe_out2 hi, h i hi]

section
variable {K : PySem.W.Frag} {cm : Cm} {B : Base} {G G1 H : Hp} {σ : L2.St} {env : Vs.Env}
/-- within a comprehension whose list stands at Dl -/
def Base.lc (B : Base) (Dl : Addr) (acc : List V) : Base := { prot := fun p => B.prot p ∨ p = Dl, H0 := fun p => if p = Dl then some (.lst acc) else B.H0 p, ins := B.ins, W := fun _ _ _ _ => False, slf := B.slf, tt := B.tt, th := B.th }
theorem Rel.wipe (r : Rel K cm B G H σ env) (vs : List Nat) : Rel K cm B G H (L2.wipe σ vs) (wipeE env vs) :=
  r.forget (by rw [wipe_length, wipeE_length, r.len]) fun i t h => by
    obtain ⟨h1, h2⟩ := wipeE_some h
    exact ⟨h1, wipe_out2 h2⟩
/-- the comprehension's list comes -/
theorem Rel.toLc (r : Rel K cm B G H σ env) {Dl : Addr} (h : H Dl = none) : Rel K cm (B.lc Dl []) G (upd H Dl (.lst [])) σ env := by
  have r2 := r.fresh (o := .lst []) h
  refine ⟨r2.ex, r2.len, fun i t e => ?_, r2.ap, fun p hp => ?_, fun p hp ps => ?_, r2.nt, r2.tb, r2.tk, r2.ao⟩
  · obtain ⟨v, ev, tr⟩ := r2.sl i t e
    refine ⟨v, ev, ?_⟩
    cases t with
    | fz d => exact tr
    | th o => exact tr
    | oo c fs =>
      obtain ⟨b, C, dx, vs, rfl, m1, m2, m3, m4, m5, m6, m7, m8, m9, m10⟩ := tr
      have n1 : b ≠ Dl := fun z => by subst z; rw [upd_same] at m3; cases m3
      have n2 : dx ≠ Dl := fun z => by subst z; rw [upd_same] at m4; cases m4
      exact ⟨b, C, dx, vs, rfl, m1, m2, m3, m4, m5, m6, m7, m8, fun z => z.elim m9 n1, fun z => z.elim m10 n2⟩
    | ol k ds =>
      obtain ⟨a, vs, rfl, h1, h2, h3, h4, h5⟩ := tr
      refine ⟨a, vs, rfl, h1, h2, h3, ?_, h5⟩
      rintro (z | z)
      · exact h4 z
      · obtain ⟨v', ev', tr'⟩ := r.sl i _ e
        rw [ev] at ev'; cases ev'
        obtain ⟨a', vs', z', g1, _⟩ := tr'
        cases z'
        rw [z, h] at g1; cases g1
  · by_cases hd : p = Dl
    · subst hd
      refine ⟨r.free h, by rw [upd_same]; show _ = (if p = p then _ else _); rw [if_pos rfl], ?_⟩
      show (if p = p then _ else _) ≠ none
      rw [if_pos rfl]; exact fun z => nomatch z
    · have hp' : B.prot p := hp.resolve_right hd
      obtain ⟨h1, h2, h3⟩ := r2.pr p hp'
      have e : (B.lc Dl []).H0 p = B.H0 p := if_neg hd
      rw [e]
      exact ⟨h1, h2, h3⟩
  · by_cases hd : p = Dl
    · subst hd
      rw [upd_same]; exact fun z => nomatch z
    · exact r2.ptb p (hp.resolve_right hd) ps
/-- it grows -/
theorem Rel.lcPut {Dl : Addr} {acc acc' : List V} (r : Rel K cm (B.lc Dl acc) G H σ env) : Rel K cm (B.lc Dl acc') G (upd H Dl (.lst acc')) σ env ∧ H Dl = some (.lst acc) ∧ G Dl = none := by
  have hD : H Dl = some (.lst acc) ∧ G Dl = none := by
    obtain ⟨h1, h2, h3⟩ := r.pr Dl (.inr rfl)
    have e : (B.lc Dl acc).H0 Dl = some (.lst acc) := if_pos rfl
    rw [e] at h2
    exact ⟨h2, h1⟩
  refine ⟨⟨fun b u q => ?_, r.len, fun i t e => ?_, r.ap, fun p hp => ?_, fun p hp ps => ?_, r.nt, r.tb.lst hD.1, tk_lst r.tk hD.1, r.ao⟩, hD⟩
  · have ne : b ≠ Dl := fun z => by rw [z, hD.2] at q; cases q
    rw [upd_ne ne]; exact r.ex b u q
  · obtain ⟨v, ev, tr⟩ := r.sl i t e
    refine ⟨v, ev, ?_⟩
    cases t with
    | fz d => exact tr
    | th o => exact tr
    | oo c fs =>
      obtain ⟨b, C, dx, vs, rfl, m1, m2, m3, m4, m5, m6, m7, m8, m9, m10⟩ := tr
      have n1 : b ≠ Dl := fun z => m9 (.inr z)
      have n2 : dx ≠ Dl := fun z => m10 (.inr z)
      exact ⟨b, C, dx, vs, rfl, m1, m2, by rw [upd_ne n1]; exact m3, by rw [upd_ne n2]; exact m4, m5, m6, m7, m8, m9, m10⟩
    | ol k ds =>
      obtain ⟨a, vs, rfl, h1, h2, h3, h4, h5⟩ := tr
      have ne : a ≠ Dl := fun z => h4 (.inr z)
      exact ⟨a, vs, rfl, by rw [upd_ne ne]; exact h1, h2, h3, h4, h5⟩
  · by_cases hd : p = Dl
    · subst hd
      refine ⟨hD.2, by rw [upd_same]; show _ = (if p = p then _ else _); rw [if_pos rfl], ?_⟩
      show (if p = p then _ else _) ≠ none
      rw [if_pos rfl]; exact fun z => nomatch z
    · have e1 : (B.lc Dl acc').H0 p = B.H0 p := if_neg hd
      have e2 : (B.lc Dl acc).H0 p = B.H0 p := if_neg hd
      obtain ⟨h1, h2, h3⟩ := r.pr p hp
      rw [e2] at h2 h3
      rw [e1, upd_ne hd]
      exact ⟨h1, h2, h3⟩
  · by_cases hd : p = Dl
    · subst hd
      rw [upd_same]; exact fun z => nomatch z
    · rw [upd_ne hd]; exact r.ptb p hp ps
/-- the block ends: its list is data from now on, its names are as they were -/
theorem Rel.ofLc {Dl : Addr} {acc : List V} {vs : List Nat} {env2 : Vs.Env} (nd : ¬ B.prot Dl) (r0 : ∃ H1, Rel K cm B G1 H1 σ env) (e1 : Ex G1 G) (r : Rel K cm (B.lc Dl acc) G H (L2.wipe σ vs) env2) (hp : plainE env vs = true) (hl : env2.length = env.length) :
    Rel K cm B (upd G Dl (.lst acc)) H σ (restE env env2 vs) ∧ Ex G (upd G Dl (.lst acc)) ∧ H Dl = some (.lst acc) := by
  obtain ⟨_, hD, gD⟩ := r.lcPut (acc' := acc)
  obtain ⟨H1, r0⟩ := r0
  have eg : Ex G (upd G Dl (.lst acc)) := Ex.new gD
  -- every slot of the end: an own name as it was ahead, or one of the block's end
  have key : ∀ (i : Nat) (t : T), (restE env env2 vs)[i]? = some (some t) → (i ∈ vs ∧ env[i]? = some (some t) ∧ ∃ d, t = .fz d) ∨ (i ∉ vs ∧ env2[i]? = some (some t)) := fun i t e => by
    by_cases hi : i ∈ vs
    · by_cases hz : i < env2.length
      · rw [restE_in hi hz] at e
        have e2 : env[i]? = some (some t) := by
          have : env.getD i none = some t := by simpa using e
          rw [List.getD_eq_getElem?_getD] at this
          cases q : env[i]? with
          | none => rw [q] at this; cases this
          | some o => rw [q] at this; exact congrArg some this
        refine .inl ⟨hi, e2, ?_⟩
        have hz := hp
        unfold plainE at hz
        rw [List.all_eq_true] at hz
        have := hz i hi
        rw [e2] at this
        cases t with
        | fz d => exact ⟨d, rfl⟩
        | ol k ds => cases this
        | oo c fs => cases this
        | th o => cases this
      · rw [List.getElem?_eq_none (by rw [restE_length]; omega)] at e; cases e
    · rw [restE_out hi] at e
      exact .inr ⟨hi, e⟩
  refine ⟨⟨fun b u q => ?_, by rw [restE_length, hl, r0.len], fun i t e => ?_, fun i j a k ds k' ds' e1 e2 e3 e4 => ?_, fun p hp => ?_, fun p hp ps => r.ptb p (.inl hp) ps, nt_upd r.nt (fun ps z => by cases z), r.tb.ge eg, r.tk, fun i j c c' fs fs' e1 e2 => ?_⟩, eg, hD⟩
  · by_cases hb : b = Dl
    · subst hb; rw [upd_same] at q; cases q; exact hD
    · rw [upd_ne hb] at q; exact r.ex b u q
  · rcases key i t e with ⟨hi, e2, d, rfl⟩ | ⟨hi, e2⟩
    · obtain ⟨v, ev, tr⟩ := r0.sl i _ e2
      exact ⟨v, ev, Rp.mono (e1.trans eg) tr⟩
    · obtain ⟨v, ev, tr⟩ := r.sl i t e2
      rw [wipe_out2 hi] at ev
      refine ⟨v, ev, ?_⟩
      cases t with
      | fz d => exact Rp.mono eg tr
      | th o => exact th_ge tr eg
      | oo c fs =>
        obtain ⟨b, C, dx, vs, rfl, m1, m2, m3, m4, m5, m6, m7, m8, m9, m10⟩ := tr
        have n1 : b ≠ Dl := fun z => m9 (.inr z)
        have n2 : dx ≠ Dl := fun z => m10 (.inr z)
        exact ⟨b, C, dx, vs, rfl, m1, m2, m3, m4, by rw [upd_ne n1]; exact m5, by rw [upd_ne n2]; exact m6, m7, Rps.mono eg m8, fun z => m9 (.inl z), fun z => m10 (.inl z)⟩
      | ol k ds =>
        obtain ⟨a, vs', rfl, h1, h2, h3, h4, h5⟩ := tr
        have ne : a ≠ Dl := fun z => h4 (.inr z)
        exact ⟨a, vs', rfl, h1, by rw [upd_ne ne]; exact h2, Rps.mono eg h3, fun z => h4 (.inl z), h5⟩
  · rcases key i _ e1 with ⟨_, _, d, z⟩ | ⟨hi, q1⟩
    · cases z
    · rcases key j _ e2 with ⟨_, _, d, z⟩ | ⟨hj, q2⟩
      · cases z
      · exact r.ap i j a k ds k' ds' q1 q2 (by rw [wipe_out2 hi]; exact e3) (by rw [wipe_out2 hj]; exact e4)
  · obtain ⟨h1, h2, h3⟩ := r.pr p (.inl hp)
    have ne : p ≠ Dl := fun z => by subst z; exact nd hp
    have e2 : (B.lc Dl acc).H0 p = B.H0 p := if_neg ne
    rw [e2] at h2 h3
    exact ⟨by rw [upd_ne ne]; exact h1, h2, h3⟩
  · rcases key i _ e1 with ⟨_, _, d, z⟩ | ⟨hi, q1⟩
    · cases z
    · rcases key j _ e2 with ⟨_, _, d, z⟩ | ⟨hj, q2⟩
      · cases z
      · exact r.ao i j c c' fs fs' q1 q2

variable {X : Cx} {e elt tg iter : Expr} {es ifs : List Expr} {f el : M D} {l : M (List D)} {u t : M Bool} {pos : Pos}
/-! ### the clause's tests -/
variable (cm X) in
def CTs (ifs : List Expr) (u : M Bool) : Prop := ∀ B : Base, Fit cm X B → PTs X ifs (tG X.K cm YB B u)
theorem _root_.L2.PTs.weak {X : Cx} {e : List Expr} {t t' : TT} (h : PTs X e t) (w : ∀ σ H Q, t' σ H Q → t σ H Q) : PTs X e t' := ⟨fun pins s σ H Q I q => h.run pins s σ H Q I (w _ _ _ q)⟩
theorem cts_nil : CTs cm X [] eYes := fun B tk => pts_nil.weak fun σ H Q ⟨G, env, r, q⟩ => q G H true (Ex.refl _) r rfl
theorem cts_one (h : CT cm X e u) : CTs cm X [e] u := fun B tk => pts_one (h B tk)
/-- some fixed things are whatever fits -/
def tGx {α β : Type} (X : Cx) (cm : Cm) (Y : Hp → L2.St → β → α → Prop) (f : M α) : L2.St → Hp → (β → Hp → Prop) → Prop := fun σ H Q => ∃ B : Base, ((∀ c d σ H, ¬ B.W c d σ H) ∧ ∀ G0 f g, B.th G0 f g → ∃ k, Room k X.A ∧ X.A.guards = some [] ∧ FnC X.prog X.w X.K X.mg X.base cm k G0 f g) ∧ tG X.K cm Y B f σ H Q
def tGtx (cm : Cm) (X : Cx) (ws : List Nat) (k : D → Vs.Env → Option Vs.Env) : TG := fun v σ H Q => ∃ B : Base, tGt cm X B ws k v σ H Q
theorem takes_no {W : WX} (h : ∀ c d σ H, ¬ W c d σ H) : Takes X W := takes0.imp fun c d σ H w => (h c d σ H w).elim
theorem CE.x (h : CE cm X e f) : PE X e (tGx X cm (YV X.K cm) f) := ⟨fun pins s σ H Q I ⟨B, tk, q⟩ => (h B ⟨takes_no tk.1, tk.2⟩).run pins s σ H Q I q⟩
theorem CTs.x (h : CTs cm X ifs u) : PTs X ifs (tGx X cm YB u) := ⟨fun pins s σ H Q I ⟨B, tk, q⟩ => (h B ⟨takes_no tk.1, tk.2⟩).run pins s σ H Q I q⟩
theorem CG.x {ws : List Nat} {k : D → Vs.Env → Option Vs.Env} (h : CG cm X tg ws k) : PG X tg (tGtx cm X ws k) := ⟨fun pins s σ H v u Q I r ⟨B, q⟩ => (h B).run pins s σ H v u Q I r q⟩
theorem loopC_len {vs : List Nat} {k : D → Vs.Env → Option Vs.Env} : ∀ {ds : List D} {env env2 : Vs.Env} {ys : List D}, loopC vs k t el ds env = .ok ys env2 → ys.length ≤ ds.length
  | [], env, env2, ys, h => by
    have h : R.ok ([] : List D) env = .ok ys env2 := h
    cases h
    exact Nat.le_refl _
  | d :: ds, env, env2, ys, h => by
    unfold loopC at h
    cases ck : k d env with
    | none => rw [ck] at h; cases h
    | some env1 =>
      rw [ck] at h
      dsimp only at h
      cases ct : t env1 with
      | no => rw [ct] at h; cases h
      | exc x e => rw [ct] at h; cases h
      | ok b e =>
        rw [ct] at h
        simp only [Vs.R.bind_ok] at h
        split at h
        · cases ce : el e with
          | no => rw [ce] at h; cases h
          | exc x e => rw [ce] at h; cases h
          | ok y e3 =>
            rw [ce] at h
            simp only [Vs.R.bind_ok] at h
            cases cr : loopC vs k t el ds (wipeE e3 vs) with
            | no => rw [cr] at h; cases h
            | exc x e => rw [cr] at h; cases h
            | ok zs e4 =>
              rw [cr] at h
              cases h
              have := loopC_len cr
              simp only [List.length_cons]
              omega
        · have := loopC_len h
          simp only [List.length_cons]
          omega
/-- what follows a comprehension's reading; Dl: the new list -/
theorem tLc_of {wi : TI} {vs ws : List Nat} {k : D → Vs.Env → Option Vs.Env} {B : Base} {σ : L2.St} {H : Hp} {Q : VK} (tk : Fit cm X B) (hws : ∀ j ∈ ws, j ∈ vs) (hwi : ∀ σ H R, tI cm X B l σ H R → wi σ H R)
    (q : ∃ G env, Rel X.K cm B G H σ env ∧ (match eLc vs l k t el env with
      | .ok d env' => ∀ ys, d = .lst ys → ∀ G0 G' H' Dl acc, Ex G G0 → G' = upd G0 Dl (.lst acc) → Ex G0 G' → Rel X.K cm B G' H' σ env' → H' Dl = some (.lst acc) → Rps X.K cm G0 acc ys → Q (.ref Dl) H'
      | .exc x env' => ∀ G' H' cls dd, Ex G G' → Rel X.K cm B G' H' σ env' → XRel X.K cm G' H' cls dd x → B.W cls dd σ H'
      | .no => False)) : tLc wi (tGtx cm X ws k) (tGx X cm YB t) (tGx X cm (YV X.K cm) el) vs σ H Q := by
  obtain ⟨G, env, r, q⟩ := q
  refine hwi σ H _ ⟨G, env, r, ?_⟩
  unfold eLc at q
  cases c : l env with
  | no => rw [c] at q; exact q
  | exc x env' => rw [c] at q; exact q
  | ok ds env1 =>
    rw [c] at q
    simp only [Vs.R.bind_ok] at q
    by_cases hp : plainE env1 vs = true
    · rw [if_pos hp] at q
      cases cl : loopC vs k t el ds (wipeE env1 vs) with
      | no => rw [cl] at q; exact q.elim
      | exc x e => rw [cl] at q; exact q.elim
      | ok ys env2 =>
        rw [cl] at q
        dsimp only at q
        by_cases hz : ys.length ≤ sizeLine
        · rw [if_pos hz] at q
          refine fun G1 H1 J e1 r1 it Dl hD => ?_
          have nd : ¬ B.prot Dl := r1.nprot hD
          refine ⟨fun i m H => ∃ G' envi acc accD rest, Ex G1 G' ∧ Rel X.K cm (B.lc Dl acc) G' H (wipe σ vs) envi ∧ envi.length = env1.length ∧ Rps X.K cm G' acc accD ∧ loopC vs k t el (ds.drop i) envi = .ok rest env2 ∧ accD ++ rest = ys ∧ i + m = ds.length,
            ⟨ds.length, G1, wipeE env1 vs, [], [], ys, Ex.refl _, (r1.toLc hD).wipe vs, wipeE_length _ _, .nil, by rw [List.drop_zero]; exact cl, rfl, by omega⟩, ?_⟩
          rintro i m H2 ⟨G2, env3, acc, accD, rest, e2, r2, hl, hacc, hloop, hys, hm⟩
          by_cases hlt : i < ds.length
          · refine .inr ⟨it.go _ G2 H2 _ env3 i e2 r2 hlt, ?_⟩
            have hd : ds.drop i = ds[i] :: ds.drop (i + 1) := List.drop_eq_getElem_cons hlt
            rw [hd] at hloop
            unfold loopC at hloop
            refine ⟨fun H => ∃ G' envi acc accD rest, Ex G1 G' ∧ Rel X.K cm (B.lc Dl acc) G' H (wipe σ vs) envi ∧ envi.length = env1.length ∧ Rps X.K cm G' acc accD ∧ loopC vs k t el (ds.drop (i + 1)) envi = .ok rest env2 ∧ accD ++ rest = ys, fun H' ⟨G', envi, acc, accD, rest, h1, h2, h3, h4, h5, h6⟩ => ⟨m - 1, by omega, G', envi, acc, accD, rest, h1, h2, h3, h4, h5, h6, by omega⟩, fun x H3 y => ?_⟩
            obtain ⟨G3, e3, r3, y3⟩ := it.yld _ G2 H2 _ env3 i ds[i] x H3 e2 r2 (List.getElem?_eq_getElem hlt) y
            cases ck : k ds[i] env3 with
            | none => rw [ck] at hloop; cases hloop
            | some env4 =>
              rw [ck] at hloop
              dsimp only at hloop
              refine ⟨B.lc Dl acc, G3, env3, _, env4, r3, y3, ck, fun G4 H4 σ4 e4 r4 b4 => ⟨?_, ?_⟩⟩
              · have := wipe_eq (vs := vs) b4.1 fun j hj => b4.2 j fun z => hj (hws j z)
                rw [this]
                exact wipe_eq (wipe_length σ vs) fun j hj => wipe_out2 hj
              · have wσ : wipe σ4 vs = wipe σ vs := by
                  have := wipe_eq (vs := vs) b4.1 fun j hj => b4.2 j fun z => hj (hws j z)
                  rw [this]
                  exact wipe_eq (wipe_length σ vs) fun j hj => wipe_out2 hj
                refine ⟨B.lc Dl acc, ⟨fun _ _ _ _ z => z, tk.th⟩, G4, env4, r4, ?_⟩
                cases ct : t env4 with
                | no => rw [ct] at hloop; cases hloop
                | exc x e => rw [ct] at hloop; cases hloop
                | ok b env5 =>
                  rw [ct] at hloop
                  simp only [Vs.R.bind_ok] at hloop
                  refine fun G5 H5 b' e5 r5 y5 => ?_
                  cases y5
                  have l5 : env5.length = env1.length := by
                    have q1 := r5.len
                    have q2 := b4.1
                    rw [wipe_length] at q2
                    have q3 := r1.len
                    omega
                  by_cases hb : b = true
                  · subst hb
                    rw [if_pos rfl] at hloop
                    refine iteT ⟨B.lc Dl acc, ⟨fun _ _ _ _ z => z, tk.th⟩, G5, env5, r5, ?_⟩
                    cases ce : el env5 with
                    | no => rw [ce] at hloop; cases hloop
                    | exc x e => rw [ce] at hloop; cases hloop
                    | ok yd env6 =>
                      rw [ce] at hloop
                      simp only [Vs.R.bind_ok] at hloop
                      refine fun G6 H6 yv e6 r6 y6 => ?_
                      have l6 : env6.length = env1.length := by
                        have q1 := r6.len
                        have q2 := b4.1
                        rw [wipe_length] at q2
                        have q3 := r1.len
                        omega
                      obtain ⟨r7, hD7, gD7⟩ := r6.lcPut (acc' := acc ++ [yv])
                      cases cr : loopC vs k t el (ds.drop (i + 1)) (wipeE env6 vs) with
                      | no => rw [cr] at hloop; cases hloop
                      | exc x e => rw [cr] at hloop; cases hloop
                      | ok zs e4' =>
                        rw [cr] at hloop
                        have hloop : R.ok (yd :: zs) e4' = .ok rest env2 := hloop
                        cases hloop
                        have e26 : Ex G2 G6 := ((e3.trans e4).trans e5).trans e6
                        have hlen : acc.length < sizeLine := by
                          have h1 := hacc.length
                          have h2 : accD.length + (zs.length + 1) = ys.length := by rw [← hys]; simp
                          omega
                        refine ⟨acc, hD7, hlen, G6, wipeE env6 vs, acc ++ [yv], accD ++ [yd], zs, e2.trans e26, ?_, by rw [wipeE_length]; exact l6, (hacc.mono e26).append (.cons y6 .nil), cr, by rw [← hys]; simp⟩
                        have := r7.wipe vs
                        rw [wσ] at this
                        exact this
                  · have hb' : b = false := by simpa using hb
                    subst hb'
                    rw [if_neg Bool.false_ne_true] at hloop
                    refine iteF ⟨G5, wipeE env5 vs, acc, accD, rest, e2.trans ((e3.trans e4).trans e5), ?_, by rw [wipeE_length]; exact l5, hacc.mono ((e3.trans e4).trans e5), hloop, hys⟩
                    have := r5.wipe vs
                    rw [wσ] at this
                    exact this
          · have hi : i = ds.length := by omega
            subst hi
            rw [List.drop_length] at hloop
            have hloop : R.ok ([] : List D) env3 = .ok rest env2 := hloop
            cases hloop
            rw [List.append_nil] at hys
            subst hys
            refine .inl ⟨it.stop _ G2 H2 _ env2 e2 r2, ?_⟩
            obtain ⟨rr, ee, hh⟩ := Rel.ofLc nd ⟨H1, r1⟩ e2 r2 hp hl
            exact q accD rfl G2 _ H2 Dl acc (e1.trans e2) rfl ee rr hh hacc
        · rw [if_neg hz] at q; exact q.elim
    · rw [if_neg hp] at q; exact q.elim
theorem ce_lc {ws : List Nat} {k : D → Vs.Env → Option Vs.Env} {scope : Scope} {own : List (Str × Nat)} (hc : X.calm = true) (hN : X.N.Nodup) (hi : CI cm X tg iter l) (ok : BlkOk X.N X.env.scope scope own) (hws : ∀ j ∈ ws, j ∈ own.map (·.2))
    (hg : ∀ (s : Shared) (H : Hp) (C : Addr) (cl : List (Str × Addr)) (fp : List Addr), CG cm (X.blk s H scope (compEnvC scope cl C X.env) fp) tg ws k) (ht : ∀ (s : Shared) (H : Hp) (C : Addr) (cl : List (Str × Addr)) (fp : List Addr), CTs cm (X.blk s H scope (compEnvC scope cl C X.env) fp) ifs t)
    (he : ∀ (s : Shared) (H : Hp) (C : Addr) (cl : List (Str × Addr)) (fp : List Addr), CE cm (X.blk s H scope (compEnvC scope cl C X.env) fp) elt el) (hs : ∀ x, foldedSetIterable iter X.env x = pure x := by intro _; rfl) :
    CE cm X (.ListComp elt [⟨tg, iter, ifs, 0⟩] scope pos) (eLc (own.map (·.2)) l k t el) := fun B tk =>
  (pe_lc (g := tGtx cm X ws k) (tt := tGx X cm YB t) (te := tGx X cm (YV X.K cm) el) hc hN (hi B tk) ok (fun s H C cl fp => (hg s H C cl fp).x) (fun s H C cl fp => (ht s H C cl fp).x) (fun s H C cl fp => (he s H C cl fp).x) hs).weak fun σ H Q ⟨G, env, r, q⟩ => by
    refine tLc_of tk hws (fun _ _ _ h => h) ⟨G, env, r, ?_⟩
    cases c : eLc (own.map (·.2)) l k t el env with
    | no => rw [c] at q; exact q
    | exc x e => rw [c] at q; exact q
    | ok d env' =>
      rw [c] at q
      refine fun ys hy G0 G' H' Dl acc e1 hG e2 rr hh hacc => q G' H' _ (e1.trans e2) rr ?_
      subst hy; subst hG
      exact .lst upd_same (hacc.mono e2)
/-- name = [..] on one line -/
theorem cs_setLc (i : Nat) {y : Str} {py spos : Pos} {ws : List Nat} {k : D → Vs.Env → Option Vs.Env} {scope : Scope} {own : List (Str × Nat)} (hc : X.calm = true) (hN : X.N.Nodup) (hy : X.N[i]? = some y) (hyl : X.env.scope.names.lookup y = some .local)
    (hsw : swapsWith (.ListComp elt [⟨tg, iter, ifs, 0⟩] scope pos) (some (.Name y py)) spos.line X.env = pure true) (hi : CI cm X tg iter l) (ok : BlkOk X.N X.env.scope scope own) (hws : ∀ j ∈ ws, j ∈ own.map (·.2))
    (hg : ∀ (s : Shared) (H : Hp) (C : Addr) (cl : List (Str × Addr)) (fp : List Addr), CG cm (X.blk s H scope (compEnvC scope cl C X.env) fp) tg ws k) (ht : ∀ (s : Shared) (H : Hp) (C : Addr) (cl : List (Str × Addr)) (fp : List Addr), CTs cm (X.blk s H scope (compEnvC scope cl C X.env) fp) ifs t)
    (he : ∀ (s : Shared) (H : Hp) (C : Addr) (cl : List (Str × Addr)) (fp : List Addr), CE cm (X.blk s H scope (compEnvC scope cl C X.env) fp) elt el) (hs : ∀ x, foldedSetIterable iter X.env x = pure x := by intro _; rfl) :
    CS cm X (.Assign [.Name y py] (.ListComp elt [⟨tg, iter, ifs, 0⟩] scope pos) spos) (sSet i (eLc (own.map (·.2)) l k t el)) := fun B tk hp =>
  (ps_setLc (g := tGtx cm X ws k) (tt := tGx X cm YB t) (te := tGx X cm (YV X.K cm) el) hc hN hy hyl hsw (hi B tk) ok (fun s H C cl fp => (hg s H C cl fp).x) (fun s H C cl fp => (ht s H C cl fp).x) (fun s H C cl fp => (he s H C cl fp).x) hs).weak fun Dn σ H ⟨G, env, r, q⟩ => by
    refine tLc_of tk hws (fun _ _ _ h => h) ⟨G, env, r, ?_⟩
    unfold sSet at q
    cases c : eLc (own.map (·.2)) l k t el env with
    | no => rw [c] at q; exact q
    | exc x e => rw [c] at q; exact fun G' H' cls dd => q G' H' σ cls dd
    | ok d env' =>
      rw [c] at q
      refine fun ys hy G0 G' H' Dl acc e1 hG e2 rr hh hacc => q G' H' _ (e1.trans e2) (rr.setFz i ?_)
      subst hy; subst hG
      exact .lst upd_same (hacc.mono e2)
end
end Vs

set_option Elab.async false
set_option linter.all false
set_option maxRecDepth 100000
set_option maxHeartbeats 4000000
/-! VsI: lists of the frame's own: made, read, changed; in. -/
namespace Vs
open PySem PySem.Spec PyProof.Rows L2 Evl

/-! ### x in xs -/
def oIn (neg : Bool) : D → D → Option D
  | x, .lst ys => (pyOf x).bind fun p => (pyOfs ys).bind fun qs => if SeqAt.shaped p = true ∧ SeqAt.shaped (.list qs) = true then some (.bl (xor neg (qs.any fun z => PyData.eqv z p))) else none
  | _, _ => none
section
variable {cm : Cm} {X : Cx} {B : Base} {G H : Hp} {σ : L2.St} {env : Vs.Env} {a b c e : Expr} {es : List Expr} {f g h : M D} {u w : M Bool} {pos : Pos} {l : M (List D)}
theorem dps_both {K : PySem.W.Frag} (e : Ex G H) : ∀ {ds : List D} {vs : List V}, Rps K cm G vs ds → ∀ ps, pyOfs ds = some ps → DpAll K H vs ps
  | [], vs, h, ps, q => by
    cases h
    simp only [pyOfs, Option.some.injEq] at q
    subst q; exact .nil
  | d :: ds, vs, h, ps, q => by
    cases h with
    | cons h1 h2 =>
      simp only [pyOfs, Option.bind_eq_some_iff, Option.map_eq_some_iff] at q
      obtain ⟨p, e1, ps', e2, rfl⟩ := q
      exact .cons (dp_both e _ _ h1 p e1) (dps_both e h2 ps' e2)
/-- what may be read here: data, or an own list as it stands -/
def Rb (K : PySem.W.Frag) (cm : Cm) (G H : Hp) (v : V) (d : D) : Prop := Rp K cm G v d ∨ ∃ a vs ds, v = .ref a ∧ d = .lst ds ∧ H a = some (.lst vs) ∧ Rps K cm G vs ds
variable (cm X) in
/-- .. an operation whose left side is only read -/
def OpL (r : R2) (o : D → D → Option D) : Prop := ∀ (B : Base) (G H : Hp) (σ : L2.St) (env : Vs.Env) (v1 v2 : V) (d1 d2 d : D) (Q : VK), Rel X.K cm B G H σ env → Rb X.K cm G H v1 d1 → Rp X.K cm G v2 d2 → o d1 d2 = some d →
  (∀ G' H' v, Ex G G' → Rel X.K cm B G' H' σ env → Rp X.K cm G' v d → Q v H') → r v1 v2 H Q
variable (cm X) in
def OpR' (r : R2) (o : D → D → Option D) : Prop := ∀ (B : Base) (G H : Hp) (σ : L2.St) (env : Vs.Env) (v1 v2 : V) (d1 d2 d : D) (Q : VK), Rel X.K cm B G H σ env → Rp X.K cm G v1 d1 → Rb X.K cm G H v2 d2 → o d1 d2 = some d →
  (∀ G' H' v, Ex G G' → Rel X.K cm B G' H' σ env → Rp X.K cm G' v d → Q v H') → r v1 v2 H Q
theorem Rb.dp {K : PySem.W.Frag} {v : V} {d : D} {p : PyData} (ex : Ex G H) (h : Rb K cm G H v d) (e : pyOf d = some p) : Dp K H v p := by
  rcases h with h | ⟨a, vs, ds, rfl, rfl, h1, h2⟩
  · exact dp_both ex _ _ h p e
  · simp only [pyOf, Option.map_eq_some_iff] at e
    obtain ⟨ps, e1, rfl⟩ := e
    exact .lst (SqL.of h1) (dps_both ex h2 ps e1)
theorem Rb.lst {K : PySem.W.Frag} {v : V} {ds : List D} (ex : Ex G H) (h : Rb K cm G H v (.lst ds)) : ∃ a vs, v = .ref a ∧ H a = some (.lst vs) ∧ vs.length = ds.length := by
  rcases h with h | ⟨a, vs, ds, rfl, e, h1, h2⟩
  · cases h with | lst g h => exact ⟨_, _, rfl, ex _ _ g, h.length⟩
  · cases e; exact ⟨_, _, rfl, h1, h2.length⟩
theorem opl_eq : OpL cm X (rEqU X.K) oEq := fun B G H σ env v1 v2 d1 d2 d Q r y1 y2 c q => by
  unfold oEq at c
  split at c
  · obtain ⟨k, hk⟩ := Option.isSome_iff_exists.mp (by assumption)
    rcases y1 with y1 | ⟨a, vs, ds, rfl, rfl, h1, hs⟩
    · obtain ⟨f1, f2⟩ := flat_of y1 y2 hk
      rw [hk] at c
      cases c
      exact .inr (.inr ⟨f1, q G H _ (Ex.refl G) r (by rw [f2]; exact .bl _)⟩)
    · simp [flatEq] at hk
  split at c
  · rename_i hl
    obtain ⟨xs, ys, rfl, rfl, hn⟩ := lenD_of hl
    cases c
    obtain ⟨a, vs, rfl, g1, l1⟩ := y1.lst r.ex
    cases y2 with | lst g2 h2 =>
      exact .inr (.inl ⟨_, _, _, _, rfl, rfl, SqL.of g1, SqL.of (r.ex _ _ g2), by rw [l1, h2.length]; exact hn, q G H _ (Ex.refl G) r (.bl _)⟩)
  simp only [Option.bind_eq_some_iff] at c
  obtain ⟨p, e1, p', e2, c⟩ := c
  split at c
  · rename_i hh
    cases c
    exact .inl ⟨p, p', y1.dp r.ex e1, dp_both r.ex _ _ y2 p' e2, hh.1, hh.2, q G H _ (Ex.refl G) r (.bl _)⟩
  · cases c
theorem opl_ne : OpL cm X (rNeU X.K) oNe := fun B G H σ env v1 v2 d1 d2 d Q r y1 y2 c q => by
  unfold oNe at c
  split at c
  · obtain ⟨k, hk⟩ := Option.isSome_iff_exists.mp (by assumption)
    rcases y1 with y1 | ⟨a, vs, ds, rfl, rfl, h1, hs⟩
    · obtain ⟨f1, f2⟩ := flat_of y1 y2 hk
      rw [hk] at c
      cases c
      exact .inr (.inr ⟨f1, q G H _ (Ex.refl G) r (by rw [f2]; exact .bl _)⟩)
    · simp [flatEq] at hk
  split at c
  · rename_i hl
    obtain ⟨xs, ys, rfl, rfl, hn⟩ := lenD_of hl
    cases c
    obtain ⟨a, vs, rfl, g1, l1⟩ := y1.lst r.ex
    cases y2 with | lst g2 h2 =>
      exact .inr (.inl ⟨_, _, _, _, rfl, rfl, SqL.of g1, SqL.of (r.ex _ _ g2), by rw [l1, h2.length]; exact hn, q G H _ (Ex.refl G) r (.bl _)⟩)
  simp only [Option.bind_eq_some_iff] at c
  obtain ⟨p, e1, p', e2, c⟩ := c
  split at c
  · rename_i hh
    cases c
    exact .inl ⟨p, p', y1.dp r.ex e1, dp_both r.ex _ _ y2 p' e2, hh.1, hh.2, q G H _ (Ex.refl G) r (.bl _)⟩
  · cases c
theorem opl_ix : OpL cm X (rIx X.K) oIx := fun B G H σ env v1 v2 d1 d2 d Q r y1 y2 c q => by
  rcases y1 with y1 | ⟨a, vs, ds, rfl, rfl, h1, hs⟩
  · exact opd_ix B G H σ env v1 v2 d1 d2 d Q r y1 y2 c q
  · cases y2 <;> simp only [oIx] at c <;> try (cases c; done)
    rename_i i
    obtain ⟨v, e1, y⟩ := hs.at c
    exact .inl ⟨a, vs, i, v, rfl, rfl, SqL.of h1, e1, q G H _ (Ex.refl G) r y⟩
theorem opl_add : OpL cm X (rAddU X) oAdd := fun B G H σ env v1 v2 d1 d2 d Q r y1 y2 c q => by
  rcases y1 with y1 | ⟨a, vs, ds, rfl, rfl, h1, hs⟩
  · exact opd_add B G H σ env v1 v2 d1 d2 d Q r y1 y2 c q
  · cases y2 <;> simp only [oAdd] at c <;> try (cases c; done)
    rename_i b ws es h2 hs2
    split at c
    · cases c
      refine .inr (.inr (.inr (.inl ⟨a, b, vs, ws, rfl, rfl, h1, r.ex _ _ h2, by rw [hs.length, hs2.length]; assumption, fun p hp => ?_⟩)))
      obtain ⟨r1, e1⟩ := r.alloc (o := .lst (vs ++ ws)) hp
      exact q _ _ _ e1 r1 (.lst upd_same ((hs.append hs2).mono e1))
    · cases c
theorem opr_in : OpR' cm X (rInD X.K) (oIn false) := fun B G H σ env v1 v2 d1 d2 d Q r y1 y2 c q => by
  cases d2 <;> simp only [oIn] at c <;> try (cases c; done)
  rename_i ys
  simp only [Option.bind_eq_some_iff] at c
  obtain ⟨p, e1, qs, e2, c⟩ := c
  split at c
  · rename_i hh
    cases c
    refine ⟨p, qs, dp_both r.ex _ _ y1 p e1, y2.dp r.ex (by simp [pyOf, e2]), hh.1, hh.2, ?_⟩
    have := q G H (.bl (qs.any fun z => PyData.eqv z p)) (Ex.refl G) r
    rw [Bool.false_xor] at this
    exact this (.bl _)
  · cases c
theorem opr_notIn : OpR' cm X (rNotInD X.K) (oIn true) := fun B G H σ env v1 v2 d1 d2 d Q r y1 y2 c q => by
  cases d2 <;> simp only [oIn] at c <;> try (cases c; done)
  rename_i ys
  simp only [Option.bind_eq_some_iff] at c
  obtain ⟨p, e1, qs, e2, c⟩ := c
  split at c
  · rename_i hh
    cases c
    refine ⟨p, qs, dp_both r.ex _ _ y1 p e1, y2.dp r.ex (by simp [pyOf, e2]), hh.1, hh.2, ?_⟩
    have := q G H (.bl (!(qs.any fun z => PyData.eqv z p))) (Ex.refl G) r
    rw [Bool.true_xor] at this
    exact this (.bl _)
  · cases c
theorem OpR'.opd {r : R2} {o : D → D → Option D} (h : OpR' cm X r o) : OpD cm X r o := fun B G H σ env v1 v2 d1 d2 d Q r y1 y2 c q => h B G H σ env v1 v2 d1 d2 d Q r y1 (.inl y2) c q
/-! ### a name that is only read -/
def rdE (i : Nat) (env : Vs.Env) : Option D := match env[i]? with
  | some (some (.fz d)) => some d
  | some (some (.ol _ ds)) => some (.lst ds)
  | _ => none
theorem Rel.rd {K : PySem.W.Frag} (r : Rel K cm B G H σ env) {i : Nat} {d : D} (h : rdE i env = some d) : ∃ v, σ[i]? = some (some v) ∧ Rb K cm G H v d := by
  unfold rdE at h
  split at h
  · rename_i d' c
    cases h
    obtain ⟨v, ev, tr⟩ := r.sl i _ c
    exact ⟨v, ev, .inl tr⟩
  · rename_i k ds c
    cases h
    obtain ⟨v, ev, tr⟩ := r.sl i _ c
    obtain ⟨a, vs, rfl, h1, h2, h3, _⟩ := tr
    exact ⟨_, ev, .inr ⟨a, vs, ds, rfl, rfl, h1, h3⟩⟩
  · cases h
def eBinL (i : Nat) (o : D → D → Option D) (g : M D) : M D := fun env => match rdE i env with
  | some _ => (g env).bind fun b env1 => R.opt ((rdE i env1).bind fun a => o a b) env1
  | none => .no
theorem tOpL_of {r : R2} {o : D → D → Option D} {i : Nat} {Q : VK} (hr : OpL cm X r o) (q : tG X.K cm (YV X.K cm) B (eBinL i o g) σ H Q) : tOp r (tVar i) (tG X.K cm (YV X.K cm) B g) σ H Q := by
  obtain ⟨G, env, r0, q⟩ := q
  unfold eBinL at q
  split at q
  · rename_i d0 c0
    obtain ⟨v, ev, _⟩ := r0.rd c0
    refine ⟨v, ev, want.bind r0 q fun d2 env1 G1 H1 v2 e1 r1 y1 q1 => ?_⟩
    cases c : rdE i env1 with
    | none => rw [c] at q1; exact q1.elim
    | some d1 =>
      rw [c] at q1
      simp only [Option.bind_some] at q1
      cases cc : o d1 d2 with
      | none => rw [cc] at q1; exact q1.elim
      | some d =>
        rw [cc] at q1
        obtain ⟨v', ev', rb⟩ := r1.rd c
        rw [ev] at ev'; cases ev'
        exact hr B G1 H1 σ env1 v v2 d1 d2 d Q r1 rb y1 cc q1
  · exact q.elim
variable {x : Str} {px p : Pos}
theorem ce_ixN (i : Nat) {r : R2} {o : D → D → Option D} (ho : IxR X r) (hr : OpL cm X r o) (hb : CE cm X b g) (hs : PlainIx b) (hN : X.N[i]? = some x := by rfl) (hv : Vis X.env.scope x := by first | exact Or.inl rfl | exact Or.inr (Or.inl rfl) | exact Or.inr (Or.inr rfl))
    (hd : (x == ("__debug__" : Str)) = false := by decide) (hcd : (x == ("__classdict__" : Str)) = false := by decide) : CE cm X (.Subscript (.Name x px) b pos) (eBinL i o g) := fun B tk =>
  (pe_ix ho (pe_var hN hv hd hcd) (hb B tk) hs).weak fun σ H Q q => tOpL_of hr q
theorem ce_binN (i : Nat) {op : Operator} {r : R2} {o : D → D → Option D} (ho : OpR X (binaryOp op) r) (hr : OpL cm X r o) (hb : CE cm X b g) (hN : X.N[i]? = some x := by rfl) (hv : Vis X.env.scope x := by first | exact Or.inl rfl | exact Or.inr (Or.inl rfl) | exact Or.inr (Or.inr rfl))
    (hd : (x == ("__debug__" : Str)) = false := by decide) (hcd : (x == ("__classdict__" : Str)) = false := by decide) : CE cm X (.BinOp (.Name x px) op b pos) (eBinL i o g) := fun B tk =>
  (pe_op ho (pe_var hN hv hd hcd) (hb B tk)).weak fun σ H Q q => tOpL_of hr q
theorem ce_cmpN (i : Nat) {op : CmpOp} {r : R2} {o : D → D → Option D} (ho : OpR X (compareOp op) r) (hr : OpL cm X r o) (hb : CE cm X b g) (hm : behindInMarks op b = false) (hN : X.N[i]? = some x := by rfl) (hv : Vis X.env.scope x := by first | exact Or.inl rfl | exact Or.inr (Or.inl rfl) | exact Or.inr (Or.inr rfl))
    (hd : (x == ("__debug__" : Str)) = false := by decide) (hcd : (x == ("__classdict__" : Str)) = false := by decide) : CE cm X (.Compare (.Name x px) [op] [b] pos) (eBinL i o g) := fun B tk =>
  (pe_cmpR ho (pe_var hN hv hd hcd) (hb B tk) hm).weak fun σ H Q q => tOpL_of hr q
theorem ct_cmpN (i : Nat) {op : CmpOp} {r : R2} {o : D → D → Option D} (ho : OpR X (compareOp op) r) (hr : OpL cm X r o) (hb : CE cm X b g) (hm : behindInMarks op b = false) (hN : X.N[i]? = some x := by rfl) (hv : Vis X.env.scope x := by first | exact Or.inl rfl | exact Or.inr (Or.inl rfl) | exact Or.inr (Or.inr rfl))
    (hd : (x == ("__debug__" : Str)) = false := by decide) (hcd : (x == ("__classdict__" : Str)) = false := by decide) : CT cm X (.Compare (.Name x px) [op] [b] pos) (eBl (eBinL i o g)) := fun B tk =>
  (pt_cmpR ho (pe_var hN hv hd hcd) (hb B tk) hm).weak fun σ H Q ⟨G, env, r0, q⟩ => by
    refine tOpL_of hr ?_
    refine want.bind r0 q fun d env1 G1 H1 v e1 r1 y q1 => ?_
    cases c : oBl d with
    | none => rw [c] at q1; exact q1.elim
    | some k =>
      rw [c] at q1
      cases d <;> simp only [oBl] at c <;> try (cases c; done)
      cases c
      cases y
      exact ⟨_, rfl, q1 G1 H1 _ (Ex.refl G1) r1 rfl⟩
/-- e in name -/
def eBinR (i : Nat) (o : D → D → Option D) (f : M D) : M D := fun env => (f env).bind fun a env1 => R.opt ((rdE i env1).bind fun b => o a b) env1
theorem tOpR_of {r : R2} {o : D → D → Option D} {i : Nat} {Q : VK} (hr : OpR' cm X r o) (q : tG X.K cm (YV X.K cm) B (eBinR i o f) σ H Q) : tOp r (tG X.K cm (YV X.K cm) B f) (tVar i) σ H Q := by
  obtain ⟨G, env, r0, q⟩ := q
  refine want.bind r0 q fun d1 env1 G1 H1 v1 e1 r1 y1 q1 => ?_
  cases c : rdE i env1 with
  | none => rw [c] at q1; exact q1.elim
  | some d2 =>
    rw [c] at q1
    simp only [Option.bind_some] at q1
    cases cc : o d1 d2 with
    | none => rw [cc] at q1; exact q1.elim
    | some d =>
      rw [cc] at q1
      obtain ⟨v, ev, rb⟩ := r1.rd c
      exact ⟨v, ev, hr B G1 H1 σ env1 v1 v d1 d2 d Q r1 y1 rb cc q1⟩
theorem ce_inN (i : Nat) {op : CmpOp} {r : R2} {o : D → D → Option D} (ho : OpR X (compareOp op) r) (hr : OpR' cm X r o) (ha : CE cm X a f) (hm : behindInMarks op (.Name x px) = false) (hN : X.N[i]? = some x := by rfl) (hv : Vis X.env.scope x := by first | exact Or.inl rfl | exact Or.inr (Or.inl rfl) | exact Or.inr (Or.inr rfl))
    (hd : (x == ("__debug__" : Str)) = false := by decide) (hcd : (x == ("__classdict__" : Str)) = false := by decide) : CE cm X (.Compare a [op] [.Name x px] pos) (eBinR i o f) := fun B tk =>
  (pe_cmpR ho (ha B tk) (pe_var hN hv hd hcd) hm).weak fun σ H Q q => tOpR_of hr q
theorem ct_inN (i : Nat) {op : CmpOp} {r : R2} {o : D → D → Option D} (ho : OpR X (compareOp op) r) (hr : OpR' cm X r o) (ha : CE cm X a f) (hm : behindInMarks op (.Name x px) = false) (hN : X.N[i]? = some x := by rfl) (hv : Vis X.env.scope x := by first | exact Or.inl rfl | exact Or.inr (Or.inl rfl) | exact Or.inr (Or.inr rfl))
    (hd : (x == ("__debug__" : Str)) = false := by decide) (hcd : (x == ("__classdict__" : Str)) = false := by decide) : CT cm X (.Compare a [op] [.Name x px] pos) (eBl (eBinR i o f)) := fun B tk =>
  (pt_cmpR ho (ha B tk) (pe_var hN hv hd hcd) hm).weak fun σ H Q ⟨G, env, r0, q⟩ => by
    refine tOpR_of hr ?_
    refine want.bind r0 q fun d env1 G1 H1 v e1 r1 y q1 => ?_
    cases c : oBl d with
    | none => rw [c] at q1; exact q1.elim
    | some k =>
      rw [c] at q1
      cases d <;> simp only [oBl] at c <;> try (cases c; done)
      cases c
      cases y
      exact ⟨_, rfl, q1 G1 H1 _ (Ex.refl G1) r1 rfl⟩
/-- len(name) -/
def eLenN (i : Nat) : M D := fun env => R.opt ((rdE i env).bind fun d => oLen [d]) env
theorem ce_lenN (i : Nat) (hg : Gl X "len") (hm : X.mg "len" = none) (hN : X.N[i]? = some x := by rfl) (hv : Vis X.env.scope x := by first | exact Or.inl rfl | exact Or.inr (Or.inl rfl) | exact Or.inr (Or.inr rfl))
    (hd : (x == ("__debug__" : Str)) = false := by decide) (hcd : (x == ("__classdict__" : Str)) = false := by decide) (he : starEach [.Name x px] X.env = (false, eval (.Name x px) X.env) :: starEach [] X.env := by rfl) (hpl : (backTo pos (starEach [] X.env)).any (·.1) = false := by rfl) :
    CE cm X (.Call (.Name "len" p) [.Name x px] [] pos) (eLenN i) := fun B tk => (pe_callB call_lenU hg hm boot_len (pa_cons (pe_var (i := i) hN hv hd hcd) pa_nil he) (by decide) (by decide) he hpl).weak fun σ H Q ⟨G, env, r, q⟩ => by
  unfold eLenN at q
  cases c : rdE i env with
  | none => rw [c] at q; exact q.elim
  | some d =>
    rw [c] at q
    simp only [Option.bind_some] at q
    obtain ⟨v, ev, rb⟩ := r.rd c
    refine ⟨v, ev, ?_⟩
    cases cc : oLen [d] with
    | none => rw [cc] at q; exact q.elim
    | some z =>
      rw [cc] at q
      rcases rb with y | ⟨a, vs, ds, rfl, rfl, h1, hs⟩
      · exact cad_len B G H σ env [v] [d] z Q r (.cons y .nil) cc q
      · have : some (D.int (ds.length : Int)) = some z := cc
        cases this
        exact .inl ⟨_, _, rfl, .inl (SqL.of h1), by rw [hs.length]; exact q G H _ (Ex.refl G) r (.int _)⟩
/-- a name as a test -/
def eTruN (i : Nat) : M Bool := fun env => R.opt ((rdE i env).bind oTru) env
theorem ct_truN (i : Nat) (hN : X.N[i]? = some x := by rfl) (hv : Vis X.env.scope x := by first | exact Or.inl rfl | exact Or.inr (Or.inl rfl) | exact Or.inr (Or.inr rfl))
    (hd : (x == ("__debug__" : Str)) = false := by decide) (hcd : (x == ("__classdict__" : Str)) = false := by decide) : CT cm X (.Name x pos) (eTruN i) := fun B tk =>
  (pt_truth (pe_var (i := i) hN hv hd hcd) (by intro _; rfl)).weak fun σ H Q ⟨G, env, r, q⟩ => by
    unfold eTruN at q
    cases c : rdE i env with
    | none => rw [c] at q; exact q.elim
    | some d =>
      rw [c] at q
      simp only [Option.bind_some] at q
      obtain ⟨v, ev, rb⟩ := r.rd c
      cases cc : oTru d with
      | none => rw [cc] at q; exact q.elim
      | some z =>
        rw [cc] at q
        refine ⟨v, ev, z, ?_, q G H z (Ex.refl G) r rfl⟩
        rcases rb with y | ⟨a, vs, ds, rfl, rfl, h1, hs⟩
        · exact tru_of r.ex y cc
        · have : some (!ds.isEmpty) = some z := cc
          cases this
          exact .inl ⟨vs, SqL.of h1, by rw [hs.isEmpty]⟩

/-! ### own lists made -/
variable (cm X) in
/-- an expression that makes a new list -/
def CF (e : Expr) (l : M (List D)) : Prop := ∀ B : Base, Fit cm X B → PE X e (fun σ H Q => ∃ G env, Rel X.K cm B G H σ env ∧ (match l env with
  | .ok ds env' => ∀ G' H' p vs, Ex G G' → Rel X.K cm B G' H' σ env' → H' p = some (.lst vs) → G' p = none → Rps X.K cm G' vs ds → ¬ B.prot p → (∀ (j : Nat) (k : Option Nat) (es : List D), env'[j]? = some (some (.ol k es)) → σ[j]? ≠ some (some (.ref p))) → Q (.ref p) H'
  | .exc x env' => ∀ G' H' cls dd, Ex G G' → Rel X.K cm B G' H' σ env' → XRel X.K cm G' H' cls dd x → B.W cls dd σ H'
  | .no => False))
theorem Rel.notOwned {K : PySem.W.Frag} (r : Rel K cm B G H σ env) {p : Addr} (h : H p = none) (j : Nat) (k : Option Nat) (es : List D) (e : env[j]? = some (some (.ol k es))) : σ[j]? ≠ some (some (.ref p)) := fun z => by
  obtain ⟨v, ev, tr⟩ := r.sl j _ e
  rw [z] at ev; cases ev
  obtain ⟨a, vs, z', g1, _⟩ := tr
  cases z'
  rw [h] at g1; cases g1
def fLst (l : M (List D)) : M (List D) := fun env => (l env).bind fun ds env1 => if ds.length ≤ sizeLine then .ok ds env1 else .no
/-- .. from what the machine gives behind the parts -/
theorem fresh_of {Q : VK} {ds : List D} {vs : List V} (r1 : Rel X.K cm B G H σ env) (y : Rps X.K cm G vs ds) (q : ∀ G' H' p vs, Ex G G' → Rel X.K cm B G' H' σ env → H' p = some (.lst vs) → G' p = none → Rps X.K cm G' vs ds → ¬ B.prot p → (∀ (j : Nat) (k : Option Nat) (es : List D), env[j]? = some (some (.ol k es)) → σ[j]? ≠ some (some (.ref p))) → Q (.ref p) H') :
    ∀ p, H p = none → Q (.ref p) (upd H p (.lst vs)) := fun p hp => q G _ p vs (Ex.refl _) (r1.fresh hp) upd_same (r1.free hp) y (r1.nprot hp) (r1.notOwned hp)
theorem cf_lst (h : CD cm X es l) : CF cm X (.List es pos) (fLst l) := fun B tk => (pe_lst (h B tk)).weak fun σ H Q ⟨G, env, r, q⟩ => by
  refine ⟨G, env, r, ?_⟩
  unfold fLst at q
  cases c : l env with
  | no => rw [c] at q; exact q
  | exc x e => rw [c] at q; exact q
  | ok ds env1 =>
    rw [c] at q
    simp only [Vs.R.bind_ok] at q
    refine fun G1 H1 vs e1 r1 y => ?_
    by_cases hz : ds.length ≤ sizeLine
    · rw [if_pos hz] at q
      exact ⟨by rw [Rps.length y]; exact hz, fresh_of r1 y fun G' H' p vs e2 => q G' H' p vs (e1.trans e2)⟩
    · rw [if_neg hz] at q; exact q.elim
/-- [..] * n -/
def fRep (f g : M D) : M (List D) := fun env => (f env).bind fun a env1 => (g env1).bind fun b env2 => match a, b with
  | .lst xs, .int k => if k < 2 ^ 31 ∧ -(2 ^ 31) < k ∧ xs.length * k.toNat ≤ sizeLine then .ok (List.replicate k.toNat xs).flatten env2 else .no
  | _, _ => .no
theorem cf_rep (ha : CE cm X a f) (hb : CE cm X b g) : CF cm X (.BinOp a .Mult b pos) (fRep f g) := fun B tk => (pe_op op_rep (ha B tk) (hb B tk)).weak fun σ H Q ⟨G, env, r, q⟩ => by
  refine ⟨G, env, r, ?_⟩
  unfold fRep at q
  cases c : f env with
  | no => rw [c] at q; exact q
  | exc x e => rw [c] at q; exact q
  | ok d1 env1 =>
    rw [c] at q
    simp only [Vs.R.bind_ok] at q
    refine fun G1 H1 v1 e1 r1 y1 => ⟨G1, env1, r1, ?_⟩
    cases c2 : g env1 with
    | no => rw [c2] at q; exact q
    | exc x e => rw [c2] at q; exact fun G' H' c d e2 => q G' H' c d (e1.trans e2)
    | ok d2 env2 =>
      rw [c2] at q
      simp only [Vs.R.bind_ok] at q
      refine fun G2 H2 v2 e2 r2 y2 => ?_
      cases y1 <;> cases y2 <;> try (exact q.elim)
      rename_i a vs ds h1 hs k
      dsimp only at q
      by_cases hh : k < 2 ^ 31 ∧ -(2 ^ 31) < k ∧ ds.length * k.toNat ≤ sizeLine
      · rw [if_pos hh] at q
        exact ⟨a, k, vs, rfl, rfl, r2.ex _ _ (e2 _ _ h1), by omega, by omega, by rw [hs.length]; exact hh.2.2, fresh_of r2 ((hs.flat k.toNat).mono e2) fun G' H' p vs e3 => q G' H' p vs ((e1.trans e2).trans e3)⟩
      · rw [if_neg hh] at q; exact q.elim
def sOwn (i : Nat) (l : M (List D)) : MS := fun env => (l env).toS fun ds env1 => .next (env1.set i (some (.ol none ds)))
theorem cs_own (i : Nat) {pos' : Pos} (h : CF cm X e l) (hN : X.N.Nodup) (hi : X.N[i]? = some x := by rfl) (hx : Loc X.env.scope x := by first | exact Or.inl rfl | exact Or.inr rfl) (hs : swapsWith e (some (.Name x pos')) pos.line X.env = pure false := by rfl)
    (hf : X.fn x = true ∨ X.env.scope.names.lookup x = some .local := by first | exact .inl rfl | exact .inr rfl | assumption) : CS cm X (.Assign [.Name x pos'] e pos) (sOwn i l) := fun B tk hp => (ps_set hN hi hx (h B tk) hs hf).weak fun Dn σ H ⟨G, env, r, q⟩ => by
  refine ⟨G, env, r, ?_⟩
  unfold sOwn at q
  cases c : l env with
  | no => rw [c] at q; exact q
  | exc x e => rw [c] at q; exact fun G' H' cls dd => q G' H' σ cls dd
  | ok ds env1 =>
    rw [c] at q
    exact fun G' H' p vs e1 r1 h1 h2 h3 h4 h5 => q G' H' _ e1 (r1.setOl i h1 h2 h3 h4 fun j k es q1 q2 => absurd q2 (h5 j k es q1))

/-! ### own lists changed -/
def ownE (i : Nat) (env : Vs.Env) : Option (Option Nat × List D) := match env[i]? with
  | some (some (.ol k ds)) => some (k, ds)
  | _ => none
theorem ownE_iff {i : Nat} {k : Option Nat} {ds : List D} (h : ownE i env = some (k, ds)) : env[i]? = some (some (.ol k ds)) := by
  unfold ownE at h
  split at h
  · cases h; assumption
  · cases h
/-- name.append(e) -/
def sApp (i : Nat) (f : M D) : MS := fun env => match ownE i env with
  | some _ => (f env).toS fun d env1 => match ownE i env1 with
    | some (k, ds) => if ds.length < sizeLine then .next (env1.set i (some (.ol k (ds ++ [d])))) else .no
    | none => .no
  | none => .no
theorem cs_app (i : Nat) {apos : Pos} (he : CE cm X e f) (hN : X.N[i]? = some x := by rfl) (hv : Vis X.env.scope x := by first | exact Or.inl rfl | exact Or.inr (Or.inl rfl) | exact Or.inr (Or.inr rfl))
    (hd : (x == ("__debug__" : Str)) = false := by decide) (hcd : (x == ("__classdict__" : Str)) = false := by decide) (hse : starEach [e] X.env = (false, eval e X.env) :: starEach [] X.env := by rfl)
    (hbase : attributeBase (.Name x px) "append" X.env (eval (.Name x px) X.env) = eval (.Name x px) X.env := by rfl)
    (hfew : ((backTo p (starEach [e] X.env)).all (fun x => !x.1) && (backToKw p (keywordEach [] X.env)).all (fun x => x.1.isSome)
      && decide ([e].length + ([] : List Keyword).length + (if ([] : List Keyword).isEmpty then 0 else 1) < 30)) = true := by rfl)
    (hline : (apos.endLine == p.line) = true := by rfl) (hplain : (backTo p (starEach [] X.env)).any (·.1) = false := by rfl) (hs : swapsWith (.Call (.Attribute (.Name x px) "append" apos) [e] [] p) none pos.line X.env = pure false := by rfl) :
    CS cm X (.Expr (.Call (.Attribute (.Name x px) "append" apos) [e] [] p) pos) (sApp i f) := fun B tk hp =>
  (ps_expr (pe_bm PySem.F.plainAttrs_list PySem.F.slot_list_append PySem.F.type_list_append mt_append (pe_var (i := i) hN hv hd hcd) (pa_cons (he B tk) pa_nil hse) hbase hfew hline hse hplain) hs).weak fun Dn σ H ⟨G, env, r, q⟩ => by
    unfold sApp at q
    cases c : ownE i env with
    | none => rw [c] at q; exact q.elim
    | some kd =>
      rw [c] at q
      obtain ⟨k, ds⟩ := kd
      obtain ⟨v, ev, tr⟩ := r.sl i _ (ownE_iff c)
      obtain ⟨a, vs, rfl, h1, _⟩ := tr
      refine ⟨_, ev, .inl ⟨rfl, vs, SqL.of h1⟩, wantS.bind r q fun d env1 G1 H1 v1 e1 r1 y q1 => ?_⟩
      cases c1 : ownE i env1 with
      | none => rw [c1] at q1; exact q1.elim
      | some kd =>
        rw [c1] at q1
        obtain ⟨k1, ds1⟩ := kd
        dsimp only at q1
        obtain ⟨v2, ev2, tr⟩ := r1.sl i _ (ownE_iff c1)
        rw [ev] at ev2; cases ev2
        obtain ⟨a', vs1, z, g1, g2, g3, _⟩ := tr
        cases z
        by_cases hz : ds1.length < sizeLine
        · rw [if_pos hz] at q1
          refine ⟨a, vs1, v1, rfl, rfl, g1, by rw [g3.length]; exact hz, ?_⟩
          exact q1 G1 _ σ (Ex.refl _) (r1.write (ownE_iff c1) ev (g3.append (.cons y .nil)))
        · rw [if_neg hz] at q1; exact q1.elim
/-- name.extend(e) -/
def sExt (i : Nat) (f : M D) : MS := fun env => match ownE i env with
  | some _ => (f env).toS fun d env1 => match ownE i env1, d with
    | some (k, ds), .lst es => if ds.length + es.length ≤ sizeLine then .next (env1.set i (some (.ol k (ds ++ es)))) else .no
    | _, _ => .no
  | none => .no
theorem cs_ext (i : Nat) {apos : Pos} (he : CE cm X e f) (hN : X.N[i]? = some x := by rfl) (hv : Vis X.env.scope x := by first | exact Or.inl rfl | exact Or.inr (Or.inl rfl) | exact Or.inr (Or.inr rfl))
    (hd : (x == ("__debug__" : Str)) = false := by decide) (hcd : (x == ("__classdict__" : Str)) = false := by decide) (hse : starEach [e] X.env = (false, eval e X.env) :: starEach [] X.env := by rfl)
    (hbase : attributeBase (.Name x px) "extend" X.env (eval (.Name x px) X.env) = eval (.Name x px) X.env := by rfl)
    (hfew : ((backTo p (starEach [e] X.env)).all (fun x => !x.1) && (backToKw p (keywordEach [] X.env)).all (fun x => x.1.isSome)
      && decide ([e].length + ([] : List Keyword).length + (if ([] : List Keyword).isEmpty then 0 else 1) < 30)) = true := by rfl)
    (hline : (apos.endLine == p.line) = true := by rfl) (hplain : (backTo p (starEach [] X.env)).any (·.1) = false := by rfl) (hs : swapsWith (.Call (.Attribute (.Name x px) "extend" apos) [e] [] p) none pos.line X.env = pure false := by rfl) :
    CS cm X (.Expr (.Call (.Attribute (.Name x px) "extend" apos) [e] [] p) pos) (sExt i f) := fun B tk hp =>
  (ps_expr (pe_bm PySem.F.plainAttrs_list PySem.F.slot_list_extend PySem.F.type_list_extend mt_extend (pe_var (i := i) hN hv hd hcd) (pa_cons (he B tk) pa_nil hse) hbase hfew hline hse hplain) hs).weak fun Dn σ H ⟨G, env, r, q⟩ => by
    unfold sExt at q
    cases c : ownE i env with
    | none => rw [c] at q; exact q.elim
    | some kd =>
      rw [c] at q
      obtain ⟨k, ds⟩ := kd
      obtain ⟨v, ev, tr⟩ := r.sl i _ (ownE_iff c)
      obtain ⟨a, vs, rfl, h1, _⟩ := tr
      refine ⟨_, ev, .inl ⟨rfl, vs, SqL.of h1⟩, wantS.bind r q fun d env1 G1 H1 v1 e1 r1 y q1 => ?_⟩
      cases c1 : ownE i env1 with
      | none => rw [c1] at q1; exact q1.elim
      | some kd =>
        rw [c1] at q1
        obtain ⟨k1, ds1⟩ := kd
        obtain ⟨v2, ev2, tr⟩ := r1.sl i _ (ownE_iff c1)
        rw [ev] at ev2; cases ev2
        obtain ⟨a', vs1, z, g1, g2, g3, _⟩ := tr
        cases z
        match d, y, q1 with
        | .lst es, .lst (a := b) (vs := ws) h2 hs2, q1 =>
          dsimp only at q1
          by_cases hz : ds1.length + es.length ≤ sizeLine
          · rw [if_pos hz] at q1
            refine ⟨a, b, vs1, ws, rfl, rfl, g1, r1.ex _ _ h2, by rw [g3.length, hs2.length]; exact hz, ?_⟩
            exact q1 G1 _ σ (Ex.refl _) (r1.write (ownE_iff c1) ev (g3.append hs2))
          · rw [if_neg hz] at q1; exact q1.elim
/-- name[e] = v -/
def sPut (i : Nat) (fi fv : M D) : MS := fun env => (fv env).toS fun d env1 => match ownE i env1 with
  | some _ => (fi env1).toS fun z env2 => match ownE i env2, z with
    | some (k, ds), .int j => match ixN ds.length j with
      | some n => .next (env2.set i (some (.ol k (ds.set n d))))
      | none => .no
    | _, _ => .no
  | none => .no
theorem cs_put (i : Nat) {tpos : Pos} {fi fv : M D} (hi : CE cm X a fi) (he : CE cm X e fv) (hN : X.N[i]? = some x := by rfl) (hv : Vis X.env.scope x := by first | exact Or.inl rfl | exact Or.inr (Or.inl rfl) | exact Or.inr (Or.inr rfl))
    (hd : (x == ("__debug__" : Str)) = false := by decide) (hcd : (x == ("__classdict__" : Str)) = false := by decide)
    (ha : ∀ v, assign (.Subscript (.Name x px) a tpos) X.env v = (do
      let ov ← holding [v] (eval (.Name x px) X.env)
      let iv ← holding [v, ov] (eval a X.env)
      standAt tpos
      holding [v, ov, iv] (setItem ov iv v)
      release [v, ov, iv] []) := by intro _; rfl)
    (hs : swapsWithSole [.Subscript (.Name x px) a tpos] e pos.line X.env = pure false := by rfl) (hw : swappedStores [.Subscript (.Name x px) a tpos] e X.env = pure none := by rfl)
    (h1 : (assignEach [.Subscript (.Name x px) a tpos] X.env).map (·.2) = [assign (.Subscript (.Name x px) a tpos) X.env] := by rfl) :
    CS cm X (.Assign [.Subscript (.Name x px) a tpos] e pos) (sPut i fi fv) := fun B tk hp => (ps_asg (he B tk) (pg_sub (pe_var (i := i) hN hv hd hcd) (hi B tk) set_list ha) hs hw h1).weak fun Dn σ H ⟨G, env, r, q⟩ =>
  wantS.bind r q fun d env1 G1 H1 v1 e1 r1 y q1 => by
    cases c : ownE i env1 with
    | none => rw [c] at q1; exact q1.elim
    | some kd =>
      rw [c] at q1
      obtain ⟨k, ds⟩ := kd
      obtain ⟨v, ev, tr⟩ := r1.sl i _ (ownE_iff c)
      refine ⟨v, ev, wantS.bind r1 q1 fun z env2 G2 H2 v2 e2 r2 y2 q2 => ?_⟩
      cases c1 : ownE i env2 with
      | none => rw [c1] at q2; exact q2.elim
      | some kd =>
        rw [c1] at q2
        obtain ⟨k1, ds1⟩ := kd
        obtain ⟨v3, ev3, tr3⟩ := r2.sl i _ (ownE_iff c1)
        rw [ev] at ev3; cases ev3
        obtain ⟨a', vs1, rfl, g1, g2, g3, _⟩ := tr3
        match z, y2, q2 with
        | .int j, .int _, q2 =>
          dsimp only at q2
          cases c5 : ixN ds1.length j with
          | none => rw [c5] at q2; exact q2.elim
          | some n =>
            rw [c5] at q2
            refine ⟨a', vs1, j, n, rfl, rfl, g1, by rw [g3.length]; exact c5, ?_⟩
            exact q2 G2 _ σ (Ex.refl _) (r2.write (ownE_iff c1) ev (g3.set (Rp.mono e2 y) n))

/-! ### defs that hand out a new list -/
def eCf (l : M (List D)) : M D := fun env => (l env).bind fun ds env1 => .ok (.lst ds) env1
theorem ce_cf (h : CF cm X e l) : CE cm X e (eCf l) := fun B tk => (h B tk).weak fun σ H Q ⟨G, env, r, q⟩ => by
  refine ⟨G, env, r, ?_⟩
  unfold eCf at q
  cases c : l env with
  | no => rw [c] at q; exact q
  | exc x e => rw [c] at q; exact q
  | ok ds env1 =>
    rw [c] at q
    have q : ∀ G' H' v, Ex G G' → Rel X.K cm B G' H' σ env1 → Rp X.K cm G' v (.lst ds) → Q v H' := q
    refine fun G' H' p vs e1 r1 h1 h2 h3 h4 h5 => q (upd G' p (.lst vs)) H' _ (e1.trans (Ex.new h2)) ⟨fun b u z => ?_, r1.len, fun i t z => ?_, r1.ap, fun q' hq => ?_, r1.ptb, nt_upd r1.nt (fun ps z => by cases z), r1.tb.ge (Ex.new h2), r1.tk, r1.ao⟩ (.lst upd_same (h3.mono (Ex.new h2)))
    · by_cases hb : b = p
      · subst hb; rw [upd_same] at z; cases z; exact h1
      · rw [upd_ne hb] at z; exact r1.ex b u z
    · obtain ⟨v, ev, tr⟩ := r1.sl i t z
      refine ⟨v, ev, ?_⟩
      cases t with
      | fz d => exact Rp.mono (Ex.new h2) tr
      | th o => exact th_ge tr (Ex.new h2)
      | oo c fs =>
        obtain ⟨b, C, dx, vs, rfl, m1, m2, m3, m4, m5, m6, m7, m8, m9, m10⟩ := tr
        have n1 : b ≠ p := fun z => by subst z; rw [h1] at m3; cases m3
        have n2 : dx ≠ p := fun z => by subst z; rw [h1] at m4; cases m4
        exact ⟨b, C, dx, vs, rfl, m1, m2, m3, m4, by rw [upd_ne n1]; exact m5, by rw [upd_ne n2]; exact m6, m7, Rps.mono (Ex.new h2) m8, m9, m10⟩
      | ol k es =>
        obtain ⟨a, ws, rfl, g1, g2, g3, g4, g5⟩ := tr
        have ne : a ≠ p := fun zz => by subst zz; exact h5 i k es z ev
        exact ⟨a, ws, rfl, g1, by rw [upd_ne ne]; exact g2, g3.mono (Ex.new h2), g4, g5⟩
    · obtain ⟨m1, m2, m3⟩ := r1.pr q' hq
      have ne : q' ≠ p := fun zz => by subst zz; exact h4 hq
      exact ⟨by rw [upd_ne ne]; exact m1, m2, m3⟩
def sRetF (l : M (List D)) : MS := fun env => (l env).toS fun ds env1 => .retF ds env1
theorem cs_retF (h : CF cm X e l) : CS cm X (.Return (some e) pos) (sRetF l) := fun B tk hp => (ps_ret (h B tk)).weak fun Dn σ H ⟨G, env, r, q⟩ => by
  refine ⟨G, env, r, ?_⟩
  unfold sRetF at q
  cases c : l env with
  | no => rw [c] at q; exact q
  | exc x e => rw [c] at q; exact fun G' H' cls dd => q G' H' σ cls dd
  | ok ds env1 =>
    rw [c] at q
    exact fun G' H' p vs e1 r1 h1 h2 h3 h4 h5 => q G' H' σ p vs e1 r1 h1 h2 h3 h4
/-- return of an own list -/
def sRetN (i : Nat) : MS := fun env => match ownE i env with
  | some (none, ds) => .retF ds env
  | _ => .no
theorem cs_retO (i : Nat) (hN : X.N[i]? = some x := by rfl) (hv : Vis X.env.scope x := by first | exact Or.inl rfl | exact Or.inr (Or.inl rfl) | exact Or.inr (Or.inr rfl))
    (hd : (x == ("__debug__" : Str)) = false := by decide) (hcd : (x == ("__classdict__" : Str)) = false := by decide) : CS cm X (.Return (some (.Name x px)) pos) (sRetN i) := fun B tk hp => (ps_ret (pe_var (i := i) hN hv hd hcd)).weak fun Dn σ H ⟨G, env, r, q⟩ => by
  unfold sRetN at q
  split at q
  · rename_i ds c
    obtain ⟨v, ev, tr⟩ := r.sl i _ (ownE_iff c)
    obtain ⟨a, vs, rfl, h1, h2, h3, h4, _⟩ := tr
    exact ⟨_, ev, q G H σ a vs (Ex.refl _) r h1 h2 h3 h4⟩
  · exact q.elim
inductive WR where
  | ok (ds : List D) | exc (x : Xn) | no
section
variable (K : PySem.W.Frag) (cm : Cm)
def wantW (G H : Hp) (Q : VK) (E : XK) : WR → Prop
  | .ok ds => ∀ G' H' p vs, Ex G G' → Gd cm G' H' → Keep G H G' H' none → H p = none → H' p = some (.lst vs) → G' p = none → Rps K cm G' vs ds → Q (.ref p) H'
  | .exc x => ∀ G' H' cls dd, Ex G G' → Gd cm G' H' → Keep G H G' H' none → XRel K cm G' H' cls dd x → E cls dd H'
  | .no => False
def spW (n : Nat) (F : List D → WR) : Sp := fun vs H Q E => vs.length = n ∧ ∃ G ds, Gd cm G H ∧ Rps K cm G vs ds ∧ wantW K cm G H Q E (F ds)
end
def runW (nN : Nat) (g : MS) : List D → WR := fun ds => match g (env0 nN none ds) with
  | .retF ds _ => .ok ds
  | .exc x _ => .exc x
  | _ => .no
theorem fnOkW {P : Program} {w : World} {K : PySem.W.Frag} {mg : Str → Option Value} {base : Heap} {x qual : Str} {params : Arguments} {fbody : List Stmt} {scope : Scope} {dvs : List V} {kws : List (Str × V)} {f : Addr} {fd : FuncData} {N ps : List Str} {k : Nat} {g : MS} (F : FunD K x qual params fbody scope dvs kws f fd) (S : FnScope N ps scope)
    (body : ∀ (cdv : Value) (A : Around) (outer : List PySem.Env) (s : Shared) (H : Hp) (E : XK), Room k (A.deeper (envOfC qual scope s.heap.objs.size f cdv)) → A.guards = some [] → CSs cm (cxOf (L2.CX P w) P w K mg base N qual scope f cdv A outer s H E) fbody g) :
    FnG P w K mg base (k + 1) f fd ps (spW K cm ps.length (runW N.length g)) := by
  obtain ⟨oc, od, dV, kV, doc, pm, an, cdv, ct, osl, rfl, lk, hcd, _, _⟩ := F.ex
  exact fnG_of lk hcd S (fun vs H Q E h => h.1) fun A outer s H vs Q E hr hgd ⟨hl, G, ds, ex, ar, q⟩ => by
    refine ⟨_, body cdv A outer s H E hr hgd (B0 G H none E) ⟨takes_of rfl rfl rfl rfl, fun _ _ _ z => z.elim⟩ (passes_of rfl), G, env0 N.length none ds, rel_start ex (.pure ar), ?_⟩
    have kp : ∀ {G' H' : Hp} {σ' : L2.St} {env' : Vs.Env}, Rel K cm (B0 G H none E) G' H' σ' env' → Keep G H G' H' none := fun {G' H' σ' env'} r => ⟨fun p h1 hz h2 h3 => by
      obtain ⟨q1, q2, _⟩ := r.pr p ⟨h1, hz, h2, h3⟩
      exact ⟨q1, q2⟩, fun p ps h => r.tk p ⟨ps, h⟩⟩
    unfold runW at q
    cases c : g (env0 N.length none ds) with
    | retF es env' =>
      rw [c] at q
      refine fun G' H' σ' p ws e1 r h1 h2 h3 h4 => q G' H' p ws e1 r.gd (kp r) ?_ h1 h2 h3
      have gp : G p = none := by
        cases z : G p with
        | none => rfl
        | some u => rw [e1 _ _ z] at h2; cases h2
      have nz : ∀ ps, H p ≠ some (.tbl ps) := fun ps z => by
        obtain ⟨ps', e⟩ := r.tk p ⟨ps, z⟩
        rw [h1] at e
        cases e
      exact Classical.byContradiction fun hn => h4 ⟨hn, nz, gp, fun z => by cases z⟩
    | exc x env' =>
      rw [c] at q
      exact fun G' H' σ' cls dd e1 r y => q G' H' cls dd e1 r.gd (kp r) y
    | next env' => rw [c] at q; exact q.elim
    | ret d env' => rw [c] at q; exact q.elim
    | brk env' => rw [c] at q; exact q.elim
    | cont env' => rw [c] at q; exact q.elim
    | no => rw [c] at q; exact q.elim
def WR.toR (r : WR) (env : Vs.Env) : R (List D) := match r with
  | .ok ds => .ok ds env
  | .exc x => .exc x env
  | .no => .no
def fCall (n : Nat) (F : List D → WR) (dds : List D) (l : M (List D)) : M (List D) := fun env => (l env).bind fun ds env1 => if (ds ++ dds).length = n then (F (ds ++ dds)).toR env1 else .no
theorem cf_call {Fn : List D → WR} {n : Nat} {f : Addr} {fd : FuncData} {k : Nat} {ps : List Str} {dvs : List V} {dds : List D} {dws : List Value} (F : FnG X.prog X.w X.K X.mg X.base k f fd ps (spW X.K cm n Fn)) (hr : Room k X.A) (hgd : X.A.guards = some []) (hg : Gl X x) (hm : X.mg x = some (.ref f)) (hk : PySem.W.keepIn X.K (.ref f) = true)
    (hb : Binds X.K fd ps dws) (hd : Vals dvs dws) (hdd : ∀ G, Rps X.K cm G dvs dds) (ha : CD cm X (e :: es) l) (hdb : (x == ("__debug__" : Str)) = false := by decide) (he : starEach (e :: es) X.env = (false, eval e X.env) :: starEach es X.env := by rfl)
    (hpl : (backTo pos (starEach es X.env)).any (·.1) = false := by rfl) : CF cm X (.Call (.Name x p) (e :: es) [] pos) (fCall n Fn dds l) := fun B tk =>
  (pe_callG F hr hgd hg hm hk hb hd (fun σ => passAt tk.tk σ) (ha B tk) hdb he hpl).weak fun σ H Q ⟨G, env, r, q⟩ => by
    refine ⟨G, env, r, ?_⟩
    unfold fCall at q
    cases c : l env with
    | no => rw [c] at q; exact q
    | exc x e => rw [c] at q; exact q
    | ok ds env1 =>
      rw [c] at q
      simp only [Vs.R.bind_ok] at q
      refine fun G1 H1 vs e1 r1 y => ?_
      by_cases hn : (ds ++ dds).length = n
      · rw [if_pos hn] at q
        have y2 := Rps.append y (hdd G1)
        refine ⟨y2.length.trans hn, G1, _, r1.gd, y2, ?_⟩
        cases cf : Fn (ds ++ dds) with
        | ok es =>
          rw [cf] at q
          exact fun G' H' p vs e2 e3 kp h0 h1 h2 h3 => q G' H' p vs (e1.trans e2) (r1.after e2 e3 kp) h1 h2 h3 (r1.nprot h0) (r1.notOwned h0)
        | exc x =>
          rw [cf] at q
          exact fun G' H' cls dd e2 e3 kp yx => q G' H' cls dd (e1.trans e2) (r1.after e2 e3 kp) yx
        | no => rw [cf] at q; exact q
      · rw [if_neg hn] at q; exact q.elim
end
end Vs

set_option Elab.async false
set_option linter.all false
set_option maxRecDepth 100000
set_option maxHeartbeats 4000000
/-! VsJ: isinstance, repr, written dicts, dicts asked. -/
namespace Vs
open PySem PySem.Spec PyProof.Rows L2 Evl

/-! ### isinstance -/
def tyN : D → Option String
  | .non => some "NoneType"
  | .bl _ => some "bool"
  | .int _ => some "int"
  | .str _ => some "str"
  | .scr _ => some "list"
  | .lst _ => some "list"
  | .tup _ => some "tuple"
  | .dic _ => some "dict"
  | .obj _ _ => none
  | .exn _ _ => none
def tyNames : List String := ["NoneType", "bool", "int", "str", "list", "tuple", "dict"]
/-- the built-in types that are asked for -/
def tyAsked : List String := ["bool", "int", "str", "list", "tuple", "dict"]
def ansTy (n t : String) : Bool := n == t || (t == "int" && n == "bool")
theorem kit_all : ∀ n ∈ tyNames, ∀ t ∈ tyAsked, kitB n t = some (ansTy n t) := by decide +kernel
theorem tyN_mem {d : D} {n : String} (h : tyN d = some n) : n ∈ tyNames := by
  cases d <;> simp only [tyN] at h <;> first | (cases h; decide) | cases h
section
variable {K : PySem.W.Frag} {cm : Cm} {X : Cx} {B : Base} {G H : Hp} {σ : L2.St} {env : Vs.Env} {e : Expr} {es : List Expr} {f : M D} {pos : Pos}
theorem tyx_of {v : V} {d : D} {n : String} (ex : Ex G H) (y : Rp K cm G v d) (h : tyN d = some n) : TyX K H v (.type n) := by
  cases y <;> simp only [tyN] at h <;> try (cases h; done)
  · cases h; exact .base .non
  · cases h; exact .base (.bl _)
  · cases h; exact .base (.int _)
  · cases h; exact .base (.str _)
  · rename_i a ns h1
    cases h
    rcases ex_l ex h1 with (h1 | ⟨o, h1⟩) | ⟨o, its, n, h1, h2, _⟩
    · exact .base (.lst h1)
    · exact .base (.frz h1)
    · exact .kList h1 h2
  · rename_i h1 hs
    cases h
    exact .base (.lst (ex _ _ h1))
  · rename_i h1 hs
    cases h
    rcases ex_t ex h1 with (h1 | ⟨o, h1⟩) | ⟨o, its, n, h1, h2, _⟩
    · exact .base (.tup h1)
    · exact .fTuple h1
    · exact .kTuple h1 h2
  · rename_i h1 h2 h3
    cases h
    exact .base (.dK (ex _ _ h1))
/-- what isinstance needs of the own classes -/
structure ObF (K : PySem.W.Frag) (C : Addr) : Prop where
  cl : Cls K C
  ha : PySem.W.findIn K (.ref C) "__class__" = some (some (.builtin "object.__class__"))
  hn : PySem.W.specialIn K (.builtin "object.__class__") "__get__" = some (some (.builtin "getset_descriptor.__get__"))
  ht : PySem.W.takesIn K (.builtin "object.__class__") = some true
  hm : PySem.W.mroIn K C (.type "object") = some true
/-- what isinstance needs of the own exceptions' classes -/
structure ExF (K : PySem.W.Frag) (C : Addr) : Prop where
  cl : (PySem.W.clsIn K C).isSome = true
  ga : PySem.W.findIn K (.ref C) "__getattribute__" = some (some (.builtin "BaseException.__getattribute__"))
  gt : PySem.W.findIn K (.ref C) "__getattr__" = some none
  sb : PySem.W.subIn K (.ref C) (.type "BaseException") = some true
  hd : PySem.W.hasDictIn K C = true
  ha : PySem.W.findIn K (.ref C) "__class__" = some (some (.builtin "object.__class__"))
  hn : PySem.W.specialIn K (.builtin "object.__class__") "__get__" = some (some (.builtin "getset_descriptor.__get__"))
  ht : PySem.W.takesIn K (.builtin "object.__class__") = some true
  hm : PySem.W.mroIn K C (.type "object") = some true
inductive TyY (K : PySem.W.Frag) (H : Hp) : V → Value → Prop where
  | base {v : V} {t : Value} (h : TyX K H v t) : TyY K H v t
  | exn {a d C : Addr} {fs : List (Str × V)} (e : H a = some (XO C d a)) (e2 : H d = some (.xd fs)) (F : ExF K C) : TyY K H (.ref a) (.ref C)
  | exn0 {a C : Addr} (e : H a = some (ExO (.ref C) a)) (F : ExF K C) : TyY K H (.ref a) (.ref C)
theorem xo_at {X : Cx} {pins : List (Addr × Obj)} {σ : L2.St} {H : Hp} {s : Shared} {C d a : Addr} (I : Inv X pins σ H s) (e : H a = some (XO C d a)) : ∃ (oe : Obj) (vs : Array Value), s.heap.get? a = some oe ∧ Zc (.ref C) (some d) oe ∧ oe.data = .fields vs := by
  have x : ObjOk X.prog X.w H s.heap a (.ext fun h => ∃ (oe : Obj) (vs : Array Value), h.get? a = some oe ∧ Zc (.ref C) (some d) oe ∧ oe.data = .fields vs) := I.hok a _ e
  exact x.1
theorem kit_ofY {X : Cx} {pins : List (Addr × Obj)} {σ : L2.St} {H : Hp} {s : Shared} {x : V} {u t : Value} (I : Inv X pins σ H s) (rx : RelV x u) (ty : TyY X.K H x t) : ∃ P : Heap → Prop, PySem.W.KitX X.K u t P ∧ P s.heap ∧ u ≠ .builtin "__main__.__loader__#opaque" := by
  cases ty with
  | base h => exact kit_of I rx h
  | @exn a d C fs e e2 F =>
    cases rx
    obtain ⟨oe, vs, ho, hz, hd⟩ := xo_at I e
    have hx : ObjOk X.prog X.w H s.heap d (.xd fs) := I.hok d _ e2
    obtain ⟨mA, hns, hr⟩ := hx
    obtain ⟨od, ho2, hl⟩ := lookIn_ns hns
    refine ⟨_, PySem.W.kitx_exc (od := some od) F.cl F.ga F.gt F.sb F.ha F.hn F.ht F.hm, ⟨ho, hz.1, by unfold PySem.W.notCls; rw [hd] <;> rfl, ?_⟩, fun z => nomatch z⟩
    rw [hz.2]; exact ho2
  | @exn0 a C e F =>
    cases rx
    obtain ⟨⟨oe, vs, ho, hz, hd, _⟩, _, _⟩ := (show ObjOk X.prog X.w H s.heap a (.ext fun h => ∃ (oe : Obj) (vs : Array Value), h.get? a = some oe ∧ Zc (.ref C) none oe ∧ oe.data = .fields vs ∧ vs[1]? = some .none ∧ vs[2]? = some .none ∧ 4 < vs.size) from I.hok a _ e)
    refine ⟨_, PySem.W.kitx_exc (od := none) F.cl F.ga F.gt F.sb F.ha F.hn F.ht F.hm, ⟨ho, hz.1, by unfold PySem.W.notCls; rw [hd] <;> rfl, ?_⟩, fun z => nomatch z⟩
    rw [hz.2]; exact True.intro
def rIsiY (K : PySem.W.Frag) : List V → Hp → VK → Prop := fun xs H Q => ∃ (x c : V) (t u : Value) (b : Bool), xs = [x, c] ∧ ClsV c u ∧ TyY K H x t ∧ PySem.W.kitOne K t u = some b ∧ Q (.bl b) H
def rIsiTY (K : PySem.W.Frag) : List V → Hp → VK → Prop := fun xs H Q => ∃ (x : V) (tp : Addr) (cs : List V) (t : Value) (us : List Value) (b : Bool), xs = [x, .ref tp] ∧ H tp = some (.tup cs) ∧ Paired ClsV cs us ∧ TyY K H x t ∧ PySem.W.kitAny K t us = some b ∧ Q (.bl b) H
section
variable {X : Cx}
theorem call_isiY : CallR X (.builtin "isinstance") (rIsiY X.K) := by
  intro pins s σ H xs us Q I r h
  obtain ⟨x, c, t, u, b, rfl, k, ty, e, q⟩ := h
  obtain ⟨u1, u2, rfl, r1, r2⟩ := vals2 r
  have e2 := k.eq r2
  subst e2
  obtain ⟨P, Z, p, hx⟩ := kit_ofY I r1 ty
  exact PySem.W.kia_one Z I.kIn p e hx fun tk => ⟨.bl b, H, I.tok tk, rfl, q⟩
theorem call_isiTY : CallR X (.builtin "isinstance") (rIsiTY X.K) := by
  intro pins s σ H xs us Q I r h
  obtain ⟨x, tp, cs, t, ws, b, rfl, hT, k, ty, e, q⟩ := h
  obtain ⟨u1, u2, rfl, r1, r2⟩ := vals2 r
  cases (show u2 = Value.ref tp from r2)
  obtain ⟨P, Z, p, hx⟩ := kit_ofY I r1 ty
  obtain ⟨_, its, rv, o, h1, h2, n, h3⟩ := (show ObjOk X.prog X.w H s.heap tp (.tup cs) from I.hok tp _ hT)
  have e3 := ClsV.all k rv
  subst e3
  obtain ⟨oc, od, dt, sl⟩ := o
  simp only at h2 h3
  subst h2 h3
  exact PySem.W.kia_tup Z I.kIn p h1 e hx fun tk => ⟨.bl b, H, I.tok tk, rfl, q⟩
end
theorem kitAny_tys {n : String} (hn : n ∈ tyNames) : ∀ {ts : List String}, (∀ t ∈ ts, t ∈ tyAsked) → PySem.W.kitAny K (.type n) (ts.map Value.type) = some (ts.any fun t => ansTy n t)
  | [], _ => rfl
  | t :: ts, h => by
    have h1 : PySem.W.kitOne K (.type n) (.type t) = some (ansTy n t) := kit_ty (kit_all n hn t (h t List.mem_cons_self))
    refine kitAny_cons h1 (fun e => ?_) (fun e => ?_)
    · rw [kitAny_tys hn (fun s hs => h s (List.mem_cons_of_mem _ hs)), List.any_cons, e, Bool.false_or]
    · rw [List.any_cons, e, Bool.true_or]
/-- isinstance(x, T), T built in; none of the own classes is one -/
def oIsi (ts : List String) (d : D) : Option D := match d with
  | .obj _ _ => some (.bl false)
  | .exn _ _ => some (.bl false)
  | d => (tyN d).map fun n => .bl (ts.any fun t => ansTy n t)
variable (cm K) in
/-- none of the own classes is of a built-in type that is asked for -/
def NoTy (ts : List String) : Prop := (∀ c C, cm.c c = some C → ObF K C ∧ ∀ t ∈ ts, PySem.W.kitOne K (.ref C) (.type t) = some false) ∧ ∀ c C, cm.x c = some C → ExF K C ∧ ∀ t ∈ ts, PySem.W.kitOne K (.ref C) (.type t) = some false
theorem noTy_none {ts : List String} {sb : Str → Str → Bool} {tb : List (Addr × Str)} : NoTy K ⟨fun _ => none, fun _ => none, sb, tb⟩ ts := ⟨fun c C h => (nomatch h), fun c C h => (nomatch h)⟩
theorem NoTy.any {ts : List String} {C : Addr} (h : ∀ t ∈ ts, PySem.W.kitOne K (.ref C) (.type t) = some false) : PySem.W.kitAny K (.ref C) (ts.map Value.type) = some false := by
  induction ts with
  | nil => rfl
  | cons t ts ih => exact kitAny_cons (h t List.mem_cons_self) (fun _ => ih fun s hs => h s (List.mem_cons_of_mem _ hs)) (fun z => nomatch z)
theorem isi_ty {ts : List String} (ht : ∀ t ∈ ts, t ∈ tyAsked) (no : NoTy K cm ts) {v : V} {d z : D} (ex : Ex G H) (y : Rp K cm G v d) (h : oIsi ts d = some z) : ∃ u b, TyY K H v u ∧ z = .bl b ∧ PySem.W.kitAny K u (ts.map Value.type) = some b ∧ ∀ t, ts = [t] → PySem.W.kitOne K u (.type t) = some b := by
  have go : ∀ n, tyN d = some n → z = .bl (ts.any fun t => ansTy n t) → ∃ u b, TyY K H v u ∧ z = .bl b ∧ PySem.W.kitAny K u (ts.map Value.type) = some b ∧ ∀ t, ts = [t] → PySem.W.kitOne K u (.type t) = some b := fun n hn hz => by
    refine ⟨_, _, .base (tyx_of (cm := cm) ex y hn), hz, kitAny_tys (tyN_mem hn) ht, fun t e => ?_⟩
    subst e
    have := kit_ty (K := K) (kit_all n (tyN_mem hn) t (ht t List.mem_cons_self))
    simpa using this
  cases y with
  | obj h0 h1 h2 h3 h4 =>
    have : some (D.bl false) = some z := h
    cases this
    obtain ⟨o, q⟩ := no.1 _ _ h0
    refine ⟨_, false, .base (.base (.ins (ex _ _ h1) o.cl o.ha o.hn o.ht o.hm)), rfl, NoTy.any q, fun t e => ?_⟩
    subst e
    exact q t List.mem_cons_self
  | exn h0 h1 h2 h3 h4 =>
    have : some (D.bl false) = some z := h
    cases this
    obtain ⟨o, q⟩ := no.2 _ _ h0
    refine ⟨_, false, .exn (ex _ _ h1) (ex _ _ h2) o, rfl, NoTy.any q, fun t e => ?_⟩
    subst e
    exact q t List.mem_cons_self
  | exn0 h0 h1 =>
    have : some (D.bl false) = some z := h
    cases this
    obtain ⟨o, q⟩ := no.2 _ _ h0
    refine ⟨_, false, .exn0 (ex _ _ h1) o, rfl, NoTy.any q, fun t e => ?_⟩
    subst e
    exact q t List.mem_cons_self
  | _ =>
    simp only [oIsi, tyN, Option.map_some, Option.some.injEq] at h
    exact go _ rfl h.symm
def eIsi (ts : List String) (f : M D) : M D := fun env => (f env).bind fun d env1 => R.opt (oIsi ts d) env1
theorem ce_isi1 {T : String} {tn : Str} {p pt : Pos} (hg : Gl X "isinstance") (hm : X.mg "isinstance" = none) (ht : [T].all (fun t => decide (t ∈ tyAsked)) = true) (no : NoTy X.K cm [T]) (ha : CE cm X e f) (hgt : Gl X tn) (hmt : X.mg tn = none) (hvt : bootBuiltins tn = some (.type T))
    (hnt : tn ≠ "__name__" := by decide) (hdt : (tn == ("__debug__" : Str)) = false := by decide) (he : starEach [e, .Name tn pt] X.env = (false, eval e X.env) :: starEach [.Name tn pt] X.env := by rfl)
    (he2 : starEach [.Name tn pt] X.env = (false, eval (.Name tn pt) X.env) :: starEach [] X.env := by rfl) (hpl : (backTo pos (starEach [.Name tn pt] X.env)).any (·.1) = false := by rfl) :
    CE cm X (.Call (.Name "isinstance" p) [e, .Name tn pt] [] pos) (eIsi [T] f) := fun B tk =>
  (pe_callB call_isiY hg hm (by decide +kernel) (pa_cons (ha B tk) (pa_cons (pe_bltn (v := .ty T) hgt hmt hvt rfl hnt hdt) pa_nil he2) he) (by decide) (by decide) he hpl).weak fun σ H Q ⟨G, env, r, q⟩ => want.bind r q fun d env1 G1 H1 v e1 r1 y q1 => by
    cases c : oIsi [T] d with
    | none => rw [c] at q1; exact q1.elim
    | some z =>
      rw [c] at q1
      obtain ⟨u, b, t1, rfl, _, k1⟩ := isi_ty (fun t h => by simpa using List.all_eq_true.mp ht t h) no r1.ex y c
      exact ⟨v, .ty T, u, .type T, b, rfl, .ty T, t1, k1 T rfl, q1 G1 H1 _ (Ex.refl _) r1 (.bl b)⟩
theorem ce_isi2 {T T' : String} {tn tn' : Str} {p pt pt' ptt : Pos} {kk : Nat} (hg : Gl X "isinstance") (hm : X.mg "isinstance" = none) (ht : [T, T'].all (fun t => decide (t ∈ tyAsked)) = true) (no : NoTy X.K cm [T, T']) (ha : CE cm X e f) (hgt : Gl X tn) (hmt : X.mg tn = none) (hvt : bootBuiltins tn = some (.type T))
    (hgt' : Gl X tn') (hmt' : X.mg tn' = none) (hvt' : bootBuiltins tn' = some (.type T')) (hnt : tn ≠ "__name__" := by decide) (hdt : (tn == ("__debug__" : Str)) = false := by decide) (hnt' : tn' ≠ "__name__" := by decide) (hdt' : (tn' == ("__debug__" : Str)) = false := by decide)
    (he : starEach [e, .Tuple [.Name tn pt, .Name tn' pt'] kk ptt] X.env = (false, eval e X.env) :: starEach [.Tuple [.Name tn pt, .Name tn' pt'] kk ptt] X.env := by rfl)
    (he2 : starEach [.Tuple [.Name tn pt, .Name tn' pt'] kk ptt] X.env = (false, eval (.Tuple [.Name tn pt, .Name tn' pt'] kk ptt) X.env) :: starEach [] X.env := by rfl)
    (he3 : starEach [.Name tn pt, .Name tn' pt'] X.env = (false, eval (.Name tn pt) X.env) :: starEach [.Name tn' pt'] X.env := by rfl) (he4 : starEach [.Name tn' pt'] X.env = (false, eval (.Name tn' pt') X.env) :: starEach [] X.env := by rfl)
    (hpl : (backTo pos (starEach [.Tuple [.Name tn pt, .Name tn' pt'] kk ptt] X.env)).any (·.1) = false := by rfl) :
    CE cm X (.Call (.Name "isinstance" p) [e, .Tuple [.Name tn pt, .Name tn' pt'] kk ptt] [] pos) (eIsi [T, T'] f) := fun B tk =>
  (pe_callB call_isiTY hg hm (by decide +kernel) (pa_cons (ha B tk) (pa_cons (pe_tup (pa_cons (pe_bltn (v := .ty T) hgt hmt hvt rfl hnt hdt) (pa_cons (pe_bltn (v := .ty T') hgt' hmt' hvt' rfl hnt' hdt') pa_nil he4) he3)) pa_nil he2) he) (by decide) (by decide) he hpl).weak fun σ H Q ⟨G, env, r, q⟩ => want.bind r q fun d env1 G1 H1 v e1 r1 y q1 => by
    cases c : oIsi [T, T'] d with
    | none => rw [c] at q1; exact q1.elim
    | some z =>
      rw [c] at q1
      refine ⟨by show 2 ≤ sizeLine; decide, fun tp htp => ?_⟩
      have r2 := r1.fresh (o := .tup [.ty T, .ty T']) htp
      obtain ⟨u, b, t1, rfl, k1, _⟩ := isi_ty (fun t h => by simpa using List.all_eq_true.mp ht t h) no r2.ex y c
      exact ⟨v, tp, [.ty T, .ty T'], u, [.type T, .type T'], b, rfl, upd_same, .cons (.ty T) (.cons (.ty T') .nil), t1, k1, q1 G1 _ _ (Ex.refl _) r2 (.bl b)⟩

/-- isinstance(x, C), C an own class of the name t -/
def oIsC (sub : Str → Str → Bool) (t : Str) (d : D) : Option D := match d with
  | .obj c _ => some (.bl (sub c t))
  | .exn c _ => some (.bl (sub c t))
  | d => (tyN d).map fun _ => .bl false
variable (cm K) in
structure IsV (t : Str) (T : Value) : Prop where
  base : ∀ n ∈ tyNames, PySem.W.kitOne K (.type n) T = some false
  obj : ∀ c C, cm.c c = some C → ObF K C ∧ PySem.W.kitOne K (.ref C) T = some (cm.sub c t)
  exn : ∀ c C, cm.x c = some C → ExF K C ∧ PySem.W.kitOne K (.ref C) T = some (cm.sub c t)
variable (cm K) in
abbrev IsC (t : Str) (T : Addr) : Prop := IsV K cm t (.ref T)
def eIsC (sub : Str → Str → Bool) (t : Str) (f : M D) : M D := fun env => (f env).bind fun d env1 => R.opt (oIsC sub t d) env1
theorem isc_ty {t : Str} {T : Value} (no : IsV K cm t T) {v : V} {d z : D} (ex : Ex G H) (y : Rp K cm G v d) (h : oIsC cm.sub t d = some z) : ∃ u b, TyY K H v u ∧ z = .bl b ∧ PySem.W.kitOne K u T = some b := by
  cases y with
  | obj h0 h1 h2 h3 h4 =>
    have : some (D.bl _) = some z := h
    cases this
    obtain ⟨o, q⟩ := no.obj _ _ h0
    exact ⟨_, _, .base (.base (.ins (ex _ _ h1) o.cl o.ha o.hn o.ht o.hm)), rfl, q⟩
  | exn h0 h1 h2 h3 h4 =>
    have : some (D.bl _) = some z := h
    cases this
    obtain ⟨o, q⟩ := no.exn _ _ h0
    exact ⟨_, _, .exn (ex _ _ h1) (ex _ _ h2) o, rfl, q⟩
  | exn0 h0 h1 =>
    have : some (D.bl _) = some z := h
    cases this
    obtain ⟨o, q⟩ := no.exn _ _ h0
    exact ⟨_, _, .exn0 (ex _ _ h1) o, rfl, q⟩
  | non => cases h; exact ⟨_, _, .base (tyx_of (cm := cm) ex .non rfl), rfl, no.base _ (by decide)⟩
  | bl b => cases h; exact ⟨_, _, .base (tyx_of (cm := cm) ex (.bl b) rfl), rfl, no.base _ (by decide)⟩
  | int i => cases h; exact ⟨_, _, .base (tyx_of (cm := cm) ex (.int i) rfl), rfl, no.base _ (by decide)⟩
  | str x => cases h; exact ⟨_, _, .base (tyx_of (cm := cm) ex (.str x) rfl), rfl, no.base _ (by decide)⟩
  | scr h1 => cases h; exact ⟨_, _, .base (tyx_of (cm := cm) ex (.scr h1) rfl), rfl, no.base _ (by decide)⟩
  | lst h1 h2 => cases h; exact ⟨_, _, .base (tyx_of (cm := cm) ex (.lst h1 h2) rfl), rfl, no.base _ (by decide)⟩
  | tup h1 h2 => cases h; exact ⟨_, _, .base (tyx_of (cm := cm) ex (.tup h1 h2) rfl), rfl, no.base _ (by decide)⟩
  | dic h1 h2 h3 => cases h; exact ⟨_, _, .base (tyx_of (cm := cm) ex (.dic h1 h2 h3) rfl), rfl, no.base _ (by decide)⟩
theorem ce_isC {t : Str} {T : Addr} {p pt : Pos} (hg : Gl X "isinstance") (hm : X.mg "isinstance" = none) (no : IsC X.K cm t T) (ha : CE cm X e f) (hgt : Gl X t) (hmt : X.mg t = some (.ref T))
    (hdt : (t == ("__debug__" : Str)) = false := by decide) (he : starEach [e, .Name t pt] X.env = (false, eval e X.env) :: starEach [.Name t pt] X.env := by rfl)
    (he2 : starEach [.Name t pt] X.env = (false, eval (.Name t pt) X.env) :: starEach [] X.env := by rfl) (hpl : (backTo pos (starEach [.Name t pt] X.env)).any (·.1) = false := by rfl) :
    CE cm X (.Call (.Name "isinstance" p) [e, .Name t pt] [] pos) (eIsC cm.sub t f) := fun B tk =>
  (pe_callB call_isiY hg hm (by decide +kernel) (pa_cons (ha B tk) (pa_cons (pe_glob (v := .ref T) hgt hmt rfl hdt) pa_nil he2) he) (by decide) (by decide) he hpl).weak fun σ H Q ⟨G, env, r, q⟩ => want.bind r q fun d env1 G1 H1 v e1 r1 y q1 => by
    cases c : oIsC cm.sub t d with
    | none => rw [c] at q1; exact q1.elim
    | some z =>
      rw [c] at q1
      obtain ⟨u, b, t1, rfl, k1⟩ := isc_ty no r1.ex y c
      exact ⟨v, .ref T, u, .ref T, b, rfl, .own T, t1, k1, q1 G1 H1 _ (Ex.refl _) r1 (.bl b)⟩

/-- isinstance(x, T), T a built-in class of exceptions -/
theorem ce_isB {T : String} {t : Str} {p pt : Pos} (hg : Gl X "isinstance") (hm : X.mg "isinstance" = none) (no : IsV X.K cm t (.type T)) (ha : CE cm X e f) (hgt : Gl X t) (hmt : X.mg t = none) (hvt : bootBuiltins t = some (.type T))
    (hnt : t ≠ "__name__" := by decide) (hdt : (t == ("__debug__" : Str)) = false := by decide) (he : starEach [e, .Name t pt] X.env = (false, eval e X.env) :: starEach [.Name t pt] X.env := by rfl)
    (he2 : starEach [.Name t pt] X.env = (false, eval (.Name t pt) X.env) :: starEach [] X.env := by rfl) (hpl : (backTo pos (starEach [.Name t pt] X.env)).any (·.1) = false := by rfl) :
    CE cm X (.Call (.Name "isinstance" p) [e, .Name t pt] [] pos) (eIsC cm.sub t f) := fun B tk =>
  (pe_callB call_isiY hg hm (by decide +kernel) (pa_cons (ha B tk) (pa_cons (pe_bltn (v := .ty T) hgt hmt hvt rfl hnt hdt) pa_nil he2) he) (by decide) (by decide) he hpl).weak fun σ H Q ⟨G, env, r, q⟩ => want.bind r q fun d env1 G1 H1 v e1 r1 y q1 => by
    cases c : oIsC cm.sub t d with
    | none => rw [c] at q1; exact q1.elim
    | some z =>
      rw [c] at q1
      obtain ⟨u, b, t1, rfl, k1⟩ := isc_ty no r1.ex y c
      exact ⟨v, .ty T, u, .type T, b, rfl, .ty T, t1, k1, q1 G1 H1 _ (Ex.refl _) r1 (.bl b)⟩

/-! ### repr -/
def oRepr : List D → Option D
  | [d] => (pyOf d).bind fun p => if p.showable = true ∧ p.shown.length ≤ sizeLine ∧ p.depth ≤ 64 then some (.str p.shown) else none
  | _ => none
def rRepr (X : Cx) : List V → Hp → VK → Prop := fun xs H Q => ∃ v p, xs = [v] ∧ Dp X.K H v p ∧ p.showable = true ∧ p.shown.length ≤ sizeLine ∧ p.depth ≤ 64 ∧ Q (.str p.shown) H
mutual
theorem dp_nodict {K : PySem.W.Frag} {H : Hp} : ∀ (p : PyData) (v : V), Dp K H v p → p.hasDict = false
  | .none, _, _ => rfl
  | .bool _, _, _ => rfl
  | .int _, _, _ => rfl
  | .str _, _, _ => rfl
  | .list xs, v, h => by
    cases h with
    | lst _ h2 => unfold PyData.hasDict; exact dps_nodict xs _ h2
  | .tuple xs, v, h => by
    cases h with
    | tup _ h2 => unfold PyData.hasDict; exact dps_nodict xs _ h2
  | .dict _, _, h => by cases h
theorem dps_nodict {K : PySem.W.Frag} {H : Hp} : ∀ (ps : List PyData) (vs : List V), DpAll K H vs ps → PyData.hasDictAll ps = false
  | [], _, _ => by unfold PyData.hasDictAll; rfl
  | p :: ps, vs, h => by
    cases h with
    | cons h1 h2 => unfold PyData.hasDictAll; rw [dp_nodict p _ h1, dps_nodict ps _ h2]; rfl
end
theorem call_repr (hgd : X.A.guards = some []) (hu : X.A.units + 70 < cLine) : CallR X (.builtin "repr") (rRepr X) := by
  intro pins s σ H xs us Q I r h
  obtain ⟨v, p, rfl, dp, hs, hz, hd, q⟩ := h
  obtain ⟨u, rfl, rv⟩ := vals1 r
  obtain ⟨as, rd⟩ := Dp.reads I p v u dp rv
  have nd := dp_nodict p v dp
  cases dp with
  | non => cases rv; exact PySem.P.repr_of_none ⟨.str _, H, I.tok _, ⟨_, rfl⟩, q⟩
  | bl b => cases rv; exact PySem.P.repr_of_bool ⟨.str _, H, I.tok _, ⟨_, rfl⟩, by simpa [PyData.shown] using q⟩
  | int i =>
    obtain ⟨t, rfl⟩ := rv
    exact PySem.P.repr_of_int (by simpa [PyData.showable] using hs) ⟨.str _, H, I.tok _, ⟨_, rfl⟩, by simpa [PyData.shown] using q⟩
  | str x =>
    obtain ⟨t, rfl⟩ := rv
    exact PySem.P.repr_of_str ⟨.str _, H, I.tok _, ⟨_, rfl⟩, by simpa [PyData.shown] using q⟩ (by simpa [PyData.shown] using hz)
  | lst h1 h2 =>
    cases rv
    exact repr_of_reads' rd hs (PySem.PyData.noDict_hsm nd) hgd (by omega) (fun _ _ z => z) (fun h' w tk keep => ⟨.str _, H, I.kept keep, ⟨_, rfl⟩, q⟩) hz
  | tup h1 h2 =>
    cases rv
    exact repr_of_reads' rd hs (PySem.PyData.noDict_hsm nd) hgd (by omega) (fun _ _ z => z) (fun h' w tk keep => ⟨.str _, H, I.kept keep, ⟨_, rfl⟩, q⟩) hz
theorem cad_repr : CaD cm X (rRepr X) oRepr := fun B G H σ env vs ds d Q r ys c q => by
  unfold oRepr at c
  split at c
  · simp only [Option.bind_eq_some_iff] at c
    obtain ⟨p, e1, c⟩ := c
    obtain ⟨v, rfl, y⟩ := ys.one
    split at c
    · rename_i hh
      cases c
      exact ⟨v, p, rfl, dp_both r.ex _ _ y p e1, hh.1, hh.2.1, hh.2.2, q G H _ (Ex.refl G) r (.str _)⟩
    · cases c
  · cases c

/-! ### written dicts -/
inductive RK (K : PySem.W.Frag) (cm : Cm) (G : Hp) : List (Key × V) → List (Key × D) → Prop
  | nil : RK K cm G [] []
  | cons {k : Key} {v : V} {d : D} {ks : List (Key × V)} {ds : List (Key × D)} : Rp K cm G v d → RK K cm G ks ds → RK K cm G ((k, v) :: ks) ((k, d) :: ds)
theorem RK.to {ks : List (Key × V)} {ds : List (Key × D)} (h : RK K cm G ks ds) : ks.map (·.1) = ds.map (·.1) ∧ Rps K cm G (ks.map (·.2)) (ds.map (·.2)) := by
  induction h with
  | nil => exact ⟨rfl, .nil⟩
  | cons h1 _ ih => exact ⟨by simp [ih.1], .cons h1 ih.2⟩
theorem RK.of : ∀ {ds : List (Key × D)} {ks : List (Key × V)}, ks.map (·.1) = ds.map (·.1) → Rps K cm G (ks.map (·.2)) (ds.map (·.2)) → RK K cm G ks ds
  | [], [], _, _ => .nil
  | [], _ :: _, h, _ => by simp at h
  | _ :: _, [], h, _ => by simp at h
  | (k', d) :: ds, (k, v) :: ks, h, h2 => by
    simp only [List.map_cons, List.cons.injEq] at h
    obtain ⟨rfl, h⟩ := h
    cases h2 with
    | cons h3 h4 => exact .cons h3 (RK.of h h4)
theorem RK.mono {G' : Hp} {ks : List (Key × V)} {ds : List (Key × D)} (e : Ex G G') (h : RK K cm G ks ds) : RK K cm G' ks ds := by
  induction h with
  | nil => exact .nil
  | cons h1 _ ih => exact .cons (h1.mono e) ih
def putD (ds : List (Key × D)) (k : Key) (d : D) : List (Key × D) := if (ds.any fun kv => decide (kv.1 = k)) = true then ds.map (fun kv => if kv.1 = k then (kv.1, d) else kv) else ds ++ [(k, d)]
theorem RK.any {ks : List (Key × V)} {ds : List (Key × D)} (h : RK K cm G ks ds) (k : Key) : (ks.any fun kv => decide (kv.1 = k)) = (ds.any fun kv => decide (kv.1 = k)) := by
  induction h with
  | nil => rfl
  | cons _ _ ih => simp [ih]
theorem RK.put {ks : List (Key × V)} {ds : List (Key × D)} (h : RK K cm G ks ds) {k : Key} {v : V} {d : D} (y : Rp K cm G v d) : RK K cm G (putK ks k v) (putD ds k d) := by
  unfold putK putD
  rw [h.any k]
  split
  · induction h with
    | nil => exact .nil
    | @cons k' v' d' ks' ds' h1 h2 ih =>
      rename_i hh
      clear hh
      have go : ∀ {ks : List (Key × V)} {ds : List (Key × D)}, RK K cm G ks ds → RK K cm G (ks.map fun kv => if kv.1 = k then (kv.1, v) else kv) (ds.map fun kv => if kv.1 = k then (kv.1, d) else kv) := fun {ks ds} h => by
        induction h with
        | nil => exact .nil
        | @cons k2 v2 d2 _ _ g1 _ ih2 =>
          simp only [List.map_cons]
          by_cases e : k2 = k
          · rw [if_pos e, if_pos e]; exact .cons y ih2
          · rw [if_neg e, if_neg e]; exact .cons g1 ih2
      exact go (.cons h1 h2)
  · induction h with
    | nil => exact .cons y .nil
    | cons h1 _ ih => exact .cons h1 (ih (by simp_all))
def mergeD (ds more : List (Key × D)) : List (Key × D) := more.foldl (fun acc kv => putD acc kv.1 kv.2) ds
theorem RK.merge {ms : List (Key × V)} {es : List (Key × D)} (h : RK K cm G ms es) : ∀ {ks : List (Key × V)} {ds : List (Key × D)}, RK K cm G ks ds → RK K cm G (mergeK ks ms) (mergeD ds es) := by
  induction h with
  | nil => exact fun h => h
  | cons h1 _ ih => exact fun h => ih (h.put h1)
def keyD : D → Option Key
  | .int i => some (.inl i)
  | .str x => some (.inr x)
  | _ => none
def ePairs : List (M D × M D) → M (List (Key × D))
  | [], env => .ok [] env
  | (fk, fv) :: r, env => (fk env).bind fun k env1 => (fv env1).bind fun v env2 => (R.opt (keyD k) env2).bind fun k' env3 => (ePairs r env3).bind fun ps env4 => .ok ((k', v) :: ps) env4
def eDic (fs : List (M D × M D)) : M D := fun env => (ePairs fs env).bind fun ps env1 => .ok (.dic (mergeD [] ps)) env1
theorem ce_dic0 : CE cm X (.Dict [] [] pos) (fun env => .ok (.dic []) env) := fun B tk => pe_dnewK.weak fun σ H Q ⟨G, env, r, q⟩ => fun p hp => by
  obtain ⟨r1, e1⟩ := r.alloc (o := .dK []) hp
  exact q _ _ _ e1 r1 (.dic upd_same rfl .nil)
/-- p is held as it is while parts are reckoned -/
def Base.hold (B : Base) (p : Addr) (o : HO) : Base := { B with prot := fun q => B.prot q ∨ q = p, H0 := fun q => if q = p then some o else B.H0 q }
theorem Rel.toHold (r : Rel K cm B G H σ env) {p : Addr} {o : HO} (h : H p = none) (hn : ∀ ps, o ≠ .tbl ps := by intro ps z; cases z) : Rel K cm (B.hold p o) G (upd H p o) σ env := by
  have r2 := r.fresh (o := o) h
  refine ⟨r2.ex, r2.len, fun i t e => ?_, r2.ap, fun q hq => ?_, fun q hq ps => ?_, r2.nt, r2.tb, r2.tk, r2.ao⟩
  · obtain ⟨v, ev, tr⟩ := r2.sl i t e
    refine ⟨v, ev, ?_⟩
    cases t with
    | fz d => exact tr
    | th o => exact tr
    | oo c fs =>
      obtain ⟨b, C, dx, vs, rfl, m1, m2, m3, m4, m5, m6, m7, m8, m9, m10⟩ := tr
      obtain ⟨v', ev', tr'⟩ := r.sl i _ e
      rw [ev] at ev'; cases ev'
      obtain ⟨b', C', dx', vs', z', k1, k2, k3, k4, _⟩ := tr'
      cases z'
      have n1 : b ≠ p := ne_of_none k3 h
      have e3 := m3
      rw [upd_ne n1, k3] at e3
      have e3 := Option.some.inj e3
      injection e3 with _ e3 _
      have n2 : dx ≠ p := by rw [← e3]; exact ne_of_none k4 h
      exact ⟨b, C, dx, vs, rfl, m1, m2, m3, m4, m5, m6, m7, m8, fun z => z.elim m9 n1, fun z => z.elim m10 n2⟩
    | ol k ds =>
      obtain ⟨a, vs, rfl, h1, h2, h3, h4, h5⟩ := tr
      refine ⟨a, vs, rfl, h1, h2, h3, ?_, h5⟩
      rintro (z | z)
      · exact h4 z
      · exact r.notOwned h i k ds e (by rw [← z]; exact ev)
  · by_cases hd : q = p
    · subst hd
      refine ⟨r.free h, by rw [upd_same]; show _ = (if q = q then _ else _); rw [if_pos rfl], ?_⟩
      show (if q = q then _ else _) ≠ none
      rw [if_pos rfl]; exact fun z => nomatch z
    · obtain ⟨h1, h2, h3⟩ := r2.pr q (hq.resolve_right hd)
      have e : (B.hold p o).H0 q = B.H0 q := if_neg hd
      rw [e]
      exact ⟨h1, h2, h3⟩
  · by_cases hd : q = p
    · subst hd
      rw [upd_same]; exact fun z => hn ps (Option.some.inj z)
    · exact r2.ptb q (hq.resolve_right hd) ps
theorem Rel.ofHold {p : Addr} {o : HO} (nd : ¬ B.prot p) (r : Rel K cm (B.hold p o) G H σ env) : Rel K cm B G H σ env ∧ H p = some o ∧ G p = none := by
  have hp : H p = some o ∧ G p = none := by
    obtain ⟨h1, h2, h3⟩ := r.pr p (.inr rfl)
    have e : (B.hold p o).H0 p = some o := if_pos rfl
    rw [e] at h2
    exact ⟨h2, h1⟩
  refine ⟨⟨r.ex, r.len, fun i t e => ?_, r.ap, fun q hq => ?_, fun q hq ps => r.ptb q (.inl hq) ps, r.nt, r.tb, r.tk, r.ao⟩, hp⟩
  · obtain ⟨v, ev, tr⟩ := r.sl i t e
    refine ⟨v, ev, ?_⟩
    cases t with
    | fz d => exact tr
    | th o => exact tr
    | oo c fs =>
      obtain ⟨b, C, dx, vs, rfl, m1, m2, m3, m4, m5, m6, m7, m8, m9, m10⟩ := tr
      exact ⟨b, C, dx, vs, rfl, m1, m2, m3, m4, m5, m6, m7, m8, fun z => m9 (.inl z), fun z => m10 (.inl z)⟩
    | ol k ds =>
      obtain ⟨a, vs, rfl, h1, h2, h3, h4, h5⟩ := tr
      exact ⟨a, vs, rfl, h1, h2, h3, fun z => h4 (.inl z), h5⟩
  · obtain ⟨h1, h2, h3⟩ := r.pr q (.inl hq)
    have ne : q ≠ p := fun z => by subst z; exact nd hq
    have e : (B.hold p o).H0 q = B.H0 q := if_neg ne
    rw [e] at h2 h3
    exact ⟨h1, h2, h3⟩
/-- a held object that is laid down (with other content) -/
theorem Rel.layHeld {p : Addr} {o' : HO} {ks : List (Key × V)} (nd : ¬ B.prot p) (r : Rel K cm (B.hold p (.dK ks)) G H σ env) (hn : ∀ ps, o' ≠ .tbl ps := by intro ps z; cases z) : Rel K cm B (upd G p o') (upd H p o') σ env ∧ Ex G (upd G p o') := by
  obtain ⟨r2, hp, gp⟩ := r.ofHold nd
  have eg : Ex G (upd G p o') := Ex.new gp
  have np : ∀ q u, H q = some u → ((∃ ps, u = .tbl ps) ∨ ∃ φ, u = .ext φ) → q ≠ p := fun q u e hk z => by
    subst z; rw [hp] at e; cases e
    rcases hk with ⟨_, z⟩ | ⟨_, z⟩ <;> cases z
  refine ⟨⟨ex_upd2 r2.ex, r2.len, fun i t e => ?_, r2.ap, fun q hq => ?_, fun q hq ps => ?_, nt_upd r2.nt hn, (r2.tb.ge eg).mono (Ex.refl _) fun b ps e => by rw [upd_ne (np b _ e (.inl ⟨_, rfl⟩))]; exact e,
    fun q hq => by obtain ⟨ps, e⟩ := r2.tk q hq; exact ⟨ps, by rw [upd_ne (np q _ e (.inl ⟨_, rfl⟩))]; exact e⟩, r2.ao⟩, eg⟩
  · obtain ⟨v, ev, tr⟩ := r.sl i t e
    refine ⟨v, ev, ?_⟩
    cases t with
    | fz d => exact Rp.mono eg tr
    | th o => exact th_ge tr eg
    | oo c fs =>
      obtain ⟨b, C, dx, vs, rfl, m1, m2, m3, m4, m5, m6, m7, m8, m9, m10⟩ := tr
      have n1 : b ≠ p := fun z => m9 (.inr z)
      have n2 : dx ≠ p := fun z => m10 (.inr z)
      exact ⟨b, C, dx, vs, rfl, m1, m2, by rw [upd_ne n1]; exact m3, by rw [upd_ne n2]; exact m4, by rw [upd_ne n1]; exact m5, by rw [upd_ne n2]; exact m6, m7, m8.mono eg, fun z => m9 (.inl z), fun z => m10 (.inl z)⟩
    | ol k ds =>
      obtain ⟨a, vs, rfl, h1, h2, h3, h4, h5⟩ := tr
      have ne : a ≠ p := fun z => h4 (.inr z)
      exact ⟨a, vs, rfl, by rw [upd_ne ne]; exact h1, by rw [upd_ne ne]; exact h2, h3.mono eg, fun z => h4 (.inl z), h5⟩
  · obtain ⟨h1, h2, h3⟩ := r2.pr q hq
    have ne : q ≠ p := fun z => by subst z; exact nd hq
    exact ⟨by rw [upd_ne ne]; exact h1, by rw [upd_ne ne]; exact h2, h3⟩
  · have ne : q ≠ p := fun z => by subst z; exact nd hq
    rw [upd_ne ne]; exact r2.ptb q hq ps
def tGy {α β : Type} (X : Cx) (cm : Cm) (Y : Hp → L2.St → β → α → Prop) (f : M α) : L2.St → Hp → (β → Hp → Prop) → Prop := fun σ H Q => ∃ B : Base, Fit cm X B ∧ tG X.K cm Y B f σ H Q
theorem CE.y (h : CE cm X e f) : PE X e (tGy X cm (YV X.K cm) f) := ⟨fun pins s σ H Q I ⟨B, tk, q⟩ => (h B tk).run pins s σ H Q I q⟩
variable (cm X) in
inductive CPs (pos : Pos) : List (Option Expr) → List Expr → List (M D × M D) → Prop
  | nil : CPs pos [] [] []
  | cons {k v : Expr} {ks : List (Option Expr)} {vs : List Expr} {fk fv : M D} {fs : List (M D × M D)} : CE cm X k fk → CE cm X v fv → CPs pos ks vs fs → CPs pos (some k :: ks) (v :: vs) ((fk, fv) :: fs)
theorem CPs.pps {ks : List (Option Expr)} {vs : List Expr} {fs : List (M D × M D)} (h : CPs cm X pos ks vs fs) : PPs X pos ks vs (fs.map fun q => (tGy X cm (YV X.K cm) q.1, tGy X cm (YV X.K cm) q.2)) := by
  induction h with
  | nil => exact pps_nil
  | cons h1 h2 _ ih => exact pps_cons h1.y h2.y ih
def YP (K : PySem.W.Frag) (cm : Cm) : Hp → L2.St → List (V × V) → List (Key × D) → Prop := fun G _ vs ps => ∃ kvs, vs = kvs.map (fun kv => (kV kv.1, kv.2)) ∧ RK K cm G kvs ps
theorem pairs_of {B : Base} (tk : Fit cm X B) : ∀ {fs : List (M D × M D)} {H : Hp} {Q1 : List (V × V) → Hp → Prop}, tG X.K cm (YP X.K cm) B (ePairs fs) σ H Q1 → tPairs (fs.map fun q => (tGy X cm (YV X.K cm) q.1, tGy X cm (YV X.K cm) q.2)) σ H Q1
  | [], H, Q1, ⟨G, env, r, q⟩ => q G H [] (Ex.refl _) r ⟨[], rfl, .nil⟩
  | (fk, fv) :: fs, H, Q1, ⟨G, env, r, q⟩ => by
    unfold ePairs at q
    refine ⟨B, tk, want.bind r q fun kd env1 G1 H1 kv e1 r1 y1 q1 => ⟨B, tk, want.bind r1 q1 fun vd env2 G2 H2 vv e2 r2 y2 q2 => ?_⟩⟩
    cases c : keyD kd with
    | none => rw [c] at q2; exact q2.elim
    | some k' =>
      rw [c] at q2
      simp only [R.opt_some, Vs.R.bind_ok] at q2
      have hkv : kv = kV k' := by
        cases y1 <;> simp only [keyD] at c <;> first | (cases c; rfl) | cases c
      refine pairs_of tk (want.bind (Y := YP X.K cm) r2 q2 fun ps env3 G3 H3 kvs e3 r3 rk q3 => ?_)
      obtain ⟨kvs', rfl, rk⟩ := rk
      exact q3 G3 H3 _ (Ex.refl _) r3 ⟨(k', vv) :: kvs', by rw [hkv]; rfl, .cons (Rp.mono e3 y2) rk⟩
theorem ePairs_len : ∀ {fs : List (M D × M D)} {env env1 : Vs.Env} {ps : List (Key × D)}, ePairs fs env = .ok ps env1 → ps.length = fs.length
  | [], env, env1, ps, h => by
    have h : R.ok ([] : List (Key × D)) env = .ok ps env1 := h
    cases h; rfl
  | (fk, fv) :: fs, env, env1, ps, h => by
    unfold ePairs at h
    cases c : fk env with
    | no => rw [c] at h; cases h
    | exc x e => rw [c] at h; cases h
    | ok a e =>
      rw [c] at h
      simp only [Vs.R.bind_ok] at h
      cases c2 : fv e with
      | no => rw [c2] at h; cases h
      | exc x e => rw [c2] at h; cases h
      | ok b e2 =>
        rw [c2] at h
        simp only [Vs.R.bind_ok] at h
        cases c3 : keyD a with
        | none => rw [c3] at h; cases h
        | some k' =>
          rw [c3] at h
          simp only [R.opt_some, Vs.R.bind_ok] at h
          cases c4 : ePairs fs e2 with
          | no => rw [c4] at h; cases h
          | exc x e => rw [c4] at h; cases h
          | ok ps' e3 =>
            rw [c4] at h
            have h : R.ok ((k', b) :: ps') e3 = .ok ps env1 := h
            cases h
            simp [ePairs_len c4]
theorem CPs.len {ks : List (Option Expr)} {vs : List Expr} {fs : List (M D × M D)} (h : CPs cm X pos ks vs fs) : ks.length = fs.length := by
  induction h with
  | nil => rfl
  | cons _ _ _ ih => simp [ih]
theorem ce_dic {ks : List (Option Expr)} {vs : List Expr} {fs : List (M D × M D)} (h : CPs cm X pos ks vs fs) (hall : ks.all (·.isSome) = true) (hl : ks.length = vs.length) (h0 : ks ≠ []) (h15 : ks.length ≤ 15) : CE cm X (.Dict ks vs pos) (eDic fs) := fun B tk =>
  (pe_disp h.pps hall hl h0 h15).weak fun σ H Q ⟨G, env, r, q⟩ => fun p hp => by
    have r1 := r.toHold (o := .dK []) hp
    have nd := r.nprot hp
    refine pairs_of (B := B.hold p (.dK [])) ⟨tk.tk, tk.th⟩ ⟨G, env, r1, ?_⟩
    unfold eDic at q
    cases c : ePairs fs env with
    | no => rw [c] at q; exact q
    | exc x e => rw [c] at q; exact fun G' H' c d e1 r' => q G' H' c d e1 (r'.ofHold nd).1
    | ok ps env1 =>
      rw [c] at q
      rintro G' H' b e1 r' ⟨kvs, rfl, rk⟩
      obtain ⟨_, h1, h2⟩ := r'.ofHold nd
      obtain ⟨r3, e3⟩ := r'.layHeld (o' := .dK (mergeK [] kvs)) nd
      refine ⟨h1, kvs, rfl, ?_, q _ _ _ (e1.trans e3) r3 ?_⟩
      · have l1 := ePairs_len c
        have l2 := h.len
        have l3 : kvs.length = ps.length := by simpa using congrArg List.length rk.to.1
        omega
      · obtain ⟨m1, m2⟩ := ((rk.mono e3).merge (ks := []) (ds := []) .nil).to
        exact .dic upd_same m1 m2
end
end Vs

set_option Elab.async false
set_option linter.all false
set_option maxRecDepth 100000
set_option maxHeartbeats 4000000
/-! VsK: how calls bind; a def as it stands behind the top. -/
namespace Vs
open PySem PySem.Spec PyProof.Rows L2 Evl

/-- places: of the positional values, of the keywords' values, of the defaults -/
inductive Pl where
  | p (i : Nat) | k (i : Nat) | d (i : Nat)
def gIx {α : Type} (ix : List Pl) (us ws ds : List α) : List α := ix.filterMap fun
  | .p i => us[i]?
  | .k i => ws[i]?
  | .d i => ds[i]?
theorem paired_ix {α β : Type} {F : α → β → Prop} : ∀ {xs : List α} {ys : List β} (i : Nat), Paired F xs ys → (xs[i]? = none ∧ ys[i]? = none) ∨ ∃ x y, xs[i]? = some x ∧ ys[i]? = some y ∧ F x y
  | _, _, _, .nil => .inl ⟨by simp, by simp⟩
  | _, _, 0, .cons r _ => .inr ⟨_, _, by simp, by simp, r⟩
  | _, _, i + 1, .cons _ t => by simpa using paired_ix i t
theorem gIx_rel {α β : Type} {F : α → β → Prop} {us ws ds : List α} {us' ws' ds' : List β} (h1 : Paired F us us') (h2 : Paired F ws ws') (h3 : Paired F ds ds') : ∀ ix : List Pl, Paired F (gIx ix us ws ds) (gIx ix us' ws' ds')
  | [] => .nil
  | q :: ix => by
    have ih := gIx_rel h1 h2 h3 ix
    unfold gIx at ih ⊢
    cases q with
    | p i =>
      rcases paired_ix i h1 with ⟨a, b⟩ | ⟨x, y, a, b, r⟩
      · simp only [List.filterMap_cons, a, b]; exact ih
      · simp only [List.filterMap_cons, a, b]; exact .cons r ih
    | k i =>
      rcases paired_ix i h2 with ⟨a, b⟩ | ⟨x, y, a, b, r⟩
      · simp only [List.filterMap_cons, a, b]; exact ih
      · simp only [List.filterMap_cons, a, b]; exact .cons r ih
    | d i =>
      rcases paired_ix i h3 with ⟨a, b⟩ | ⟨x, y, a, b, r⟩
      · simp only [List.filterMap_cons, a, b]; exact ih
      · simp only [List.filterMap_cons, a, b]; exact .cons r ih
section
variable {K : PySem.W.Frag} {cm : Cm} {G : Hp}
theorem Rps.paired : ∀ {ds : List D} {vs : List V}, Rps K cm G vs ds → Paired (Rp K cm G) vs ds
  | [], vs, h => by cases h; exact .nil
  | d :: ds, vs, h => by cases h with | cons h1 h2 => exact .cons h1 (Rps.paired h2)
theorem Rps.ofPaired {vs : List V} {ds : List D} (h : Paired (Rp K cm G) vs ds) : Rps K cm G vs ds := by
  induction h with
  | nil => exact .nil
  | cons h1 _ ih => exact .cons h1 ih
theorem Rps.gIx {us ws dv : List V} {us' ws' dd : List D} (h1 : Rps K cm G us us') (h2 : Rps K cm G ws ws') (h3 : Rps K cm G dv dd) (ix : List Pl) : Rps K cm G (gIx ix us ws dv) (gIx ix us' ws' dd) :=
  .ofPaired (gIx_rel h1.paired h2.paired h3.paired ix)
variable {x qual : Str} {params : Arguments} {body : List Stmt} {scope : Scope} {dvs : List V} {f : Addr} {fd : FuncData} {ps ks : List Str}
/-- f(.., k = v, ..) of a def without defaults: every parameter is written -/
theorem kbn0 (F : FunD K x qual params body scope [] [] f fd) (n : Nat) (ks : List Str) (ix : List Pl)
    (h : ∀ (kV doc pm : Value) (an : Option Addr) (cdv ct : Value) (us ws : List Value), us.length = n → ws.length = ks.length → bindArgs (PySem.W.fnOf x qual params body scope .none kV doc pm an cdv ct) ⟨us, ks.zip ws⟩ = pure (ps.zip (gIx ix us ws []))) :
    KBn K fd ps n ks (fun us ws => gIx ix us ws []) (fun vs zs => gIx ix vs zs []) := by
  obtain ⟨oc, od, dV, kV, doc, pm, an, cdv, ct, osl, rfl, lk, hcd, hD, _⟩ := F.ex
  rcases hD with ⟨_, rfl⟩ | ⟨e, _⟩
  · exact ⟨fun s us ws X l1 l2 => .of_eq (h kV doc pm an cdv ct us ws l1 l2), fun r1 r2 => gIx_rel r1 r2 .nil ix⟩
  · exact absurd rfl e
/-- .. with defaults -/
theorem kbnD (F : FunD K x qual params body scope dvs [] f fd) (n : Nat) (ks : List Str) (ix : List Pl) (hd : dvs ≠ [])
    (h : ∀ (T : Addr) (kV doc pm : Value) (an : Option Addr) (cdv ct : Value) (us its ws : List Value), us.length = n → its.length = dvs.length → ws.length = ks.length →
      ∃ k, bindArgs (PySem.W.fnOf x qual params body scope (.ref T) kV doc pm an cdv ct) ⟨us, ks.zip ws⟩ = seqItems? (.ref T) >>= k ∧ k (some its.toArray) = pure (ps.zip (gIx ix us ws its))) :
    ∃ its : List Value, KBn K fd ps n ks (fun us ws => gIx ix us ws its) (fun vs zs => gIx ix vs zs dvs) := by
  obtain ⟨its, h⟩ := F.kbindsD n ks (fun vs ds zs => gIx ix vs zs ds) hd (fun r1 r2 r3 => gIx_rel r1 r3 r2 ix) h
  exact ⟨its, h⟩
/-- .. where all are written, though there are defaults: they are never looked at -/
theorem kbnA (F : FunD K x qual params body scope dvs [] f fd) (n : Nat) (ks : List Str) (ix : List Pl)
    (h : ∀ (dV kV doc pm : Value) (an : Option Addr) (cdv ct : Value) (us ws : List Value), us.length = n → ws.length = ks.length → bindArgs (PySem.W.fnOf x qual params body scope dV kV doc pm an cdv ct) ⟨us, ks.zip ws⟩ = pure (ps.zip (gIx ix us ws []))) :
    KBn K fd ps n ks (fun us ws => gIx ix us ws []) (fun vs zs => gIx ix vs zs []) := by
  obtain ⟨oc, od, dV, kV, doc, pm, an, cdv, ct, osl, rfl, lk, hcd, hD, _⟩ := F.ex
  exact ⟨fun s us ws X l1 l2 => .of_eq (h dV kV doc pm an cdv ct us ws l1 l2), fun r1 r2 => gIx_rel r1 r2 .nil ix⟩
theorem bindA (F : FunD K x qual params body scope dvs [] f fd)
    (h : ∀ (dV kV doc pm : Value) (an : Option Addr) (cdv ct : Value) (us : List Value), us.length = ps.length → bindArgs (PySem.W.fnOf x qual params body scope dV kV doc pm an cdv ct) ⟨us, []⟩ = pure (ps.zip us)) : Binds K fd ps [] := by
  obtain ⟨oc, od, dV, kV, doc, pm, an, cdv, ct, osl, rfl, lk, hcd, hD, _⟩ := F.ex
  exact .all (h dV kV doc pm an cdv ct)
theorem bind0 (F : FunD K x qual params body scope [] [] f fd)
    (h : ∀ (kV doc pm : Value) (an : Option Addr) (cdv ct : Value) (us : List Value), us.length = ps.length → bindArgs (PySem.W.fnOf x qual params body scope .none kV doc pm an cdv ct) ⟨us, []⟩ = pure (ps.zip us)) : Binds K fd ps [] := by
  obtain ⟨oc, od, dV, kV, doc, pm, an, cdv, ct, osl, rfl, lk, hcd, hD, _⟩ := F.ex
  rcases hD with ⟨_, rfl⟩ | ⟨e, _⟩
  · exact .all (h kV doc pm an cdv ct)
  · exact absurd rfl e
theorem bindD (F : FunD K x qual params body scope dvs [] f fd) (hd : dvs ≠ [])
    (h : ∀ (T : Addr) (kV doc pm : Value) (an : Option Addr) (cdv ct : Value) (us its : List Value), us.length = ps.length → its.length = dvs.length →
      ∃ k, bindArgs (PySem.W.fnOf x qual params body scope (.ref T) kV doc pm an cdv ct) ⟨us, []⟩ = seqItems? (.ref T) >>= k ∧ k (some its.toArray) = pure (ps.zip us)) : Binds K fd ps [] := by
  obtain ⟨ds, hv, hb⟩ := F.binds1 (ps := ps) ps.length dvs.length hd (by omega) (fun T kV doc pm an cdv ct us its l1 l2 => by
    obtain ⟨k, e1, e2⟩ := h T kV doc pm an cdv ct us its l1 l2
    exact ⟨k, e1, by rw [e2, ← l2, List.drop_length, List.append_nil]⟩)
  rw [List.drop_length] at hv
  cases hv
  exact hb
theorem hu_r {A : Around} {k j : Nat} (hr : Room k A) (hj : j ≤ 200 := by decide) : A.units + j < cLine := by have := hr.un; omega
/-- a def as the head tells it -/
theorem funD0 {st : Stmt} {oc : Value} {od an : Option Addr} {osl : Array (Option Value)} {kV doc pm cdv ct : Value} (l : K.lookup f = some ⟨oc, od, .func (PySem.W.fnOf x qual (defArgs st) (defBody st) (defScope st) .none kV doc pm an cdv ct), osl⟩)
    (c : PySem.W.codeIn K cdv qual = true) (k : PySem.W.keepIn K (.ref f) = true) : FunD K x qual (defArgs st) (defBody st) (defScope st) [] [] f (PySem.W.fnOf x qual (defArgs st) (defBody st) (defScope st) .none kV doc pm an cdv ct) :=
  ⟨⟨oc, od, .none, kV, doc, pm, an, cdv, ct, osl, rfl, l, c, .inl ⟨rfl, rfl⟩, .inl rfl⟩, k⟩
theorem funDd {st : Stmt} {oc : Value} {od an : Option Addr} {osl : Array (Option Value)} {kV doc pm cdv ct : Value} {T : Addr} {o : Obj} {its : List Value} {n : Nat} (l : K.lookup f = some ⟨oc, od, .func (PySem.W.fnOf x qual (defArgs st) (defBody st) (defScope st) (.ref T) kV doc pm an cdv ct), osl⟩)
    (c : PySem.W.codeIn K cdv qual = true) (k : PySem.W.keepIn K (.ref f) = true) (lT : K.lookup T = some o) (oT : o.data = .seq its.toArray n) (hv : Vals dvs its) (hd : dvs ≠ []) :
    FunD K x qual (defArgs st) (defBody st) (defScope st) dvs [] f (PySem.W.fnOf x qual (defArgs st) (defBody st) (defScope st) (.ref T) kV doc pm an cdv ct) :=
  ⟨⟨oc, od, .ref T, kV, doc, pm, an, cdv, ct, osl, rfl, l, c, .inr ⟨hd, T, o, its, n, rfl, lT, oT, hv⟩, .inl rfl⟩, k⟩
end
/-- the law's promise from its function: at every script it gives True -/
theorem law_sp {K : PySem.W.Frag} {cm : Cm} {F : Fs} {H : Hp} {a : Addr} {ns : List Int} (hT : ∀ b ps, H b ≠ some (.tbl ps)) (ht : cm.tb = []) (h : SqL K H a (ns.map V.int)) (hF : F none [.scr ns] = .ok (.bl true) none) : spF K cm 1 F [.ref a] H (fun v _ => v = .bl true) fun _ _ _ => False := by
  refine ⟨rfl, H, none, none, [.scr ns], ⟨Ex.refl _, hT, fun p hp => by rw [ht] at hp; cases hp⟩, .pure (.cons (.scr h) .nil), ?_⟩
  rw [hF]
  intro G' H' v _ _ _ _ y
  cases y; rfl
end Vs

set_option Elab.async false
set_option linter.all false
set_option maxRecDepth 100000
set_option maxHeartbeats 4000000
/-! VsX: own exceptions: `super().__init__(text)` of a class over ValueError, the fields behind it. -/
namespace Vs
open PySem PySem.Spec PyProof.Rows L2 Evl
/-- the names of a method that says super() -/
structure SupScope (N P : List Str) (sc : Scope) : Prop where
  kind : sc.kind = .function
  co : sc.isCoroutine = false
  gen : sc.isGenerator = false
  nd : N.Nodup
  pre : N.take P.length = P
  par : ∀ x ∈ P, sc.names.lookup x = some .local
  nocell : ∀ y ∈ sc.names, y.2 ≠ .cell
  free : ∀ y ∈ sc.names, y.2 = .free → y.1 = ("__class__" : Str)
  sup : sc.names.lookup ("super" : Str) = some .globalImplicit
  cls : sc.names.lookup ("__class__" : Str) = some .free
def supCx (P : Program) (w : World) (K : PySem.W.Frag) (mg : Str → Option Value) (base : Heap) (N : List Str) (qual : Str) (scope : Scope) (f : Addr) (cd : Value) (cc : Addr) (A : Around) (outer : List PySem.Env) (s : Shared) (H : Hp) (E : XK) : Cx where
  prog := P
  w := w
  K := K
  mg := mg
  base := base
  A := A.deeper (PySem.W.ksEnv qual scope s.heap.objs.size f cd cc)
  N := N
  s_0 := s
  H_0 := H
  env := PySem.W.ksEnv qual scope s.heap.objs.size f cd cc
  outer := outer
  stack := PySem.W.ksEnv qual scope s.heap.objs.size f cd cc :: outer
  ex := []
  calm := true
  fn := fun _ => false
  pn := []
  xe := fun e s' => wpAny (model P w) (A.deeper (PySem.W.ksEnv qual scope s.heap.objs.size f cd cc)) (leaving (PySem.W.ksEnv qual scope s.heap.objs.size f cd cc) e) (fun _ s'' => L2.CX P w outer H s E e s'') (fun e' s'' => L2.CX P w outer H s E e' s'') s'
theorem lookup_of_mem {β : Type} : ∀ {l : List (Str × β)} {x : Str} {u : β}, (l.map (·.1)).Nodup → (x, u) ∈ l → l.lookup x = some u
  | [], _, _, _, h => by cases h
  | (y, v) :: l, x, u, hn, h => by
    rw [List.map_cons, List.nodup_cons] at hn
    rcases List.mem_cons.mp h with e | h
    · cases e; simp [List.lookup]
    · have hne : x ≠ y := fun e => hn.1 (by rw [← e]; exact List.mem_map_of_mem (f := (·.1)) h)
      have e : (x == y) = false := by simpa using hne
      simp only [List.lookup, e]
      exact lookup_of_mem hn.2 h
theorem zip_look {ps : List Str} {us : List Value} (hn : ps.Nodup) (hl : us.length = ps.length) {i : Nat} {x : Str} {u : Value} (h1 : ps[i]? = some x) (h2 : us[i]? = some u) : (ps.zip us).reverse.lookup x = some u := by
  refine lookup_of_mem ?_ ?_
  · rw [List.map_reverse, List.map_fst_zip (by omega)]
    exact List.pairwise_reverse.mpr (List.Pairwise.imp (fun h => Ne.symm h) hn)
  · rw [List.mem_reverse]
    refine List.mem_of_getElem? (i := i) ?_
    rw [List.getElem?_zip_eq_some]
    exact ⟨h1, h2⟩
section
variable {P : Program} {w : World} {K : PySem.W.Frag} {mg : Str → Option Value} {base : Heap} {N ps : List Str} {qual : Str} {scope : Scope} {f cc D : Addr} {cd : Value} {A : Around} {outer : List PySem.Env} {s : Shared} {H : Hp} {E : XK} {us : List Value} {vs : List V}
theorem sup_start {cl : Value} {cld : Option Addr} {csl : Array (Option Value)} {h₀ : Heap} {tk : Nat} (S : SupScope N ps scope) (hd : A.handled = none) (e0 : Env0 P w K mg base A outer s H) (hl : vs.length = ps.length) (r : Vals vs us)
    (hc : K.lookup cc = some ⟨cl, cld, .cell (some (.ref D)), csl⟩) (hns : h₀.Ns s.heap.objs.size fun x => (ps.zip us).reverse.lookup x) (k : ∀ b o, s.heap.get? b = some o → h₀.get? b = some o) :
    Inv (supCx P w K mg base N qual scope f cd cc A outer s H E) [] (L2.start N vs) H { s with heap := h₀, toks := tk } := by
  have hpl : ps.length ≤ N.length := by have := congrArg List.length S.pre; rw [List.length_take] at this; omega
  have noA : ∀ b : Addr, b ∉ (supCx P w K mg base N qual scope f cd cc A outer s H E).ex := fun b z => absurd (show b ∈ ([] : List Addr) from z) (by simp)
  have hcb : base.get? cc = some ⟨cl, cld, .cell (some (.ref D)), csl⟩ := e0.mod.kin _ _ hc
  have hcs := e0.bs _ _ hcb
  have cm : ∀ {y : Str} {c : Addr}, ([("__class__", cc)] : List (Str × Addr)).lookup y = some c → y = "__class__" ∧ c = cc := fun {y c} e => by
    have := PySem.mem_of_lookup e
    simp only [List.mem_cons, List.not_mem_nil, or_false, Prod.mk.injEq] at this
    exact this
  have hpn : ps.Nodup := by
    have := S.nd
    rw [← List.take_append_drop ps.length N, S.pre] at this
    exact (List.nodup_append.mp this).1
  refine ⟨⟨e0.mod, S.kind, rfl, rfl, Nat.le_refl _, fun y z c h1 h2 => ?_, fun y hy => ?_, fun y c h _ => ?_, fun _ => hd, Around.frames_deeper e0.frames, .inr ⟨rfl, rfl⟩, fun b z => absurd z (noA b), e0.bs, e0.bsz, fun b _ _ => noA b, fun b z => absurd z (noA b), e0.funs, e0.frf⟩,
    rfl, e0.bare, Un.kept k, ⟨_, hns, fun i y v h1 h2 h3 => ?_⟩, fun y c h => ?_, e0.hok.fresh (Nat.le_refl _), fun y c h => ?_, fun p hp => absurd (show p ∈ ([] : List (Addr × Obj)) from hp) (by simp), e0.hok.kept k, ?_⟩
  · rw [(cm h1).1, (cm h2).1]
  · have hy : scope.names.lookup y = some .cell ∨ scope.names.lookup y = some .free := hy
    rcases hy with hy | hy
    · exact absurd rfl (S.nocell _ (PySem.mem_of_lookup hy))
    · have := S.free _ (PySem.mem_of_lookup hy) rfl
      exact ⟨cc, by rw [show y = "__class__" from this]; rfl⟩
  · have h : false = true := h
    cases h
  · have hi : i < vs.length := by
      unfold L2.start at h2
      by_cases hi : i < vs.length
      · exact hi
      · rw [List.getElem?_append_right (by simpa using hi)] at h2
        rw [List.getElem?_replicate] at h2
        split at h2 <;> cases h2
    have ha : vs[i]? = some v := by
      unfold L2.start at h2
      rw [List.getElem?_append_left (by simpa using hi), List.getElem?_map] at h2
      cases e : vs[i]? with
      | none => rw [e] at h2; cases h2
      | some a => rw [e] at h2; cases h2; rfl
    obtain ⟨u, hu, rv⟩ := r.get ha
    have hp : ps[i]? = some y := by
      rw [← S.pre, List.getElem?_take_of_lt (by omega)]; exact h1
    exact ⟨u, rv, .inl ⟨S.par _ (List.mem_of_getElem? hp), zip_look hpn (by rw [← r.length, hl]) hp hu⟩⟩
  · rw [(cm h).2]
    exact ⟨_, _, k _ _ hcs.1, rfl⟩
  · rw [(cm h).2]; exact hcs.2
  · show (L2.start N vs).length = N.length
    unfold L2.start
    simp only [List.length_append, List.length_map, List.length_replicate]
    omega
end
section
open PySem.W PySem.Calls
variable {prog : Program} {w : World} {A : Around} {E : Value → Shared → Prop} {h : Heap} {g : Array GenState} {d : Drawn} {t : Nat} {os : OsState}
variable {nm q : Str} {C N : Addr} {bs bm : List Value} {hdct : Bool} {sn : List Str} {sub : List Value} {ab : Bool} {col : Option Bool} {dd : Option Addr} {k0 k1 k2 k3 k5 : Option Value}
/-- the bound ValueError.__init__, called -/
theorem call_bwV {u e t0 : Addr} {dv : Option Addr} {rest : List Value} {Q : Value → Shared → Prop}
    (hC : h.get? C = some (excClassObj nm q C N bs bm hdct sn sub ab col dd k0 k1 k2 k3 k5 "ValueError.__new__")) (he : h.get? e = some ({ cls := .ref C, dict := dv, data := .fields #[.ref t0, .none, .none, .none, .bool false, .none] } : Obj)) (hu : h.get? u = some (kxs_mw "ValueError.__init__" e)) (hrest : rest.length ≤ sizeLine)
    (hq : ∀ h' t1, (∀ b o, b ≠ e → h.get? b = some o → h'.get? b = some o) → h'.get? e = some ({ cls := .ref C, dict := dv, data := .fields #[.ref t1, .none, .none, .none, .bool false, .none] } : Obj) → Q .none ⟨h', g, d, t, os⟩) :
    wpAny (model prog w) A (call (.ref u) rest) Q E ⟨h, g, d, t, os⟩ := by
  refine wpAny_call (codeAny_of_tree ?_)
  show wpAny _ A.in1 (callAny (.ref u) ⟨rest, []⟩) _ _ _
  simp only [callAny]
  refine wpAny_bind (wpAny_load hu ?_)
  simp only [kxs_mw, show (Value.type "method-wrapper" == Value.type "method" || Value.type "method-wrapper" == Value.type "builtin_function_or_method" || Value.type "method-wrapper" == Value.type "method-wrapper") = true by decide, if_true]
  refine KFB.if_so (by decide) ?_
  refine wpAny_bind (PySem.ESX.check_bound F.excBase_ValueError hC he rfl ?_)
  refine wpAny_bind (wpAny_pure (wpAny_pure ?_))
  refine ⟨Code.quiet_builtin _ (by decide +kernel), codeAny_builtin F.excBase_ValueError.initEntry ?_⟩
  rw [Around.under_plainId F.excBase_ValueError.init.plain _]
  wp_walk
  refine hq _ h.objs.size (fun b o hb ho => ?_) ?_
  · rw [Heap.get?_update_other _ _ (Ne.symm hb)]
    exact Heap.get?_push_of_some _ ho
  · rw [Heap.get?_update_self _ (Heap.get?_push_of_some _ he) rfl]
    rfl
end
/-- what the written part says of a method of D that says super().__init__, C the object's class -/
structure SupF (P : Program) (K : PySem.W.Frag) (mg : Str → Option Value) (C D f cda cc : Addr) (scope : Scope) (fd : FuncData) (me : Str) : Prop where
  fn : ∃ oc od osl, K.lookup f = some ⟨oc, od, .func fd, osl⟩
  par : ∃ ar : Arg, (fd.params.posonlyargs ++ fd.params.args).head? = some ar ∧ ar.arg = me
  code : ∃ ccl cdd vs ccs file tf, K.lookup cda = some ⟨ccl, cdd, .fields vs, ccs⟩ ∧ vs[2]? = some (.str file tf) ∧ ((P.main.file : Str) == file) = true
  cell : ∃ cl cld csl, K.lookup cc = some ⟨cl, cld, .cell (some (.ref D)), csl⟩
  cls : ∃ cdD, PySem.W.clsIn K D = some cdD
  mro : PySem.W.mroIn K C (.ref D) = some true
  top : (P.main.scope.names.lookup ("super" : Str)).isSome = false
  glob : mg "super" = none
  opq : PySem.W.nsIn K cStatics "thirdparty.any" = some none
section
open PySem.W PySem.Calls
variable {P : Program} {w : World} {K : PySem.W.Frag} {mg : Str → Option Value} {base : Heap} {N ps : List Str} {qual : Str} {scope : Scope} {f cc cda C D a : Addr} {A : Around} {outer : List PySem.Env} {s0 s : Shared} {H0 H : Hp} {E0 : XK} {E : Value → Shared → Prop} {σ : L2.St} {pins : List (Addr × Obj)} {fd : FuncData} {me : Str} {body : List Stmt}
/-- super() itself: a super object of D and the object -/
theorem sup_base {Q : Value → Shared → Prop} {p0 p1 : Pos} {attr : Str} {whole : Sem Value} {oa : Obj} (F : SupF P K mg C D f cda cc scope fd me) (S : SupScope N ps scope) (hself : scope.names.lookup me = some .local) (hi : N[0]? = some me) (hat : (attr == ("__class__" : Str)) = false)
    (I : Inv (supCx P w K mg base N qual scope f (.ref cda) cc A outer s0 H0 E0) pins σ H s) (hσ : σ[0]? = some (some (.ref a))) (ha : s.heap.get? a = some oa) (hac : oa.cls = .ref C) (hnc : ∀ c, oa.data ≠ .cls c)
    (hq : ∀ so h', h'.get? so = some (ks_superObj D a C) → (∀ y o, s.heap.get? y = some o → h'.get? y = some o) → Q (.ref so) { s with heap := h' }) :
    _root_.PySem.wpAt (model P w) (A.deeper (ksEnv qual scope s0.heap.objs.size f (.ref cda) cc)) (.func body (ksEnv qual scope s0.heap.objs.size f (.ref cda) cc)) (attributeBase (.Call (.Name "super" p0) [] [] p1) attr (ksEnv qual scope s0.heap.objs.size f (.ref cda) cc) whole) Q E s := by
  obtain ⟨oc, od, osl, hf⟩ := F.fn
  obtain ⟨ar, hp, har⟩ := F.par
  obtain ⟨ccl, cdd, vs, ccs, file, tf, hcode, hvs, hfile⟩ := F.code
  obtain ⟨cl, cld, csl, hcell⟩ := F.cell
  obtain ⟨cdD, hD⟩ := F.cls
  have X : K.In s.heap := I.kIn
  obtain ⟨mb, hb1, hb2⟩ := I.mod.blt
  obtain ⟨m, hns, hl⟩ := I.loc
  have hsrc : scope.names.lookup ar.arg = some .local := by rw [har]; exact hself
  obtain ⟨u, ru, lu⟩ := hl 0 me _ hi hσ (.inl hself)
  cases ru
  have hm : m me = some (.ref a) := by
    rcases lu with ⟨_, z⟩ | ⟨z, _⟩
    · exact z
    · have z : scope.names.lookup me = some .cell ∨ scope.names.lookup me = some .free := z
      rw [hself] at z
      rcases z with z | z <;> cases z
  have hm : m ar.arg = some (.ref a) := by rw [har]; exact hm
  obtain ⟨oD, hD1, hD2⟩ : ∃ oD, s.heap.get? D = some oD ∧ oD.data = .cls cdD := by
    unfold clsIn at hD
    split at hD
    · rename_i c d cd' sl ho
      cases hD
      exact ⟨_, X _ _ ho, rfl⟩
    · cases hD
  have bk := I.bk
  have gl := I.mod.glob.keeps bk
  have bl := hb1.keeps bk
  have bv := (hb2 "super" (by decide)).trans (show bootBuiltins "super" = some (.type "super") by decide +kernel)
  obtain ⟨hh, g, d, t, os⟩ := s
  refine ks_wpAt_super_base (env := ksEnv qual scope s0.heap.objs.size f (.ref cda) cc) S.sup S.cls hat rfl (X _ _ hf) rfl hp rfl (X _ _ hcode) rfl hvs hfile F.top ?_
  refine ks_loadName_global S.kind S.sup (Calls.loadGlobal_builtin (env := ksEnv qual scope s0.heap.objs.size f (.ref cda) cc) gl F.glob bl bv ⟨rfl, ?_⟩)
  refine wpAny_loadName_free S.kind S.cls rfl ⟨_, X _ _ hcell, rfl⟩ ?_
  refine wpAny_loadName_local S.kind hsrc hns hm ?_
  refine ks_wpAny_isType_cls hD1 hD2 ⟨rfl, ?_⟩
  refine ks_wpAny_call_super hD1 hD2 ha hac hnc (looks_mroIn X F.mro) (fun h' e k => ?_)
  exact hq _ _ e k
/-- super().__init__(e) of an exception that is being made -/
theorem sup_init {x : Str} {kd : Nat} {p0 p1 p2 p3 pos : Pos} {pl : Sem Bool} (F : SupF P K mg C D f cda cc scope fd me) (S : SupScope N ps scope) (hself : scope.names.lookup me = some .local) (hi : N[0]? = some me) (T : OexC K C)
    (hm : ks_superIn K C D "__init__" = some (some (.builtin "ValueError.__init__"))) (hB : subIn K (.ref C) (.type "ValueError") = some true)
    (I : Inv (supCx P w K mg base N qual scope f (.ref cda) cc A outer s0 H0 E0) pins σ H s) (hσ : σ[0]? = some (some (.ref a))) (ha : H a = some (exo a C none))
    (hev : eval (.Call (.Attribute (.Call (.Name "super" p0) [] [] p1) "__init__" p2) [.Constant (.str x) kd p3] [] pos) (ksEnv qual scope s0.heap.objs.size f (.ref cda) cc) = (do
      let ov ← attributeBase (.Call (.Name "super" p0) [] [] p1) "__init__" (ksEnv qual scope s0.heap.objs.size f (.ref cda) cc) (eval (.Call (.Name "super" p0) [] [] p1) (ksEnv qual scope s0.heap.objs.size f (.ref cda) cc))
      standAt p2.atName
      let (f', first) ← holding [ov] (getMethod ov "__init__" pl)
      callWith pos f' first (backTo pos (starEach [.Constant (.str x) kd p3] (ksEnv qual scope s0.heap.objs.size f (.ref cda) cc))) [])) :
    _root_.PySem.wpAt (model P w) (A.deeper (ksEnv qual scope s0.heap.objs.size f (.ref cda) cc)) (.func body (ksEnv qual scope s0.heap.objs.size f (.ref cda) cc)) (eval (.Call (.Attribute (.Call (.Name "super" p0) [] [] p1) "__init__" p2) [.Constant (.str x) kd p3] [] pos) (ksEnv qual scope s0.heap.objs.size f (.ref cda) cc))
      (fun _ s' => Inv (supCx P w K mg base N qual scope f (.ref cda) cc A outer s0 H0 E0) pins σ H s') (supCx P w K mg base N qual scope f (.ref cda) cc A outer s0 H0 E0).xe s := by
  obtain ⟨t1, ho⟩ := exo_at I.hok ha
  refine ks_wpAt_MethodCall (he := hev) ?_
  refine sup_base F S hself hi (by decide) I hσ ho rfl (fun c z => by cases z) fun so h' hso k => ?_
  have I1 : Inv (supCx P w K mg base N qual scope f (.ref cda) cc A outer s0 H0 E0) pins σ H { s with heap := h' } := I.kept k
  obtain ⟨nm, q, N', bs, bm, sn, sub, ab, col, dd, k0, k1, k2, k3, k5, hC, hbm⟩ := T.cls
  have X1 : K.In h' := I1.kIn
  have ho1 := k _ _ ho
  have IA : InstAt h' a { cls := .ref C, dict := none, data := .fields #[.ref t1, .none, .none, .none, .bool false, .none] } C none := ⟨ho1, rfl, rfl, trivial⟩
  cases hc : clsIn K C with
  | none => unfold ks_superIn at hm; rw [hc] at hm; cases hm
  | some cd =>
    unfold ks_superIn at hm
    rw [hc] at hm
    refine kxs_getMethod (h := h') kxs_ValueError hso (looks_opaque X1 F.opq) (l₀ := cd.mro) (fun A Q E s k q => wpAny_bind ((looks_clsIn X1 hc) A _ E s k (wpAny_pure q))) rfl X1 hm (IA.type.andThen (looks_subIn X1 hB)) (ks_ne X1 IA hc) (by decide) ?_
    have I2 : Inv (supCx P w K mg base N qual scope f (.ref cda) cc A outer s0 H0 E0) pins σ H { s with heap := h'.push (kxs_mw "ValueError.__init__" a), toks := s.toks + 1 } := I.kept fun b o e => Heap.get?_push_of_some _ (k b o e)
    have hu : (h'.push (kxs_mw "ValueError.__init__" a)).get? h'.objs.size = some (kxs_mw "ValueError.__init__" a) := Heap.get?_push_size _ rfl
    have hn : H h'.objs.size = none := I1.hok.fresh (Nat.le_refl _)
    have nfr : h'.objs.size ∉ frs (supCx P w K mg base N qual scope f (.ref cda) cc A outer s0 H0 E0).stack := fun z => by
      rcases List.mem_cons.mp (I1.stkSub _ z) with e | e
      · have h1 := I1.lt
        rw [← e] at h1
        exact Nat.lt_irrefl _ h1
      · exact I1.nofs (Nat.le_refl _) e
    refine kxs_callWith (i := "ValueError.__init__") (x := a) rfl (evalArgs_plain ?_)
    show wpAny _ _ (spliced ((false, eval (.Constant (.str x) kd p3) (ksEnv qual scope s0.heap.objs.size f (.ref cda) cc)) :: backTo pos (starEach [] (ksEnv qual scope s0.heap.objs.size f (.ref cda) cc)))) _ _ _
    refine Calls.spliced_cons (Calls.Constant_str (Calls.spliced_nil ⟨hu, ?_⟩))
    refine call_bwV (X1.keeps (fun b o e => Heap.get?_push_of_some _ e) _ _ hC) (Heap.get?_push_of_some _ ho1) hu (by show 1 ≤ sizeLine; decide) fun h3 t3 k3 h3a => ?_
    have J := I2.write (t' := s.toks + 1 + 1) (x := a) (e := a) (o := exo a C none) (by rw [ha]; exact True.intro) (.inl rfl) k3 ⟨_, h3a⟩ (exo_ok h3a)
    have eu : upd H a (exo a C none) = H := by
      funext b
      by_cases hb : b = a
      · rw [hb, upd_same, ha]
      · rw [upd_ne hb]
    rw [eu] at J
    exact J
end
section
open PySem.W PySem.Calls
variable {P : Program} {w : World} {K : PySem.W.Frag} {mg : Str → Option Value} {base : Heap} {N ps : List Str} {name qual : Str} {scope : Scope} {f cc cda C D : Addr} {params : Arguments} {dV kV doc pm ct : Value} {an : Option Addr} {me : Str} {rest : List Stmt} {k : Nat} {sp : Sp}
/-- an exception's __init__ that says super().__init__(text) first -/
theorem sup_fn {x : Str} {kd : Nat} {p0 p1 p2 p3 p4 pos : Pos} {body : List Stmt} {pl : Sem Bool}
    (F : SupF P K mg C D f cda cc scope (ksFn name qual params body scope dV kV doc pm an (.ref cda) ct cc) me) (hcd : codeIn K (.ref cda) qual = true) (S : SupScope N ps scope) (hself : scope.names.lookup me = some .local) (hi : N[0]? = some me) (T : OexC K C)
    (hm : ks_superIn K C D "__init__" = some (some (.builtin "ValueError.__init__"))) (hB : subIn K (.ref C) (.type "ValueError") = some true)
    (hbd : body = .Expr (.Call (.Attribute (.Call (.Name "super" p0) [] [] p1) "__init__" p2) [.Constant (.str x) kd p3] [] pos) p4 :: rest)
    (hev : ∀ env : PySem.Env, eval (.Call (.Attribute (.Call (.Name "super" p0) [] [] p1) "__init__" p2) [.Constant (.str x) kd p3] [] pos) env = (do
      let ov ← attributeBase (.Call (.Name "super" p0) [] [] p1) "__init__" env (eval (.Call (.Name "super" p0) [] [] p1) env)
      standAt p2.atName
      let (f', first) ← holding [ov] (getMethod ov "__init__" (pl))
      callWith pos f' first (backTo pos (starEach [.Constant (.str x) kd p3] env)) []))
    (len : ∀ vs H Q E, sp vs H Q E → vs.length = ps.length)
    (hint : ∀ L, interactive (ksEnv qual scope L f (.ref cda) cc) = false)
    (hbody : ∀ (A : Around) (outer : List PySem.Env) (s : Shared) (H : Hp) (vs : List V) (Q : VK) (E : XK), Room k (A.deeper (ksEnv qual scope s.heap.objs.size f (.ref cda) cc)) → sp vs H Q E →
      ∃ a ws t, vs = .ref a :: ws ∧ H a = some (exo a C none) ∧ PSs (supCx P w K mg base N qual scope f (.ref cda) cc A outer s H E) rest t ∧ t { nx := fun _ H' => Q .non H', rt := Q } (L2.start N vs) H) :
    FnOk P w K mg base (L2.CX P w) (k + 1) f (ksFn name qual params body scope dV kV doc pm an (.ref cda) ct cc) ps sp := by
  refine ⟨len, fun A outer s H args us vs Q E hr e0 hb r hsp => ?_⟩
  have hl := len _ _ _ _ hsp
  have KX : K.In s.heap := e0.mod.kin.keeps fun b o e => (e0.bs b o e).1
  have lim : s.heap.NoLimit := e0.mod.nolimit.keeps fun b o e => (e0.bs b o e).1
  obtain ⟨oc, od, osl, lk⟩ := F.fn
  obtain ⟨cl, cld, csl, hcell⟩ := F.cell
  refine ks_codeAny_call_defAt hr.depth (KX _ _ lk) rfl lim (codeRec_of KX hcd) rfl hb S.nocell (fun y hy => S.par _ (List.of_mem_zip hy).1) (fun h₀ hns kp => ?_) S.co S.gen S.kind
  have I := sup_start (N := N) (qual := qual) (f := f) (cd := .ref cda) (tk := s.toks + (ps.zip us).length) (E := E) S hr.hd e0 hl r hcell hns kp
  obtain ⟨a, ws, t, rfl, ha, ht, hq⟩ := hbody A outer s H vs Q E (hr.deeper _) hsp
  have hp0 : 0 < N.length := by
    have := (List.getElem?_eq_some_iff.mp hi).1
    exact this
  subst hbd
  refine ks_wpAt_execs_cons (ks_wpAt_Expr_any (ks_wpAt_mono (sup_init (body := _) F S hself hi T hm hB I (by unfold L2.start; simp) ha (hev _)) (fun v s' J => ?_) fun e s' h => h) (hint _) rfl)
  refine wpAt_of_wpAny (wpAny_mono (ht.run [] s' (L2.start N (.ref a :: ws)) H _ J hq) (fun fl s' hs => ?_) fun e s' hs => hs)
  have fin : ∀ {σ' : L2.St} {H' : Hp} {v : V} {u : Value} {s' : Shared}, Inv (supCx P w K mg base N qual scope f (.ref cda) cc A outer s H E) [] σ' H' s' → RelV v u → Q v H' → L2.CE outer P w H s Q u s' :=
    fun {σ' H' v u s'} J rv q => ⟨v, H', J.os, J.bare, J.base, J.hok, rv, q⟩
  cases fl with
  | ret u =>
    obtain ⟨v, σ', H', J, rv, q⟩ := hs
    exact fin J rv q
  | next =>
    obtain ⟨σ', H', J, q⟩ := hs
    exact fin (v := V.non) (u := Value.none) J rfl q
  | brk =>
    obtain ⟨_, _, _, q⟩ := hs
    exact False.elim q
  | cont =>
    obtain ⟨_, _, _, q⟩ := hs
    exact False.elim q
end
end Vs

set_option Elab.async false
set_option linter.all false
set_option maxRecDepth 100000
set_option maxHeartbeats 4000000
/-! VsX2: own exceptions made and raised. -/
namespace Vs
open PySem PySem.Spec PyProof.Rows L2 Evl
/-- what an exception's __init__ does: it lays down the fields ns -/
def spInit (C : Addr) (ns : List Str) : Sp := fun vs H Q _ => ∃ a ws, vs = .ref a :: ws ∧ ws.length = ns.length ∧ H a = some (exo a C none) ∧ ∀ d, H d = none → d ≠ a → Q .non (upd (upd H d (exd d (ns.zip ws).reverse)) a (exo a C (some d)))
section
open PySem.W PySem.Calls
variable {P : Program} {w : World} {K : PySem.W.Frag} {mg : Str → Option Value} {base : Heap} {name qual : Str} {scope : Scope} {f cc cda C D : Addr} {params : Arguments} {dV kV doc pm ct : Value} {an : Option Addr} {me p1 p2 f1 f2 : Str} {k : Nat}
theorem exc_init1 {x : Str} {kd : Nat} {q0 q1 q2 q3 q4 q5 q6 q7 q8 pos : Pos} {body : List Stmt} {pl : Sem Bool}
    (F : SupF P K mg C D f cda cc scope (ksFn name qual params body scope dV kV doc pm an (.ref cda) ct cc) me) (hcd : codeIn K (.ref cda) qual = true) (S : SupScope [me, p1] [me, p1] scope) (T : OexC K C)
    (hm : ks_superIn K C D "__init__" = some (some (.builtin "ValueError.__init__"))) (hB : subIn K (.ref C) (.type "ValueError") = some true)
    (hbd : body = [.Expr (.Call (.Attribute (.Call (.Name "super" q0) [] [] q1) "__init__" q2) [.Constant (.str x) kd q3] [] pos) q4, .Assign [.Attribute (.Name me q5) f1 q6] (.Name p1 q7) q8])
    (hev : ∀ env : PySem.Env, eval (.Call (.Attribute (.Call (.Name "super" q0) [] [] q1) "__init__" q2) [.Constant (.str x) kd q3] [] pos) env = (do
      let ov ← attributeBase (.Call (.Name "super" q0) [] [] q1) "__init__" env (eval (.Call (.Name "super" q0) [] [] q1) env)
      standAt q2.atName
      let (f', first) ← holding [ov] (getMethod ov "__init__" (pl))
      callWith pos f' first (backTo pos (starEach [.Constant (.str x) kd q3] env)) []))
    (hint : ∀ L, interactive (ksEnv qual scope L f (.ref cda) cc) = false)
    (hsw : ∀ env : PySem.Env, swapsWith (.Name p1 q7) (some (.Attribute (.Name me q5) f1 q6)) q8.line env = pure false)
    (hno : findIn K (.ref C) f1 = some none) (hd1 : (me == ("__debug__" : Str)) = false) (hd2 : (me == ("__classdict__" : Str)) = false) (hd3 : (p1 == ("__debug__" : Str)) = false) (hd4 : (p1 == ("__classdict__" : Str)) = false) :
    FnOk P w K mg base (L2.CX P w) (k + 1) f (ksFn name qual params body scope dV kV doc pm an (.ref cda) ct cc) [me, p1] (spInit C [f1]) := by
  refine sup_fn F hcd S (S.par _ (by simp)) rfl T hm hB hbd hev (fun vs H Q E h => by obtain ⟨a, ws, rfl, hl, _⟩ := h; simp [hl]) hint fun A outer s H vs Q E hr h => ?_
  obtain ⟨a, ws, rfl, hl, ha, q⟩ := h
  match ws, hl with
  | [y], _ =>
    refine ⟨a, [y], _, rfl, ha, pss_one (ps_ost (pe_var (i := 0) rfl (.inl (S.par _ (by simp))) hd1 hd2) (pe_var (i := 1) rfl (.inl (S.par _ (by simp))) hd3 hd4) (hsw _)), ?_⟩
    exact ⟨_, rfl, _, rfl, a, C, rfl, T, hno, .inl ⟨ha, fun d hd ne => q d hd ne⟩⟩
theorem exc_init2 {x : Str} {kd : Nat} {q0 q1 q2 q3 q4 q5 q6 q7 q8 r5 r6 r7 r8 pos : Pos} {body : List Stmt} {pl : Sem Bool}
    (F : SupF P K mg C D f cda cc scope (ksFn name qual params body scope dV kV doc pm an (.ref cda) ct cc) me) (hcd : codeIn K (.ref cda) qual = true) (S : SupScope [me, p1, p2] [me, p1, p2] scope) (T : OexC K C)
    (hm : ks_superIn K C D "__init__" = some (some (.builtin "ValueError.__init__"))) (hB : subIn K (.ref C) (.type "ValueError") = some true)
    (hbd : body = [.Expr (.Call (.Attribute (.Call (.Name "super" q0) [] [] q1) "__init__" q2) [.Constant (.str x) kd q3] [] pos) q4, .Assign [.Attribute (.Name me q5) f1 q6] (.Name p1 q7) q8, .Assign [.Attribute (.Name me r5) f2 r6] (.Name p2 r7) r8])
    (hev : ∀ env : PySem.Env, eval (.Call (.Attribute (.Call (.Name "super" q0) [] [] q1) "__init__" q2) [.Constant (.str x) kd q3] [] pos) env = (do
      let ov ← attributeBase (.Call (.Name "super" q0) [] [] q1) "__init__" env (eval (.Call (.Name "super" q0) [] [] q1) env)
      standAt q2.atName
      let (f', first) ← holding [ov] (getMethod ov "__init__" (pl))
      callWith pos f' first (backTo pos (starEach [.Constant (.str x) kd q3] env)) []))
    (hint : ∀ L, interactive (ksEnv qual scope L f (.ref cda) cc) = false)
    (hsw : ∀ env : PySem.Env, swapsWith (.Name p1 q7) (some (.Attribute (.Name me q5) f1 q6)) q8.line env = pure false) (hsw2 : ∀ env : PySem.Env, swapsWith (.Name p2 r7) (some (.Attribute (.Name me r5) f2 r6)) r8.line env = pure false)
    (hno : findIn K (.ref C) f1 = some none) (hno2 : findIn K (.ref C) f2 = some none) (hd1 : (me == ("__debug__" : Str)) = false) (hd2 : (me == ("__classdict__" : Str)) = false) (hd3 : (p1 == ("__debug__" : Str)) = false) (hd4 : (p1 == ("__classdict__" : Str)) = false)
    (hd5 : (p2 == ("__debug__" : Str)) = false) (hd6 : (p2 == ("__classdict__" : Str)) = false) :
    FnOk P w K mg base (L2.CX P w) (k + 1) f (ksFn name qual params body scope dV kV doc pm an (.ref cda) ct cc) [me, p1, p2] (spInit C [f1, f2]) := by
  refine sup_fn F hcd S (S.par _ (by simp)) rfl T hm hB hbd hev (fun vs H Q E h => by obtain ⟨a, ws, rfl, hl, _⟩ := h; simp [hl]) hint fun A outer s H vs Q E hr h => ?_
  obtain ⟨a, ws, rfl, hl, ha, q⟩ := h
  match ws, hl with
  | [y, z], _ =>
    refine ⟨a, [y, z], _, rfl, ha, pss_cons (ps_ost (pe_var (i := 0) rfl (.inl (S.par _ (by simp))) hd1 hd2) (pe_var (i := 1) rfl (.inl (S.par _ (by simp))) hd3 hd4) (hsw _))
      (pss_one (ps_ost (pe_var (i := 0) rfl (.inl (S.par _ (by simp))) hd1 hd2) (pe_var (i := 2) rfl (.inl (S.par _ (by simp))) hd5 hd6) (hsw2 _))), ?_⟩
    refine ⟨_, rfl, _, rfl, a, C, rfl, T, hno, .inl ⟨ha, fun d hd ne => ?_⟩⟩
    refine ⟨_, rfl, _, rfl, a, C, rfl, T, hno2, .inr ⟨d, [(f1, y)], upd_same, by rw [upd_ne ne, upd_same], by simp, ?_⟩⟩
    have := q d hd ne
    have e : upd (upd (upd H d (exd d [(f1, y)])) a (exo a C (some d))) d (exd d [(f2, z), (f1, y)]) = upd (upd H d (exd d [(f2, z), (f1, y)])) a (exo a C (some d)) := by
      funext b
      by_cases hb : b = a
      · subst hb; rw [upd_ne (Ne.symm ne), upd_same, upd_same]
      · by_cases hb2 : b = d
        · subst hb2; rw [upd_same, upd_ne hb, upd_same]
        · rw [upd_ne hb2, upd_ne hb, upd_ne hb2, upd_ne hb, upd_ne hb2]
    rw [e]
    exact this
end
section
variable {cm : Cm} {X : Cx} {k : Nat} {C fI : Addr} {fd : FuncData} {ps ns : List Str} {c : Str} {e : Expr} {es : List Expr} {l : M (List D)} {p pos rp : Pos}
/-- what a raise of the own exception c needs -/
structure XcF (X : Cx) (cm : Cm) (k : Nat) (c : Str) (C fI : Addr) (fd : FuncData) (ps ns : List Str) : Prop where
  o : OexC X.K C
  ini : PySem.W.findIn X.K (.ref C) "__init__" = some (some (.ref fI))
  ty : PySem.W.typeIn X.K (.ref fI) = some (.type "function")
  fn : FnOk X.prog X.w X.K X.mg X.base (L2.CX X.prog X.w) k fI fd ps (spInit C ns)
  bd : Binds X.K fd ps []
  mg : X.mg c = some (.ref C)
  cm : cm.x c = some C
  few : ns.length ≤ 900
def sRaise (c : Str) (ns : List Str) (l : M (List D)) : MS := fun env => (l env).toS fun ds env1 => if ds.length = ns.length then .exc ⟨c, (ns.zip ds).reverse⟩ env1 else .no
theorem zip_rps {K : PySem.W.Frag} {G : Hp} : ∀ {ns : List Str} {vs : List V} {ds : List D}, Rps K cm G vs ds → ds.length = ns.length → (ns.zip vs).map (·.1) = (ns.zip ds).map (·.1) ∧ Rps K cm G ((ns.zip vs).map (·.2)) ((ns.zip ds).map (·.2))
  | [], [], [], .nil, _ => ⟨rfl, .nil⟩
  | [], _, d :: ds, _, h => by simp at h
  | n :: ns, _, [], _, h => by simp at h
  | n :: ns, v :: vs, d :: ds, .cons h1 h2, h => by
    obtain ⟨a, b⟩ := zip_rps (ns := ns) h2 (by simpa using h)
    exact ⟨by simp [a], .cons h1 b⟩
theorem cs_raise (T : XcF X cm k c C fI fd ps ns) (hr : Room (k + 1) X.A) (hc : X.calm = true) (hg : Gl X c) (ha : CD cm X (e :: es) l) (hdb : (c == ("__debug__" : Str)) = false := by decide) (he : starEach (e :: es) X.env = (false, eval e X.env) :: starEach es X.env := by rfl)
    (hpl : (backTo pos (starEach es X.env)).any (·.1) = false := by rfl) : CS cm X (.Raise (some (.Call (.Name c p) (e :: es) [] pos)) none rp) (sRaise c ns l) := fun B tk hp =>
  (ps_raise hc tk.tk (pmk_oex T.o T.ini T.ty T.fn hr T.bd .nil (fun _ _ _ _ _ _ _ z => by obtain ⟨_, _, _, _, _, _, _, _, _, _, _, _, z⟩ := z; exact z.elim) hg T.mg (ha B tk) hdb he hpl)).weak fun Dn σ H ⟨G, env, r, q⟩ => by
    refine wantS.bind r q fun ds env1 G1 H1 vs e1 r1 y q1 => ?_
    by_cases hl : ds.length = ns.length
    · rw [if_pos hl] at q1
      have q1 : ∀ G' H' σ' cls dd, Ex G1 G' → Rel X.K cm B G' H' σ' env1 → XRel X.K cm G' H' cls dd ⟨c, (ns.zip ds).reverse⟩ → B.W cls dd σ' H' := q1
      have hv : vs.length = ns.length := y.length.trans hl
      refine ⟨by have := T.few; omega, fun a ha => ?_⟩
      rw [List.append_nil]
      refine ⟨a, vs, rfl, hv, upd_same, fun d hd ne => ⟨rfl, d, (ns.zip vs).reverse, upd_same, by rw [upd_ne ne, upd_same], ?_, ?_⟩⟩
      · rw [upd_ne ne] at hd; exact hd
      · have hd1 : H1 d = none := by rw [upd_ne ne] at hd; exact hd
        have e : upd (del (upd (upd (upd H1 a (exo a C none)) d (exd d (ns.zip vs).reverse)) a (exo a C (some d))) a) d (.xd (ns.zip vs).reverse) = upd H1 d (.xd (ns.zip vs).reverse) := by
          funext b
          by_cases hb : b = d
          · subst hb; rw [upd_same, upd_same]
          · rw [upd_ne hb, upd_ne hb]
            by_cases hb2 : b = a
            · subst hb2; rw [del_same, ha]
            · rw [del_ne hb2, upd_ne hb2, upd_ne hb, upd_ne hb2]
        rw [e]
        obtain ⟨r2, e2⟩ := r1.alloc (o := .xd (ns.zip vs).reverse) hd1
        obtain ⟨z1, z2⟩ := zip_rps y hl
        refine q1 _ _ σ _ _ e2 r2 ⟨C, d, (ns.zip vs).reverse, T.cm, rfl, rfl, upd_same, ?_, ?_⟩
        · rw [List.map_reverse, List.map_reverse, z1]
        · rw [List.map_reverse, List.map_reverse]
          exact (z2.mono e2).reverse
    · rw [if_neg hl] at q1; exact q1.elim
/-! ### try: body, except T as n: suite, the exception told as data from then on -/
theorem adopt {pins : List (Addr × Obj)} {σ : L2.St} {H : Hp} {s s0 : Shared} {a C d : Addr} {oe : Obj} {vs : Array Value} (I0 : Inv X pins σ H s0) (h0 : s0.heap.get? a = none) (I : Inv X pins σ H s) (ha : s.heap.get? a = some oe) (hz : Zc (.ref C) (some d) oe) (hd : oe.data = .fields vs) (na : H a = none) :
    Inv X pins σ (upd H a (XO C d a)) s := by
  have ne : ∀ {b : Addr} {o : Obj}, s0.heap.get? b = some o → b ≠ a := fun {b o} e z => by subst z; rw [h0] at e; cases e
  have nH : ∀ {b : Addr} {u : HO}, H b = some u → b ≠ a := fun {b u} e => ne_of_none e na
  have new : ObjOk X.prog X.w (upd H a (XO C d a)) s.heap a (XO C d a) := ⟨⟨oe, vs, ha, hz, hd⟩, ⟨oe, ha⟩, fun h1 h2 ⟨o, v, q, r⟩ k => ⟨o, v, k o q, r⟩⟩
  refine ⟨I.ok, I.os, I.bare, ⟨I.base.keep, I.base.slot, fun b o e n hx => ?_, I.base.there, fun b xs e => ?_, fun b o u e => ?_, fun b ps e => ?_⟩, I.loc, I.cell, ?_, fun x c e => ?_, fun p hp => ?_, HOk.laidN I.hok (fun _ _ q => q) na new, I.len⟩
  · obtain ⟨o', q⟩ := I0.base.there b o e hx
    rw [upd_ne (ne q)]
    exact I.base.free b o e n hx
  · have q := I.base.tups b xs e
    rw [upd_ne (nH q)]; exact q
  · have q := I.base.frzs b o u e
    rw [upd_ne (nH q)]; exact q
  · obtain ⟨m, q⟩ := I.base.tbls b ps e
    exact ⟨m, by rw [upd_ne (nH q)]; exact q⟩
  · obtain ⟨m, ⟨oL, es, ep, hoL, _⟩, _⟩ := I0.loc
    rw [upd_ne (ne hoL)]; exact I.free
  · obtain ⟨v, o, ho, _⟩ := I0.cell x c e
    rw [upd_ne (ne ho)]; exact I.freeC x c e
  · obtain ⟨e, n, ne1, nf, dd⟩ := I.pin p hp
    obtain ⟨e0, _⟩ := I0.pin p hp
    exact ⟨e, by rw [upd_ne (ne e0)]; exact n, ne1, nf, dd⟩
/-- what the clause 'except x as n' wishes of an exception of the body: slot i is n's; the exception is tracked in the suite -/
def wAd (K : PySem.W.Frag) (c : Value) (i : Nat) (ts : Addr → Addr → Addr → TS) (Wout : WX) (D : Ends) : WX := fun cls d σ H =>
  ∃ b, PySem.W.exmOne K cls c = some b ∧ (b = true → ∃ C dd, cls = .ref C ∧ d = some dd ∧ ∀ a, H a = none → ts a C dd { nx := fun σ' H' => D.nx (σ'.set i none) H', rt := D.rt, bk := fun σ' H' => D.bk (σ'.set i none) H', ct := fun σ' H' => D.ct (σ'.set i none) H' } (σ.set i (some (.ref a))) (upd H a (XO C dd a))) ∧
    (b = false → Wout cls d σ H)
/-- the suite's context: nothing is pinned -/
abbrev suX (X : Cx) (a : Addr) (pn : List (Addr × Obj)) : Cx := { X with A := X.A.mark (some (.ref a)), calm := false, pn := pn, xe := fun _ _ => False }
variable {x n : Str} {cv : Value} {i : Nat} {body suite : List Stmt} {b₀ : Stmt} {np pos' : Pos} {tb : WX → TS} {ts : Addr → Addr → Addr → TS} {Wout : WX}
theorem ps_try_ad (hs : X.stack = X.env :: X.outer) (hf : X.env.frame = some X.env.locals) (hN : X.N.Nodup) (hi : X.N[i]? = some n) (hln : X.env.kindOf n = some .local) (hc : Names X x cv) (tk : Takes X Wout)
    (hb : ∀ (W : WX) (pn : List (Addr × Obj)) (xe : Value → Shared → Prop), Takes (X.tr pn xe) W → PassesOwn (model X.prog X.w) X.A X.env xe → PSs (X.tr pn xe) body (tb W))
    (hsu : ∀ (a C d : Addr) (pn : List (Addr × Obj)), PSs (suX X a pn) (b₀ :: suite) (ts a C d)) :
    PS X (.Try body [.ExceptHandler (some (.Name x np)) (some n) (b₀ :: suite) pos'] [] [] pos) (fun D σ H => tb (wAd X.K cv i ts Wout D) D σ H) := by
  refine ⟨fun pins s σ H D I h => ?_⟩
  have ok := I.ok
  have hfr : X.A.frames = some (X.env :: X.outer) := by rw [ok.frames, hs]
  have hloc : Loc X.env.scope n := .inl hln
  refine wpAny_Try_except ?_
  refine wpAny_mono ((hb (wAd X.K cv i ts Wout D) (X.pn ++ pins) (fun e s₁ => wpAny (model X.prog X.w) X.A (noteFrame e X.env) (fun _ s₂ => wpAny (model X.prog X.w) X.A (setFlight e none) (fun _ s₃ =>
    wpAny (model X.prog X.w) X.A (handleBy e X.env [.ExceptHandler (some (.Name x np)) (some n) (b₀ :: suite) pos']) (SP X pins D) X.xe s₃) X.xe s₂) X.xe s₁) (fun u s' xx => ?_) PassesOwn.looking).run [] s σ H D (I.toTry _) h) (fun f s1 hsp => ?_) (fun e s1 he => he)
  · obtain ⟨a, B, sI, pins', σ', H', cls, d, rfl, J', nb, up, sky, na, os, ag, b, hb1, hyes, hno⟩ := xx
    have J : Inv X pins σ' H' sI := J'.ofTry ok
    have sky' : Sky B (X.env :: X.outer) a (Zc cls d) X.env.locals s'.heap := by rw [← hs]; exact sky
    show wpAny (model X.prog X.w) X.A (noteFrame (.ref a) X.env) _ _ _
    refine Sky.land Zc.steady hfr hf sky' fun h3 fl3 up3 => ?_
    have J3 : Inv X pins σ' H' { s' with heap := h3 } := J.landed nb fl3.1 (up.trans up3) os ag
    obtain ⟨oe3, vs3, he3, hz3, hd3⟩ := fl3.there
    have notFr : ∀ {h : Heap} {o : Obj} {vs : Array Value}, h.FunFrames B (X.env :: X.outer) → h.get? a = some o → o.data = .fields vs → a ∉ frs (X.env :: X.outer) := fun {h o vs} ff e dd hm => by
      obtain ⟨_, o', e', hnf⟩ := ff.mem hm
      rw [e] at e'; cases e'
      exact hnf _ dd
    have nfr := notFr fl3.2.2.1 he3 hd3
    have nL : a ≠ X.env.locals := fun z => nfr (List.mem_filterMap.mpr ⟨X.env, List.mem_cons_self, by rw [hf, z]⟩)
    have nF : a ∉ X.fs := fun hm => by
      obtain ⟨e, he, q⟩ := List.mem_filterMap.mp hm
      exact nfr (List.mem_filterMap.mpr ⟨e, List.mem_cons_of_mem _ he, q⟩)
    have hB : B.get? a = none := fl3.2.1
    have hI : sI.heap.get? a = none := by
      cases q : sI.heap.get? a with
      | none => rfl
      | some o =>
        have := nb a o q (by rw [hs]; exact nfr)
        rw [hB] at this; cases this
    have S3 := J3.suite he3 hd3 na nL nF
    refine wpAny_handleBy_cons (codeAny_handlers_test ?_) (by intro q; cases q)
    have LT : PySem.W.Looks (model X.prog X.w) h3 (typeOf (.ref a)) cls := fun A Q E s k q => wpAny_typeOf_ref (k _ _ he3) (by rw [hz3.1]; exact q)
    have LM := PySem.W.exm_one (M := model X.prog X.w) (J3.kIn) LT hb1
    have test : ∀ {Q : Value → Shared → Prop} {E : Value → Shared → Prop}, Q cv { s' with heap := h3 } → wpAny (model X.prog X.w) (X.A.mark (some (.ref a))) (eval (.Name x np) X.env) Q E { s' with heap := h3 } := fun {Q E} q => by
      obtain ⟨hg, hdbg, hm | ⟨hm, hv, hnn⟩⟩ := hc
      · exact ld_glob (X := X.suite a ((a, oe3) :: (X.pn ++ pins))) S3 hg hm q hdbg
      · exact ld_blt (X := X.suite a ((a, oe3) :: (X.pn ++ pins))) S3 hg hm hv q hnn hdbg
    refine test (LM.here ?_)
    cases b with
    | true =>
      obtain ⟨C, dd, rfl, rfl, hq⟩ := hyes rfl
      refine codeAny_handlers_suite_as ?_
      refine HandSPX.lands_againZ fl3 fun h4 fl4 up4 => ?_
      have J4 : Inv X pins σ' H' { s' with heap := h4 } := J.landed nb fl4.1 ((up.trans up3).trans up4) os ag
      obtain ⟨oe4, vs4, he4, hz4, hd4⟩ := fl4.there
      have J5 := adopt J hI J4 he4 hz4 hd4 na
      have S5 : Inv (suX X a (X.pn ++ pins)) [] σ' (upd H' a (XO C dd a)) { s' with heap := h4 } :=
        ⟨J5.ok.suite a (X.pn ++ pins), J5.os, J5.bare, J5.base, J5.loc, J5.cell, J5.free, J5.freeC, fun p hp => J5.pin p (by simpa using hp), J5.hok, J5.len⟩
      have uns : ∀ {σ6 : L2.St} {H6 : Hp} {s6 : Shared}, Inv (suX X a (X.pn ++ pins)) [] σ6 H6 s6 → Inv X pins σ6 H6 s6 := fun {σ6 H6 s6} S6 =>
        ⟨ok, S6.os, S6.bare, S6.base, S6.loc, S6.cell, S6.free, S6.freeC, fun p hp => S6.pin p (by simpa using hp), S6.hok, S6.len⟩
      refine store_ok (X := suX X a (X.pn ++ pins)) (v := .ref a) S5 hN hi hloc rfl (fun s5 S5 => ?_) (.inr hln)
      refine wpAny_mono ((hsu a C dd (X.pn ++ pins)).run [] s5 _ _ _ S5 (hq a na)) (fun f s6 hsp => ?_) (fun _ _ z => False.elim z)
      have end_ : ∀ {σ6 : L2.St} {H6 : Hp} {Q : Shared → Prop}, Inv (suX X a (X.pn ++ pins)) [] σ6 H6 s6 → (∀ s7, Inv X pins (σ6.set i none) H6 s7 → Q s7) →
          wpAny (model X.prog X.w) X.A (do bindName X.env n .none; unbindBehindTheSuite X.env n pos') (fun _ s7 => Q s7) X.xe s6 := fun {σ6 H6 Q} S6 hq => gone_ok (uns S6) hN hi hln hq
      cases f with
      | next =>
        obtain ⟨σ6, H6, S6, q6⟩ := hsp
        exact end_ S6 fun s7 J7 => ⟨_, _, J7, q6⟩
      | brk =>
        obtain ⟨σ6, H6, S6, q6⟩ := hsp
        exact end_ S6 fun s7 J7 => ⟨_, _, J7, q6⟩
      | cont =>
        obtain ⟨σ6, H6, S6, q6⟩ := hsp
        exact end_ S6 fun s7 J7 => ⟨_, _, J7, q6⟩
      | ret u =>
        obtain ⟨v6, σ6, H6, S6, r6, q6⟩ := hsp
        exact end_ S6 fun s7 J7 => ⟨_, _, _, J7, r6, q6⟩
    | false =>
      show wpAny _ X.A (handleBy (.ref a) X.env []) _ _ _
      refine wpAny_handleBy_nil ?_
      obtain ⟨k1, k2, k3, oe, vs, T, oT, ts', he, hz, hd, h1, hr⟩ := id fl3
      unfold PySem.passOn
      refine wpAny_bind (wpAny_field he hd h1 ?_)
      rw [if_neg (show ¬ ((Value.ref T == Value.none) = true) from by simp)]
      have fin : wpAny (model X.prog X.w) X.A (setFlight (.ref a) X.env.frame) (fun _ s4 => wpAny (model X.prog X.w) X.A (throw (.ref a) : Sem Flow) (SP X pins D) X.xe s4) X.xe { s' with heap := h3 } := by
        rw [hf]
        refine HandSPX.setFlight_upZ fl3 fun h4 hh4 up4 => wpAny_throw (tk _ _ ?_)
        exact ⟨a, B, sI, pins, σ', H', cls, d, rfl, J, nb, (up.trans up3).trans up4, .inr (.inr (by rw [hs]; exact hh4)), na, os, ag, hno rfl⟩
      first
        | exact wpAny_bind (wpAny_pure (wpAny_bind fin))
        | exact wpAny_bind fin
  · cases f with
    | next =>
      obtain ⟨σ', H', J', q⟩ := hsp
      exact wpAny_execs_nil ⟨σ', H', J'.ofTry ok, q⟩
    | brk =>
      obtain ⟨σ', H', J', q⟩ := hsp
      exact ⟨σ', H', J'.ofTry ok, q⟩
    | cont =>
      obtain ⟨σ', H', J', q⟩ := hsp
      exact ⟨σ', H', J'.ofTry ok, q⟩
    | ret u =>
      obtain ⟨v, σ', H', J', r, q⟩ := hsp
      exact ⟨v, σ', H', J'.ofTry ok, r, q⟩
end
end Vs

set_option Elab.async false
set_option linter.all false
set_option maxRecDepth 100000
set_option maxHeartbeats 4000000
/-! VsX3: try by data; fields of held errors and of instances. -/
namespace Vs
open PySem PySem.Spec PyProof.Rows L2 Evl
section
variable {K : PySem.W.Frag} {cm : Cm} {B : Base} {G H : Hp} {σ : L2.St} {env : Vs.Env}
/-- the base with another wish -/
def Base.wish (B : Base) (W : WX) : Base := { B with W := W }
/-- .. and no closure -/
def Base.still (B : Base) : Base := { B with W := fun _ _ _ _ => False, th := fun _ _ _ => False }
/-- no closure in a slot -/
def noTh (env : Vs.Env) : Vs.Env := env.map fun o => match o with
  | some (.th _) => none
  | o => o
theorem Rel.wish {W : WX} (r : Rel K cm B G H σ env) : Rel K cm (B.wish W) G H σ env := ⟨r.ex, r.len, r.sl, r.ap, r.pr, r.ptb, r.nt, r.tb, r.tk, r.ao⟩
theorem Rel.unwish {W : WX} (r : Rel K cm (B.wish W) G H σ env) : Rel K cm B G H σ env := ⟨r.ex, r.len, r.sl, r.ap, r.pr, r.ptb, r.nt, r.tb, r.tk, r.ao⟩
theorem noTh_at {i : Nat} {t : T} (h : (noTh env)[i]? = some (some t)) : env[i]? = some (some t) ∧ ∀ g, t ≠ .th g := by
  unfold noTh at h
  rw [List.getElem?_map] at h
  cases e : env[i]? with
  | none => rw [e] at h; cases h
  | some o =>
    rw [e] at h
    cases o with
    | none => cases h
    | some u => cases u <;> cases h <;> exact ⟨rfl, fun g z => nomatch z⟩
theorem Rel.still (r : Rel K cm B G H σ env) : Rel K cm B.still G H σ (noTh env) :=
  ⟨r.ex, by rw [r.len]; simp [noTh], fun i t e => by
    obtain ⟨e1, ne⟩ := noTh_at e
    obtain ⟨v, ev, tr⟩ := r.sl i t e1
    refine ⟨v, ev, ?_⟩
    cases t with
    | th g => exact (ne g rfl).elim
    | fz d => exact tr
    | ol k ds => exact tr
    | oo c fs => exact tr, fun i j a k ds k' ds' e1 e2 => r.ap i j a k ds k' ds' (noTh_at e1).1 (noTh_at e2).1, r.pr, r.ptb, r.nt, r.tb, r.tk, fun i j c c' fs fs' e1 e2 => r.ao i j c c' fs fs' (noTh_at e1).1 (noTh_at e2).1⟩
theorem Rel.unstill (r : Rel K cm B.still G H σ env) : Rel K cm B G H σ env := ⟨r.ex, r.len, fun i t e => by
    obtain ⟨v, ev, tr⟩ := r.sl i t e
    refine ⟨v, ev, ?_⟩
    cases t with
    | th g => obtain ⟨f, G0, _, z, _⟩ := tr; exact z.elim
    | fz d => exact tr
    | ol k ds => exact tr
    | oo c fs => exact tr, r.ap, r.pr, r.ptb, r.nt, r.tb, r.tk, r.ao⟩
theorem Rel.gone (r : Rel K cm B G H σ env) (i : Nat) : Rel K cm B G H (σ.set i none) (env.set i none) :=
  r.forget (by simp [r.len]) fun j t h => by
    rcases get_set h with ⟨_, z, _⟩ | ⟨ne, h⟩
    · cases z
    · exact ⟨h, by rw [List.getElem?_set_ne (Ne.symm ne)]⟩
theorem xo_ntbl {C d a : Addr} (ps : Array Value) : XO C d a ≠ .tbl ps := fun z => by unfold XO at z; cases z
end
def sTry (sub : Str → Str → Bool) (t : Str) (g : MS) (i : Nat) (h : MS) : MS := fun env => match g env with
  | .exc x env1 => if sub x.c t = true then (match h (noTh (env1.set i (some (.fz (.exn x.c x.fs))))) with
    | .next e => .next (e.set i none)
    | .brk e => .brk (e.set i none)
    | .cont e => .cont (e.set i none)
    | .ret d e => .ret d e
    | .retF ds e => .retF ds e
    | .exc _ _ => .no
    | .no => .no) else .exc x env1
  | r => r
section
variable {cm : Cm} {X : Cx} {x n : Str} {T : Addr} {i : Nat} {body suite : List Stmt} {b₀ : Stmt} {np pos pos' : Pos} {g h : MS}
/-- the excepted class and ours -/
def ExmC (K : PySem.W.Frag) (cm : Cm) (t : Str) (T : Addr) : Prop := ∀ c C, cm.x c = some C → PySem.W.exmOne K (.ref C) (.ref T) = some (cm.sub c t)
theorem cs_try (i : Nat) (hs : X.stack = X.env :: X.outer) (hf : X.env.frame = some X.env.locals) (hN : X.N.Nodup) (hg : Gl X x) (hm : X.mg x = some (.ref T)) (hx : ExmC X.K cm x T) (hb : ∀ pn xe, CSs cm (X.tr pn xe) body g) (hsu : ∀ a pn, CSs cm (suX X a pn) (b₀ :: suite) h)
    (hi : X.N[i]? = some n := by rfl) (hln : X.env.kindOf n = some .local := by rfl) (hdb : (x == ("__debug__" : Str)) = false := by decide) :
    CS cm X (.Try body [.ExceptHandler (some (.Name x np)) (some n) (b₀ :: suite) pos'] [] [] pos) (sTry cm.sub x g i h) := fun B tk hp =>
  (ps_try_ad (i := i) (tb := fun W => tS X.K cm (B.wish W) g) (ts := fun a C d => tS X.K cm B.still h) hs hf hN hi hln ⟨hg, hdb, .inl hm⟩ tk.tk
    (fun W pn xe tk2 hp2 => hb pn xe (B.wish W) ⟨tk2, tk.th⟩ hp2)
    (fun a C d pn => hsu a pn B.still ⟨takes0, fun _ _ _ z => z.elim⟩ PassesOwn.never)).weak fun D σ H ⟨G, env, r, q⟩ => by
    refine ⟨G, env, r.wish, ?_⟩
    unfold sTry at q
    cases c : g env with
    | next e => rw [c] at q; exact fun G' H' σ' e1 r1 => q G' H' σ' e1 r1.unwish
    | ret d e => rw [c] at q; exact fun G' H' σ' v e1 r1 => q G' H' σ' v e1 r1.unwish
    | brk e => rw [c] at q; exact fun G' H' σ' e1 r1 => q G' H' σ' e1 r1.unwish
    | cont e => rw [c] at q; exact fun G' H' σ' e1 r1 => q G' H' σ' e1 r1.unwish
    | retF ds e => rw [c] at q; exact fun G' H' σ' p vs e1 r1 => q G' H' σ' p vs e1 r1.unwish
    | no => rw [c] at q; exact q
    | exc y env1 =>
      rw [c] at q
      dsimp only at q
      refine fun G1 H1 σ1 cls dd e1 r1 yx => ?_
      obtain ⟨C, d, fs, h1, rfl, rfl, h2, h3, h4⟩ := yx
      refine ⟨_, hx _ _ h1, fun hsub => ?_, fun hsub => ?_⟩
      · rw [if_pos hsub] at q
        refine ⟨C, d, rfl, rfl, fun a na => ?_⟩
        obtain ⟨r2, e2⟩ := r1.unwish.alloc (o := XO C d a) na xo_ntbl
        have y2 : Rp X.K cm (upd G1 a (XO C d a)) (.ref a) (.exn y.c y.fs) := .exn h1 upd_same (e2 _ _ h2) h3 (h4.mono e2)
        have r3 := r2.setFz i y2
        refine ⟨_, _, r3.still, ?_⟩
        have e12 := e1.trans e2
        cases ch : h (noTh (env1.set i (some (.fz (.exn y.c y.fs))))) with
        | next e => rw [ch] at q; exact fun G' H' σ' e3 r4 => q G' H' _ (e12.trans e3) (r4.unstill.gone i)
        | brk e => rw [ch] at q; exact fun G' H' σ' e3 r4 => q G' H' _ (e12.trans e3) (r4.unstill.gone i)
        | cont e => rw [ch] at q; exact fun G' H' σ' e3 r4 => q G' H' _ (e12.trans e3) (r4.unstill.gone i)
        | ret d e => rw [ch] at q; exact fun G' H' σ' v e3 r4 y3 => q G' H' σ' v (e12.trans e3) r4.unstill y3
        | retF ds e => rw [ch] at q; exact fun G' H' σ' p vs e3 r4 => q G' H' σ' p vs (e12.trans e3) r4.unstill
        | exc x e => rw [ch] at q; exact q.elim
        | no => rw [ch] at q; exact q.elim
      · rw [if_neg (by rw [hsub]; exact Bool.false_ne_true)] at q
        exact q G1 H1 σ1 _ _ e1 r1.unwish ⟨C, d, fs, h1, rfl, rfl, h2, h3, h4⟩
end
end Vs

set_option Elab.async false
set_option linter.all false
set_option maxRecDepth 100000
set_option maxHeartbeats 4000000
/-! VsO: instances of own classes: fields, __init__, making, methods. -/
namespace Vs
open PySem PySem.Spec PyProof.Rows L2 Evl
section
variable {K : PySem.W.Frag} {cm : Cm} {G : Hp}
theorem lookup_rel : ∀ {fs : List (Str × V)} {ds : List (Str × D)} {f : Str} {d : D}, fs.map (·.1) = ds.map (·.1) → Rps K cm G (fs.map (·.2)) (ds.map (·.2)) → ds.lookup f = some d → ∃ v, fs.lookup f = some v ∧ Rp K cm G v d
  | [], [], _, _, _, _, h => by simp at h
  | [], _ :: _, _, _, h, _, _ => by simp at h
  | _ :: _, [], _, _, h, _, _ => by simp at h
  | (g, v) :: fs, (g', d') :: ds, f, d, hk, hr, h => by
    simp only [List.map_cons, List.cons.injEq] at hk
    obtain ⟨rfl, hk⟩ := hk
    cases hr with
    | cons h1 h2 =>
      by_cases e : f = g
      · subst e
        simp only [List.lookup, beq_self_eq_true, Option.some.injEq] at h ⊢
        subst h
        exact ⟨v, rfl, h1⟩
      · have e2 : (f == g) = false := by simpa using e
        simp only [List.lookup, e2] at h ⊢
        exact lookup_rel hk h2 h
theorem lookup_none : ∀ {fs : List (Str × V)} {ds : List (Str × D)} {f : Str}, fs.map (·.1) = ds.map (·.1) → ds.lookup f = none → fs.lookup f = none
  | [], [], _, _, _ => rfl
  | [], _ :: _, _, h, _ => by simp at h
  | _ :: _, [], _, h, _ => by simp at h
  | (g, v) :: fs, (g', d') :: ds, f, hk, h => by
    simp only [List.map_cons, List.cons.injEq] at hk
    obtain ⟨rfl, hk⟩ := hk
    by_cases e : f = g
    · subst e
      simp only [List.lookup, beq_self_eq_true] at h
      cases h
    · have e2 : (f == g) = false := by simpa using e
      simp only [List.lookup, e2] at h ⊢
      exact lookup_none hk h
/-- a field stored -/
def putFD (f : Str) (d : D) : List (Str × D) → List (Str × D)
  | [] => [(f, d)]
  | (g, x) :: r => if g = f then (g, d) :: r else (g, x) :: putFD f d r
theorem putF_rel {f : Str} {v : V} {d : D} (y : Rp K cm G v d) : ∀ {fs : List (Str × V)} {ds : List (Str × D)}, fs.map (·.1) = ds.map (·.1) → Rps K cm G (fs.map (·.2)) (ds.map (·.2)) → (putF f v fs).map (·.1) = (putFD f d ds).map (·.1) ∧ Rps K cm G ((putF f v fs).map (·.2)) ((putFD f d ds).map (·.2))
  | [], [], _, _ => ⟨rfl, .cons y .nil⟩
  | [], _ :: _, h, _ => by simp at h
  | _ :: _, [], h, _ => by simp at h
  | (g, w) :: fs, (g', d') :: ds, hk, hr => by
    simp only [List.map_cons, List.cons.injEq] at hk
    obtain ⟨rfl, hk⟩ := hk
    cases hr with
    | cons h1 h2 =>
      unfold putF putFD
      by_cases e : g = f
      · rw [if_pos e, if_pos e]
        exact ⟨by simp [hk], .cons y h2⟩
      · rw [if_neg e, if_neg e]
        obtain ⟨a, b⟩ := putF_rel y hk h2
        exact ⟨by simp [a], .cons h1 b⟩
end
section
variable {cm : Cm} {X : Cx} {e : Expr} {f : M D} {fld : Str} {pos : Pos}
/-! ### fields read -/
/-- what reading a field of the classes ls asks -/
structure FldF (K : PySem.W.Frag) (cm : Cm) (ls : List Str) (fld : Str) : Prop where
  obj : ∀ c C, c ∈ ls → cm.c c = some C → Cls K C ∧ NoAttr K C fld
  exn : ∀ c C, c ∈ ls → cm.x c = some C → XfC K C ∧ PySem.W.findIn K (.ref C) fld = some none
def oFld (ls : List Str) (fld : Str) : D → Option D
  | .obj c fs => if c ∈ ls then fs.lookup fld else none
  | .exn c fs => if c ∈ ls then fs.lookup fld else none
  | _ => none
def eFld (ls : List Str) (fld : Str) (f : M D) : M D := fun env => (f env).bind fun d env1 => R.opt (oFld ls fld d) env1
def tFldY (X : Cx) (te : TE) (fld : Str) : TE := fun σ H Q => te σ H fun x H1 => ∃ a v, x = .ref a ∧ ((∃ C dx fs, H1 a = some (.ins C dx fs) ∧ Cls X.K C ∧ NoAttr X.K C fld ∧ fs.lookup fld = some v) ∨
  (∃ C d fs, H1 a = some (XO C d a) ∧ H1 d = some (.xd fs) ∧ XfC X.K C ∧ PySem.W.findIn X.K (.ref C) fld = some none ∧ fs.lookup fld = some v)) ∧ Q v H1
theorem pe_fldY {te : TE} (he : PE X e te) (hb : attributeBase e fld X.env (eval e X.env) = eval e X.env) : PE X (.Attribute e fld pos) (tFldY X te fld) := by
  refine ⟨fun pins s σ H Q I h => ?_⟩
  refine attr_of hb (thn (he.run pins s σ H _ I h) fun u s1 ⟨x, H1, I1, rx, a, v, ex, hh, q⟩ => ?_)
  subst ex
  obtain rfl : u = Value.ref a := rx
  rcases hh with ⟨C, dx, fs, ea, c, n, l⟩ | ⟨C, d, fs, ea, ed, T, hno, l⟩
  · exact getattr_ok I1 ea c n l fun u' s2 I2 ru => ⟨v, H1, I2, ru, q⟩
  · obtain ⟨oe, vs, ho, hz, hd⟩ := xo_at I1 ea
    have hx : ObjOk X.prog X.w H1 s1.heap d (.xd fs) := I1.hok d _ ed
    obtain ⟨mA, hns, hr⟩ := hx
    obtain ⟨od, ho2, hl⟩ := lookIn_ns hns
    obtain ⟨u, hu, ru⟩ := RelO.some_of (v := v) (o := mA fld) (by rw [← l]; exact hr fld)
    have J : PySem.W.InstAt s1.heap a oe C (some od) := ⟨ho, hz.1, by unfold PySem.W.notCls; rw [hd] <;> rfl, by rw [hz.2]; exact ho2⟩
    exact HandSPX.exc_get I1.kIn J T.ga T.gg T.exC (PySem.W.findObj_own T.hdC hno rfl (by rw [hl, hu])) (handed_of ru) ⟨v, H1, I1.tok _, ru, q⟩
theorem ce_fld {ls : List Str} (F : FldF X.K cm ls fld) (h : CE cm X e f) (hb : attributeBase e fld X.env (eval e X.env) = eval e X.env := by rfl) : CE cm X (.Attribute e fld pos) (eFld ls fld f) := fun B tk =>
  (pe_fldY (h B tk) hb).weak fun σ H Q ⟨G, env, r, q⟩ => want.bind r q fun d env1 G1 H1 v e1 r1 y q1 => by
    cases c : oFld ls fld d with
    | none => rw [c] at q1; exact q1.elim
    | some z =>
      rw [c] at q1
      cases y with
      | obj h0 h1 h2 h3 h4 =>
        simp only [oFld] at c
        split at c
        · rename_i hc
          obtain ⟨w, l, yw⟩ := lookup_rel h3 h4 c
          obtain ⟨k1, k2⟩ := F.obj _ _ hc h0
          exact ⟨_, w, rfl, .inl ⟨_, _, _, r1.ex _ _ h1, k1, k2, l⟩, q1 G1 H1 _ (Ex.refl _) r1 yw⟩
        · cases c
      | exn h0 h1 h2 h3 h4 =>
        simp only [oFld] at c
        split at c
        · rename_i hc
          obtain ⟨w, l, yw⟩ := lookup_rel h3 h4 c
          obtain ⟨k1, k2⟩ := F.exn _ _ hc h0
          exact ⟨_, w, rfl, .inr ⟨_, _, _, r1.ex _ _ h1, r1.ex _ _ h2, k1, k2, l⟩, q1 G1 H1 _ (Ex.refl _) r1 yw⟩
        · cases c
      | exn0 h0 h1 =>
        simp only [oFld] at c
        split at c
        · cases c
        · cases c
      | _ => simp only [oFld] at c; cases c
/-! ### the instance that this frame makes -/
/-- a field of it, read -/
def ooE (i : Nat) (env : Vs.Env) : Option (Str × List (Str × D)) := match env[i]? with
  | some (some (.oo c fs)) => some (c, fs)
  | _ => none
theorem ooE_iff {i : Nat} {env : Vs.Env} {c : Str} {fs : List (Str × D)} (h : ooE i env = some (c, fs)) : env[i]? = some (some (.oo c fs)) := by
  unfold ooE at h
  split at h
  · rename_i q; cases h; exact q
  · cases h
def eFldO (ls : List Str) (i : Nat) (fld : Str) : M D := fun env => match ooE i env with
  | some (c, fs) => if c ∈ ls then R.opt (fs.lookup fld) env else .no
  | none => .no
theorem ce_fldO {ls : List Str} (i : Nat) {x : Str} {px : Pos} (F : FldF X.K cm ls fld) (hN : X.N[i]? = some x := by rfl) (hv : Vis X.env.scope x := by first | exact Or.inl rfl | exact Or.inr (Or.inl rfl) | exact Or.inr (Or.inr rfl)) (hd : (x == ("__debug__" : Str)) = false := by decide)
    (hcd : (x == ("__classdict__" : Str)) = false := by decide) (hb : attributeBase (.Name x px) fld X.env (eval (.Name x px) X.env) = eval (.Name x px) X.env := by rfl) : CE cm X (.Attribute (.Name x px) fld pos) (eFldO ls i fld) := fun B tk =>
  (pe_fldY (pe_var hN hv hd hcd) hb).weak fun σ H Q ⟨G, env, r, q⟩ => by
    unfold eFldO at q
    cases c : ooE i env with
    | none => rw [c] at q; exact q.elim
    | some p =>
      obtain ⟨c0, fs⟩ := p
      rw [c] at q
      dsimp only at q
      split at q
      · rename_i hc
        obtain ⟨v, ev, tr⟩ := r.sl i _ (ooE_iff c)
        obtain ⟨a, C, dx, vs, rfl, h1, h2, h3, h4, h5, h6, h7, h8, h9, h10⟩ := tr
        cases l : fs.lookup fld with
        | none => rw [l] at q; exact q.elim
        | some d =>
          rw [l] at q
          obtain ⟨w, lw, yw⟩ := lookup_rel h7 h8 l
          obtain ⟨k1, k2⟩ := F.obj _ _ hc h2
          exact ⟨.ref a, ev, a, w, rfl, .inl ⟨C, dx, vs, h3, k1, k2, lw⟩, q G H w (Ex.refl _) r yw⟩
      · exact q.elim
theorem Rel.putFld {K : PySem.W.Frag} {B : Base} {G H : Hp} {σ : L2.St} {env : Vs.Env} {i : Nat} {c : Str} {fs : List (Str × D)} {a C dx : Addr} {vs : List (Str × V)} {fld : Str} {v : V} {d : D} (r : Rel K cm B G H σ env) (e : env[i]? = some (some (.oo c fs))) (hi : σ[i]? = some (some (.ref a)))
    (ha : H a = some (.ins C dx vs)) (y : Rp K cm G v d) : Rel K cm B G (upd H a (.ins C dx (putF fld v vs))) σ (env.set i (some (.oo c (putFD fld d fs)))) := by
  obtain ⟨v0, ev, tr⟩ := r.sl i _ e
  rw [hi] at ev; cases ev
  obtain ⟨a', C', dx', vs', z, h1, h2, h3, h4, h5, h6, h7, h8, h9, h10⟩ := tr
  cases z
  rw [ha] at h3
  have h3 := Option.some.inj h3
  injection h3 with e1 e2 e3
  subst e1 e2 e3
  obtain ⟨k1, k2⟩ := putF_rel (f := fld) y h7 h8
  have np : ∀ q u, H q = some u → ((∃ ps, u = .tbl ps) ∨ ∃ φ, u = .ext φ) → q ≠ a := fun q u e hk z => by
    subst z; rw [ha] at e; cases e
    rcases hk with ⟨_, z⟩ | ⟨_, z⟩ <;> cases z
  have nd : dx ≠ a := fun z => by subst z; rw [ha] at h4; cases h4
  refine ⟨fun b u q => ?_, by simp [r.len], fun j t ej => ?_, fun j j' b k1 ds1 k2 ds2 e1 e2 e3 e4 => ?_, fun q hq => ?_, fun q hq ps => ?_, r.nt, r.tb.mono (Ex.refl _) fun b ps e => by rw [upd_ne (np b _ e (.inl ⟨_, rfl⟩))]; exact e,
    fun q hq => by obtain ⟨ps, e⟩ := r.tk q hq; exact ⟨ps, by rw [upd_ne (np q _ e (.inl ⟨_, rfl⟩))]; exact e⟩, fun j j' c1 c2 fs1 fs2 e1 e2 => ?_⟩
  · have ne : b ≠ a := fun z => by subst z; rw [h5] at q; cases q
    rw [upd_ne ne]; exact r.ex b u q
  · rcases get_set ej with ⟨rfl, e3, _⟩ | ⟨ne, e3⟩
    · cases e3
      exact ⟨.ref a, hi, a, C, dx, _, rfl, h1, h2, upd_same, by rw [upd_ne nd]; exact h4, h5, h6, k1, k2, h9, h10⟩
    · obtain ⟨u, eu, tr⟩ := r.sl j t e3
      refine ⟨u, eu, ?_⟩
      cases t with
      | fz d => exact tr
      | th o => exact tr
      | oo c fs => exact absurd (r.ao _ _ _ _ _ _ e3 e) ne
      | ol k ds =>
        obtain ⟨b, ws, rfl, m1, m2, m3, m4, m5⟩ := tr
        have nb : b ≠ a := fun z => by subst z; rw [ha] at m1; cases m1
        exact ⟨b, ws, rfl, by rw [upd_ne nb]; exact m1, m2, m3, m4, m5⟩
  · rcases get_set e1 with ⟨_, z, _⟩ | ⟨_, e1⟩
    · cases z
    · rcases get_set e2 with ⟨_, z, _⟩ | ⟨_, e2⟩
      · cases z
      · exact r.ap _ _ _ _ _ _ _ e1 e2 e3 e4
  · obtain ⟨m1, m2, m3⟩ := r.pr q hq
    have ne : q ≠ a := fun z => by subst z; exact h9 hq
    exact ⟨m1, by rw [upd_ne ne]; exact m2, m3⟩
  · have ne : q ≠ a := fun z => by subst z; exact h9 hq
    rw [upd_ne ne]; exact r.ptb q hq ps
  · rcases get_set e1 with ⟨j1, _, _⟩ | ⟨_, e1⟩
    · rcases get_set e2 with ⟨j2, _, _⟩ | ⟨_, e2⟩
      · rw [j1, j2]
      · rw [j1]; exact r.ao _ _ _ _ _ _ e e2
    · rcases get_set e2 with ⟨j2, _, _⟩ | ⟨_, e2⟩
      · rw [j2]; exact r.ao _ _ _ _ _ _ e1 e
      · exact r.ao _ _ _ _ _ _ e1 e2
/-- self.f = e -/
def sFldO (ls : List Str) (i : Nat) (fld : Str) (f : M D) : MS := fun env => (f env).toS fun d env1 => match ooE i env1 with
  | some (c, fs) => if c ∈ ls ∧ fs.length < 900 then .next (env1.set i (some (.oo c (putFD fld d fs)))) else .no
  | none => .no
theorem cs_fldO {ls : List Str} (i : Nat) {x : Str} {px p' : Pos} (F : FldF X.K cm ls fld) (h : CE cm X e f) (hN : X.N[i]? = some x := by rfl) (hv : Vis X.env.scope x := by first | exact Or.inl rfl | exact Or.inr (Or.inl rfl) | exact Or.inr (Or.inr rfl)) (hd : (x == ("__debug__" : Str)) = false := by decide)
    (hcd : (x == ("__classdict__" : Str)) = false := by decide) (hs : swapsWith e (some (.Attribute (.Name x px) fld p')) pos.line X.env = pure false := by rfl) : CS cm X (.Assign [.Attribute (.Name x px) fld p'] e pos) (sFldO ls i fld f) := fun B tk hp =>
  (ps_fld (pe_var hN hv hd hcd) (h B tk) hs).weak fun Dn σ H ⟨G, env, r, q⟩ => wantS.bind r q fun d env1 G1 H1 v e1 r1 y q1 => by
    cases c : ooE i env1 with
    | none => rw [c] at q1; exact q1.elim
    | some p =>
      obtain ⟨c0, fs⟩ := p
      rw [c] at q1
      dsimp only at q1
      split at q1
      · rename_i hc
        obtain ⟨u, ev, tr⟩ := r1.sl i _ (ooE_iff c)
        have tr' := tr
        obtain ⟨a, C, dx, vs, rfl, h1, h2, h3, h4, h5, h6, h7, h8, h9, h10⟩ := tr
        obtain ⟨k1, k2⟩ := F.obj _ _ hc.1 h2
        have hl : vs.length = fs.length := by have := congrArg List.length h7; simpa using this
        exact ⟨.ref a, ev, a, C, dx, vs, rfl, h3, k1, k2, by omega, q1 G1 _ _ (Ex.refl _) (r1.putFld (ooE_iff c) ev h3 y)⟩
      · exact q1.elim
end
end Vs

set_option Elab.async false
set_option linter.all false
set_option maxRecDepth 100000
set_option maxHeartbeats 4000000
/-! VsO2: own classes' __init__, their making, their methods. -/
namespace Vs
open PySem PySem.Spec PyProof.Rows L2 Evl
/-- what an __init__ does: the fields of the instance behind it -/
inductive IR where
  | ok (fs : List (Str × D)) | exc (x : Xn) | no
abbrev Fis := Str → List (Str × D) → List D → IR
def KeepI (G H G' H' : Hp) (a dx : Addr) : Prop := (∀ p, H p ≠ none → (∀ ps, H p ≠ some (.tbl ps)) → G p = none → p ≠ a → p ≠ dx → G' p = none ∧ H' p = H p) ∧ ∀ p ps, H p = some (.tbl ps) → ∃ ps', H' p = some (.tbl ps')
section
variable (K : PySem.W.Frag) (cm : Cm)
def wantI (G H : Hp) (a C dx : Addr) (Q : VK) (E : XK) : IR → Prop
  | .ok fs => ∀ G' H' vs, Ex G G' → Gd cm G' H' → KeepI G H G' H' a dx → H' a = some (.ins C dx vs) → H' dx = some (.own a) → G' a = none → G' dx = none → vs.map (·.1) = fs.map (·.1) → Rps K cm G' (vs.map (·.2)) (fs.map (·.2)) → Q .non H'
  | .exc x => ∀ G' H' cls dd, Ex G G' → Gd cm G' H' → KeepI G H G' H' a dx → XRel K cm G' H' cls dd x → E cls dd H'
  | .no => False
def spI (n : Nat) (F : Fis) : Sp := fun vs H Q E => vs.length = n + 1 ∧ ∃ G a C dx c vs0 fs0 ws ds, vs = .ref a :: ws ∧ cm.c c = some C ∧ H a = some (.ins C dx vs0) ∧ H dx = some (.own a) ∧ G a = none ∧ G dx = none ∧ Gd cm G H ∧
  vs0.map (·.1) = fs0.map (·.1) ∧ Rps K cm G (vs0.map (·.2)) (fs0.map (·.2)) ∧ Rps K cm G ws ds ∧ wantI K cm G H a C dx Q E (F c fs0 ds)
end
def env0I (nN : Nat) (c : Str) (fs : List (Str × D)) (ds : List D) : Vs.Env := some (T.oo c fs) :: ((ds.map fun d => some (T.fz d)) ++ List.replicate (nN - (ds.length + 1)) none)
def finI (c : Str) (env : Vs.Env) : IR := match ooE 0 env with
  | some (c', fs) => if c' = c then .ok fs else .no
  | none => .no
def runI (nN : Nat) (g : MS) : Fis := fun c fs ds => match g (env0I nN c fs ds) with
  | .next env => finI c env
  | .ret .non env => finI c env
  | .exc x _ => .exc x
  | _ => .no
section
variable {P : Program} {w : World} {K : PySem.W.Frag} {cm : Cm} {mg : Str → Option Value} {base : Heap}
def BI (G H : Hp) (a dx : Addr) (E : XK) : Base := { prot := fun p => H p ≠ none ∧ (∀ ps, H p ≠ some (.tbl ps)) ∧ G p = none ∧ p ≠ a ∧ p ≠ dx, H0 := H, ins := fun _ => none, W := fun cls d _ H => E cls d H, slf := some (a, dx), tt := fun p => ∃ ps, H p = some (.tbl ps) }
theorem rel_startI {N : List Str} {G H : Hp} {a C dx : Addr} {c : Str} {vs0 : List (Str × V)} {fs0 : List (Str × D)} {ws : List V} {ds : List D} {E : XK} (gd : Gd cm G H) (hc : cm.c c = some C) (ha : H a = some (.ins C dx vs0)) (hd : H dx = some (.own a)) (ga : G a = none) (gx : G dx = none)
    (hk : vs0.map (·.1) = fs0.map (·.1)) (hr : Rps K cm G (vs0.map (·.2)) (fs0.map (·.2))) (hs : Rps K cm G ws ds) : Rel K cm (BI G H a dx E) G H (L2.start N (.ref a :: ws)) (env0I N.length c fs0 ds) := by
  have hl : ws.length = ds.length := hs.length
  have s0 : L2.start N (V.ref a :: ws) = some (.ref a) :: (ws.map some ++ List.replicate (N.length - (ds.length + 1)) none) := by simp [L2.start, hl]
  rw [s0]
  unfold env0I
  have fzs : ∀ {l : List D} {us : List V} {m : Nat} {i : Nat} {t : T}, Rps K cm G us l → ((l.map fun d => some (T.fz d)) ++ List.replicate m none)[i]? = some (some t) → ∃ v d, t = .fz d ∧ (us.map some ++ List.replicate m none)[i]? = some (some v) ∧ Rp K cm G v d := fun {l us m i t} hs h => by
    rw [List.getElem?_append] at h
    split at h
    · rename_i hi
      rw [List.length_map] at hi
      rw [List.getElem?_map] at h
      cases q : l[i]? with
      | none => rw [q] at h; cases h
      | some d =>
        rw [q] at h
        cases h
        obtain ⟨v, e, y⟩ := hs.get q
        refine ⟨v, d, rfl, ?_, y⟩
        rw [List.getElem?_append_left (by rw [List.length_map, hs.length]; exact hi), List.getElem?_map, e]
        rfl
    · rw [List.getElem?_replicate] at h
      split at h <;> cases h
  refine ⟨gd.ex, by simp [hl], fun i t e => ?_, fun i j b k cs k' cs' e1 e2 e3 e4 => ?_, fun p hp => ⟨hp.2.2.1, rfl, hp.1⟩, fun p hp => hp.2.1, gd.nt, gd.tb, fun p h => h, fun i j c1 c2 fs1 fs2 e1 e2 => ?_⟩
  · cases i with
    | zero =>
      have e : some (some (T.oo c fs0)) = some (some t) := e
      cases e
      exact ⟨.ref a, rfl, a, C, dx, vs0, rfl, rfl, hc, ha, hd, ga, gx, hk, hr, fun hp => hp.2.2.2.1 rfl, fun hp => hp.2.2.2.2 rfl⟩
    | succ i =>
      obtain ⟨v, d, rfl, e1, y⟩ := fzs hs (by simpa using e)
      exact ⟨v, by simpa using e1, y⟩
  · cases i with
    | zero => have e1 : some (some (T.oo c fs0)) = some (some (T.ol k cs)) := e1; cases e1
    | succ i =>
      obtain ⟨v, d, z, _, _⟩ := fzs hs (by simpa using e1)
      cases z
  · cases i with
    | succ i =>
      obtain ⟨v, d, z, _, _⟩ := fzs hs (by simpa using e1)
      cases z
    | zero =>
      cases j with
      | zero => rfl
      | succ j =>
        obtain ⟨v, d, z, _, _⟩ := fzs hs (by simpa using e2)
        cases z
/-- THE RULE for an __init__ -/
theorem fnOkI {x qual : Str} {params : Arguments} {fbody : List Stmt} {scope : Scope} {dvs : List V} {kws : List (Str × V)} {f : Addr} {fd : FuncData} {N ps : List Str} {k n : Nat} {g : MS} (F : FunD K x qual params fbody scope dvs kws f fd) (S : FnScope N ps scope) (hn : ps.length = n + 1)
    (body : ∀ (cdv : Value) (A : Around) (outer : List PySem.Env) (s : Shared) (H : Hp) (E : XK), Room k (A.deeper (envOfC qual scope s.heap.objs.size f cdv)) → A.guards = some [] → CSs cm (cxOf (L2.CX P w) P w K mg base N qual scope f cdv A outer s H E) fbody g) :
    FnG P w K mg base (k + 1) f fd ps (spI K cm n (runI N.length g)) := by
  obtain ⟨oc, od, dV, kV, doc, pm, an, cdv, ct, osl, rfl, lk, hcd, _, _⟩ := F.ex
  refine fnG_of lk hcd S (fun vs H Q E h => h.1.trans hn.symm) fun A outer s H vs Q E hr hgd h => ?_
  obtain ⟨hl, G, a, C, dx, c, vs0, fs0, ws, ds, rfl, hc, ha, hd, ga, gx, gd, hk, hr0, hs, q⟩ := h
  refine ⟨_, body cdv A outer s H E hr hgd (BI G H a dx E) ⟨takes_of rfl rfl rfl rfl, fun _ _ _ z => z.elim⟩ (passes_of rfl), G, env0I N.length c fs0 ds, rel_startI gd hc ha hd ga gx hk hr0 hs, ?_⟩
  have kp : ∀ {G' H' : Hp} {σ' : L2.St} {env' : Vs.Env}, Rel K cm (BI G H a dx E) G' H' σ' env' → KeepI G H G' H' a dx := fun {G' H' σ' env'} r => ⟨fun p h1 hz h2 h3 h4 => by
    obtain ⟨q1, q2, _⟩ := r.pr p ⟨h1, hz, h2, h3, h4⟩
    exact ⟨q1, q2⟩, fun p ps h => r.tk p ⟨ps, h⟩⟩
  have fin : ∀ {G' H' : Hp} {σ' : L2.St} {env' : Vs.Env}, wantI K cm G H a C dx Q E (finI c env') → Ex G G' → Rel K cm (BI G H a dx E) G' H' σ' env' → Q .non H' := fun {G' H' σ' env'} qq e1 r => by
    unfold finI at qq
    cases ce : ooE 0 env' with
    | none => rw [ce] at qq; exact qq.elim
    | some p =>
      obtain ⟨c', fs⟩ := p
      rw [ce] at qq
      dsimp only at qq
      split at qq
      · rename_i hcc
        subst hcc
        obtain ⟨v, ev, tr⟩ := r.sl 0 _ (ooE_iff ce)
        obtain ⟨a', C', dx', vs', rfl, h1, h2, h3, h4, h5, h6, h7, h8, h9, h10⟩ := tr
        cases h1
        rw [hc] at h2; cases h2
        exact qq G' H' vs' e1 r.gd (kp r) h3 h4 h5 h6 h7 h8
      · exact qq.elim
  unfold runI at q
  cases cg : g (env0I N.length c fs0 ds) with
  | next env' => rw [cg] at q; exact fun G' H' σ' e1 r => fin q e1 r
  | ret d env' =>
    rw [cg] at q
    refine fun G' H' σ' v e1 r y => ?_
    cases d <;> first | exact q.elim | skip
    cases y
    exact fin q e1 r
  | exc x env' => rw [cg] at q; exact fun G' H' σ' cls dd e1 r y => q G' H' cls dd e1 r.gd (kp r) y
  | brk env' => rw [cg] at q; exact q.elim
  | cont env' => rw [cg] at q; exact q.elim
  | retF ds env' => rw [cg] at q; exact q.elim
  | no => rw [cg] at q; exact q.elim
end
/-! ### C(..) -/
section
variable {cm : Cm} {X : Cx} {B : Base} {G G1 H H1 : Hp} {σ : L2.St} {env : Vs.Env} {Fn : Fis} {n k : Nat} {Q : VK} {c m : Str} {C f : Addr} {fd : FuncData} {ps : List Str} {e o : Expr} {es : List Expr} {l : M (List D)} {dvs : List V} {dds : List D} {dws : List Value} {p pos apos : Pos}
/-- a new thing is laid down behind a call: p stood nowhere before -/
theorem Rel.lay {K : PySem.W.Frag} {G' H' : Hp} {p : Addr} {ob : HO} (r : Rel K cm B G' H' σ env) (r0 : Rel K cm B G H σ env) (h0 : H p = none) (hp : H' p = some ob) (hn : ∀ ps, ob ≠ .tbl ps) (hg : G' p = none) : Rel K cm B (upd G' p ob) H' σ env ∧ Ex G' (upd G' p ob) := by
  have ex1 : Ex G' (upd G' p ob) := Ex.new hg
  have np := r0.nprot h0
  refine ⟨⟨fun b u q => ?_, r.len, fun i t e => ?_, r.ap, fun q hq => ?_, r.ptb, nt_upd r.nt hn, r.tb.ge ex1, r.tk, r.ao⟩, ex1⟩
  · by_cases hb : b = p
    · subst hb; rw [upd_same] at q; cases q; exact hp
    · rw [upd_ne hb] at q; exact r.ex b u q
  · obtain ⟨v, ev, tr⟩ := r.sl i t e
    refine ⟨v, ev, ?_⟩
    obtain ⟨v0, ev0, tr0⟩ := r0.sl i t e
    rw [ev] at ev0; cases ev0
    cases t with
    | fz d => exact Rp.mono ex1 tr
    | th o => exact th_ge tr ex1
    | ol k es =>
      obtain ⟨a, ws, rfl, g1, g2, g3, g4, g5⟩ := tr
      obtain ⟨a', ws', z, k1, _⟩ := tr0
      cases z
      have ne : a ≠ p := ne_of_none k1 h0
      exact ⟨a, ws, rfl, g1, by rw [upd_ne ne]; exact g2, g3.mono ex1, g4, g5⟩
    | oo c fs =>
      obtain ⟨b, C, dx, vs, rfl, m1, m2, m3, m4, m5, m6, m7, m8, m9, m10⟩ := tr
      obtain ⟨b', C', dx', vs', z, k1, k2, k3, k4, _⟩ := tr0
      cases z
      rw [m1] at k1; cases k1
      have n1 : b ≠ p := ne_of_none k3 h0
      have n2 : dx ≠ p := ne_of_none k4 h0
      exact ⟨b, C, dx, vs, rfl, m1, m2, m3, m4, by rw [upd_ne n1]; exact m5, by rw [upd_ne n2]; exact m6, m7, m8.mono ex1, m9, m10⟩
  · obtain ⟨m1, m2, m3⟩ := r.pr q hq
    have ne : q ≠ p := fun zz => by subst zz; exact np hq
    exact ⟨by rw [upd_ne ne]; exact m1, m2, m3⟩
theorem guards_make {A : Around} {C : Addr} {us : List Value} {kw : List (Str × Value)} (h : A.guards = some []) : (A.under (.builtin "type.__call__" ⟨.ref C :: us, kw⟩)).guards = some [] := by
  show pushGuards (Code.builtin "type.__call__" ⟨.ref C :: us, kw⟩).guards A.guards = some []
  rw [h, show (Code.builtin "type.__call__" ⟨.ref C :: us, kw⟩).guards = [] from by unfold Code.guards; rw [if_neg (by show ¬ (guardIds.contains "type.__call__" = true); decide +kernel)]]
  rfl
theorem run_makeG {E : XK} {sp : Sp} {pins : List (Addr × Obj)} {s : Shared} {us : List Value} {vs : List V} (M : Mk X.K C f) (F : FnG X.prog X.w X.K X.mg X.base k f fd ps sp) (hr : Room (k + 1) X.A) (hgd : X.A.guards = some []) (hb : Binds X.K fd ps dws) (hd : Vals dvs dws)
    (hx : PassesAt (L2.CX X.prog X.w) X σ E) (I : Inv X pins σ H s) (r : Vals vs us)
    (h : ∀ x dx, H x = none → H dx = none → dx ≠ x → sp (.ref x :: (vs ++ dvs)) (upd (upd H dx (.own x)) x (.ins C dx [])) (fun v H2 => v = .non ∧ Q (.ref x) H2) E) :
    wpAny (model X.prog X.w) X.A (call (.ref C) us) (EP X pins σ Q) X.xe s := by
  have hq := h (s.heap.objs.size + 1) s.heap.objs.size (I.hok.fresh (Nat.le_succ _)) (I.hok.fresh (Nat.le_refl _)) (Nat.ne_of_lt (Nat.lt_succ_self _))
  have I2 := Inv.made (C := C) I
  have r2 : Vals (V.ref (s.heap.objs.size + 1) :: (vs ++ dvs)) (Value.ref (s.heap.objs.size + 1) :: (us ++ dws)) := .cons rfl (r.append hd)
  have hl : (Value.ref (s.heap.objs.size + 1) :: us ++ dws).length = ps.length := by
    have e := r2.length
    rw [F.many _ _ _ _ hq] at e
    exact e.symm
  refine wpAny_call (make_map (f := f) I.kIn M.makes M.init (beq_iff_eq.mp M.fn) (codeAny_mono (F.runs _ X.stack _ _ ⟨Value.ref (s.heap.objs.size + 1) :: us, []⟩ (Value.ref (s.heap.objs.size + 1) :: (us ++ dws)) _ _ E (hr.make C us []) (guards_make hgd)
    (I2.env0.make C us []) (hb _ (Value.ref (s.heap.objs.size + 1) :: us) I2.kIn hl) r2 hq) fun r s' hq' => ?_))
  cases r with
  | error e => exact hx pins _ _ e s' I2 hq'
  | ok fl =>
    cases fl with
    | ret u =>
      obtain ⟨v, H', I3, rv, ev, q3⟩ := I2.after hq'
      subst ev
      exact ⟨rv, ⟨V.ref (s.heap.objs.size + 1), H', I3, rfl, q3⟩⟩
    | next => exact False.elim hq'
    | brk => exact False.elim hq'
    | cont => exact False.elim hq'
def IR.toR (r : IR) (c : Str) (env : Vs.Env) : R D := match r with
  | .ok fs => .ok (.obj c fs) env
  | .exc x => .exc x env
  | .no => .no
def eMk (c : Str) (n : Nat) (F : Fis) (dds : List D) (l : M (List D)) : M D := fun env => (l env).bind fun ds env1 => if (ds ++ dds).length = n then (F c [] (ds ++ dds)).toR c env1 else .no
/-- the promise of an __init__ at a new instance, from the want behind it -/
theorem spI_new {x dx : Addr} {vs : List V} {ds : List D} (r : Rel X.K cm B G H σ env) (hc : cm.c c = some C) (y : Rps X.K cm G vs ds) (hn : ds.length = n) (hx : H x = none) (hdx : H dx = none) (ne : dx ≠ x) (q : want X.K cm (YV X.K cm) B G σ Q ((Fn c [] ds).toR c env)) :
    spI X.K cm n Fn (.ref x :: vs) (upd (upd H dx (.own x)) x (.ins C dx [])) (fun v H2 => v = .non ∧ Q (.ref x) H2) (WE B.W σ) := by
  have hx2 : upd H dx (.own x) x = none := by rw [upd_ne (Ne.symm ne)]; exact hx
  have r1 := (r.fresh (o := .own x) hdx).fresh (o := .ins C dx []) hx2
  have kpN : ∀ {G' H' : Hp}, KeepI G (upd (upd H dx (.own x)) x (.ins C dx [])) G' H' x dx → Keep G H G' H' none := fun {G' H'} kp => by
    have at_ : ∀ p o, H p = some o → p ≠ x ∧ p ≠ dx ∧ upd (upd H dx (.own x)) x (.ins C dx []) p = some o := fun p o h => by
      have n1 : p ≠ x := ne_of_none h hx
      have n2 : p ≠ dx := ne_of_none h hdx
      exact ⟨n1, n2, by rw [upd_ne n1, upd_ne n2]; exact h⟩
    refine ⟨fun p h1 hz h2 _ => ?_, fun p ps h => ?_⟩
    · cases hp : H p with
      | none => exact absurd hp h1
      | some ob =>
        obtain ⟨n1, n2, e⟩ := at_ p ob hp
        obtain ⟨q1, q2⟩ := kp.1 p (by rw [e]; exact fun z => nomatch z) (fun ps z => hz ps (by rw [hp, ← e]; exact z)) h2 n1 n2
        exact ⟨q1, by rw [q2, e]⟩
    · obtain ⟨_, _, e⟩ := at_ p _ h
      exact kp.2 p ps e
  refine ⟨by simp [y.length, hn], G, x, C, dx, c, [], [], vs, ds, rfl, hc, upd_same, by rw [upd_ne ne, upd_same], r.free hx, r.free hdx, r1.gd, rfl, .nil, y, ?_⟩
  cases cf : Fn c [] ds with
  | ok fs =>
    rw [cf] at q
    have q : ∀ G' H' v, Ex G G' → Rel X.K cm B G' H' σ env → Rp X.K cm G' v (.obj c fs) → Q v H' := q
    refine fun G' H' vs' e1 gd kp h1 h2 h3 h4 h5 h6 => ⟨rfl, ?_⟩
    have r2 := r.after e1 gd (kpN kp)
    obtain ⟨r3, e3⟩ := r2.lay r hdx h2 (fun ps z => by cases z) h4
    have h3' : upd G' dx (.own x) x = none := by rw [upd_ne (Ne.symm ne)]; exact h3
    obtain ⟨r4, e4⟩ := r3.lay r hx h1 (fun ps z => by cases z) h3'
    exact q _ _ _ ((e1.trans e3).trans e4) r4 (.obj hc upd_same (e4 _ _ upd_same) h5 (h6.mono (e3.trans e4)))
  | exc x' =>
    rw [cf] at q
    exact fun G' H' cls dd e1 gd kp yx => q G' H' cls dd e1 (r.after e1 gd (kpN kp)) yx
  | no => rw [cf] at q; exact q
theorem ce_mk (M : Mk X.K C f) (F : FnG X.prog X.w X.K X.mg X.base k f fd ps (spI X.K cm n Fn)) (hr : Room (k + 1) X.A) (hgd : X.A.guards = some []) (hg : Gl X c) (hm : X.mg c = some (.ref C)) (hc : cm.c c = some C) (hb : Binds X.K fd ps dws) (hd : Vals dvs dws)
    (hdd : ∀ G, Rps X.K cm G dvs dds) (ha : CD cm X (e :: es) l) (hdb : (c == ("__debug__" : Str)) = false := by decide) (he : starEach (e :: es) X.env = (false, eval e X.env) :: starEach es X.env := by rfl) (hpl : (backTo pos (starEach es X.env)).any (·.1) = false := by rfl) :
    CE cm X (.Call (.Name c p) (e :: es) [] pos) (eMk c n Fn dds l) := fun B tk => ⟨fun pins s σ H Q I ⟨G, env, r, q⟩ => by
  refine wpAny_Call_Name_kw (ld_glob I hg hm ?_ hdb)
  refine PySem.W.callWith_K (h₀ := X.base) I.ok.mod.kin M.kp (thn ((ha B tk).run pos pins s σ H _ I (want.bind (Q1 := fun vs H1 => ∀ x dx, H1 x = none → H1 dx = none → dx ≠ x → spI X.K cm n Fn (.ref x :: (vs ++ dvs)) (upd (upd H1 dx (.own x)) x (.ins C dx [])) (fun v H2 => v = .non ∧ Q (.ref x) H2) (WE B.W σ)) r q fun ds env1 G1 H1 vs e1 r1 y q1 => ?_)) fun us s1 ⟨vs, H1, I1, rv, q⟩ => ⟨I1.kIn, ?_⟩) he hpl
  · intro x dx hx hdx ne
    by_cases hn : (ds ++ dds).length = n
    · rw [if_pos hn] at q1
      exact spI_new r1 hc (Rps.append y (hdd G1)) hn hx hdx ne q1
    · rw [if_neg hn] at q1; exact q1.elim
  · exact run_makeG M F hr hgd hb hd (passAt tk.tk σ) I1 rv q⟩
/-! ### o.m(..) -/
def eMeth (c m : Str) (n : Nat) (F : Fs) (dds : List D) (f : M D) (l : M (List D)) : M D := fun env => (f env).bind fun d env1 => match d with
  | .obj c' fs => if c' = c ∧ (fs.lookup m).isNone = true then (l env1).bind fun ds env2 => if (D.obj c' fs :: (ds ++ dds)).length = n then (F none (.obj c' fs :: (ds ++ dds))).toR env2 else .no else .no
  | _ => .no
variable {F : Fs}
/-- the method m of the class c -/
theorem ce_meth {pl : Sem Bool} {ff : M D} (hc : cm.c c = some C) (cl : Cls X.K C) (hm : Meth X.K C m f) (Fn : FnG X.prog X.w X.K X.mg X.base k f fd ps (spF X.K cm n F)) (hr : Room k X.A) (hgd : X.A.guards = some []) (hb : Binds X.K fd ps dws) (hd : Vals dvs dws)
    (hdd : ∀ G, Rps X.K cm G dvs dds) (ho : CE cm X o ff) (ha : CD cm X (e :: es) l)
    (hst : starEach (e :: es) X.env = (false, eval e X.env) :: starEach es X.env) (hpl : (backTo pos (starEach es X.env)).any (·.1) = false)
    (ht : eval (.Call (.Attribute o m apos) (e :: es) [] pos) X.env = (do
      let ov ← eval o X.env
      standAt apos.atName
      let (f', first) ← holding [ov] (getMethod ov m pl)
      callWith pos f' first (backTo pos (starEach (e :: es) X.env)) (backToKw pos (keywordEach [] X.env)))) :
    CE cm X (.Call (.Attribute o m apos) (e :: es) [] pos) (eMeth c m n F dds ff l) := fun B tk => ⟨fun pins s σ H Q I ⟨G, env, r, q⟩ => by
  refine PySem.W.methodCall_KW (pl := pl) (thn ((ho B tk).run pins s σ H _ I (want.bind (Q1 := fun x H1 => ∃ a dx fs, x = .ref a ∧ H1 a = some (.ins C dx fs) ∧ fs.lookup m = none ∧ ∃ G1 env1 d, Rel X.K cm B G1 H1 σ env1 ∧ Rp X.K cm G1 x d ∧ want X.K cm (YV X.K cm) B G1 σ Q ((l env1).bind fun ds env2 => if (d :: (ds ++ dds)).length = n then (F none (d :: (ds ++ dds))).toR env2 else .no)) r q fun d env1 G1 H1 v e1 r1 y q1 => ?_)) fun u s1 ⟨x, H1, I1, rx, a, dx, fs, ex, ea, lk, G1, env1, d, r1, y, q⟩ => ?_) ht
  · cases y with
    | @obj a dx C' c' fs ds h0 h1 h2 h3 h4 =>
      dsimp only at q1
      split at q1
      · rename_i hcc
        obtain ⟨hcc, hlm⟩ := hcc
        subst hcc
        rw [hc] at h0; cases h0
        have lk : fs.lookup m = none := lookup_none h3 (Option.isNone_iff_eq_none.mp hlm)
        exact ⟨a, dx, fs, rfl, r1.ex _ _ h1, lk, G1, env1, _, r1, .obj hc h1 h2 h3 h4, q1⟩
      · exact q1.elim
    | _ => exact q1.elim
  · subst ex
    obtain rfl : u = Value.ref a := rx
    refine getmeth_ok I1 ea cl hm lk ?_
    refine PySem.W.callWith_K (first := [.ref a]) (h₀ := X.base) I.ok.mod.kin hm.kp (thn ((ha B tk).run pos pins s1 σ H1 _ I1 (want.bind (Q1 := fun vs H2 => spF X.K cm n F (.ref a :: (vs ++ dvs)) H2 Q (WE B.W σ)) r1 q fun ds env2 G2 H2 vs e2 r2 y2 q2 => ?_)) fun us s2 ⟨vs, H2, I2, rv, q2⟩ => ⟨I2.kIn, ?_⟩) hst hpl
    · by_cases hn : (d :: (ds ++ dds)).length = n
      · rw [if_pos hn] at q2
        exact sp_pure r2 (.cons (y.mono e2) (Rps.append y2 (hdd G2))) hn q2
      · rw [if_neg hn] at q2; exact q2.elim
    · exact run_fnG (us := .ref a :: us) (vs := .ref a :: vs) Fn hr hgd hb hd (passAt tk.tk σ) I2 (.cons rfl rv) q2⟩
/-- o.m() -/
theorem ce_meth0 {pl : Sem Bool} {ff : M D} (hc : cm.c c = some C) (cl : Cls X.K C) (hm : Meth X.K C m f) (Fn : FnG X.prog X.w X.K X.mg X.base k f fd ps (spF X.K cm n F)) (hr : Room k X.A) (hgd : X.A.guards = some []) (hb : Binds X.K fd ps dws) (hd : Vals dvs dws)
    (hdd : ∀ G, Rps X.K cm G dvs dds) (ho : CE cm X o ff)
    (ht : eval (.Call (.Attribute o m apos) [] [] pos) X.env = (do
      let ov ← eval o X.env
      standAt apos.atName
      let (f', first) ← holding [ov] (getMethod ov m pl)
      callWith pos f' first (backTo pos (starEach [] X.env)) (backToKw pos (keywordEach [] X.env)))) :
    CE cm X (.Call (.Attribute o m apos) [] [] pos) (eMeth c m n F dds ff eNil) := fun B tk => ⟨fun pins s σ H Q I ⟨G, env, r, q⟩ => by
  refine PySem.W.methodCall_KW (pl := pl) (thn ((ho B tk).run pins s σ H _ I (want.bind (Q1 := fun x H1 => ∃ a dx fs, x = .ref a ∧ H1 a = some (.ins C dx fs) ∧ fs.lookup m = none ∧ spF X.K cm n F (.ref a :: ([] ++ dvs)) H1 Q (WE B.W σ)) r q fun d env1 G1 H1 v e1 r1 y q1 => ?_)) fun u s1 ⟨x, H1, I1, rx, a, dx, fs, ex, ea, lk, q⟩ => ?_) ht
  · cases y with
    | @obj a dx C' c' fs ds h0 h1 h2 h3 h4 =>
      dsimp only at q1
      split at q1
      · rename_i hcc
        obtain ⟨hcc, hlm⟩ := hcc
        subst hcc
        rw [hc] at h0; cases h0
        have lk : fs.lookup m = none := lookup_none h3 (Option.isNone_iff_eq_none.mp hlm)
        have q1 : want X.K cm (YV X.K cm) B G1 σ Q (if (D.obj c' ds :: ([] ++ dds)).length = n then (F none (D.obj c' ds :: ([] ++ dds))).toR env1 else .no) := q1
        by_cases hn : (D.obj c' ds :: ([] ++ dds)).length = n
        · rw [if_pos hn] at q1
          exact ⟨a, dx, fs, rfl, r1.ex _ _ h1, lk, sp_pure r1 (.cons (.obj hc h1 h2 h3 h4) (hdd G1)) hn q1⟩
        · rw [if_neg hn] at q1; exact q1.elim
      · exact q1.elim
    | _ => exact q1.elim
  · subst ex
    obtain rfl : u = Value.ref a := rx
    refine getmeth_ok I1 ea cl hm lk ?_
    exact PySem.W.callWith_K0 (first := [.ref a]) I1.kIn hm.kp (run_fnG (us := [.ref a]) (vs := [.ref a]) Fn hr hgd hb hd (passAt tk.tk σ) I1 (.cons rfl .nil) q)⟩
/-! ### C(.., k = v, ..) -/
variable {ks : List Str} {kws : List Keyword} {mm mk : Nat} {g : List Value → List Value → List Value} {gV gV' : List V → List V → List V} {gD : List D → List D → List D} {lk : M (List D)}
theorem run_makeN {E : XK} {sp : Sp} {pins : List (Addr × Obj)} {s : Shared} {us ws : List Value} {vs zs : List V} (M : Mk X.K C f) (F : FnG X.prog X.w X.K X.mg X.base k f fd ps sp) (hr : Room (k + 1) X.A) (hgd : X.A.guards = some []) (hb : KBn X.K fd ps (mm + 1) ks g gV)
    (hx : PassesAt (L2.CX X.prog X.w) X σ E) (I : Inv X pins σ H s) (r : Vals vs us) (rz : Vals zs ws) (l1 : vs.length = mm) (l2 : zs.length = ks.length)
    (h : ∀ x dx, H x = none → H dx = none → dx ≠ x → sp (gV (.ref x :: vs) zs) (upd (upd H dx (.own x)) x (.ins C dx [])) (fun v H2 => v = .non ∧ Q (.ref x) H2) E) :
    wpAny (model X.prog X.w) X.A (call (.ref C) us (ks.zip ws)) (EP X pins σ Q) X.xe s := by
  have hq := h (s.heap.objs.size + 1) s.heap.objs.size (I.hok.fresh (Nat.le_succ _)) (I.hok.fresh (Nat.le_refl _)) (Nat.ne_of_lt (Nat.lt_succ_self _))
  have I2 := Inv.made (C := C) I
  have r1 : Vals (V.ref (s.heap.objs.size + 1) :: vs) (Value.ref (s.heap.objs.size + 1) :: us) := .cons rfl r
  have r2 := hb.rel r1 rz
  refine wpAny_call (make_map (f := f) I.kIn M.makes M.init (beq_iff_eq.mp M.fn) (codeAny_mono (F.runs _ X.stack _ _ ⟨Value.ref (s.heap.objs.size + 1) :: us, ks.zip ws⟩ _ _ _ E (hr.make C us _) (guards_make hgd)
    (I2.env0.make C us _) (hb.to _ (Value.ref (s.heap.objs.size + 1) :: us) ws I2.kIn (by rw [List.length_cons, ← r.length, l1]) (rz.length.symm.trans l2)) r2 hq) fun r s' hq' => ?_))
  cases r with
  | error e => exact hx pins _ _ e s' I2 hq'
  | ok fl =>
    cases fl with
    | ret u =>
      obtain ⟨v, H', I3, rv, ev, q3⟩ := I2.after hq'
      subst ev
      exact ⟨rv, ⟨V.ref (s.heap.objs.size + 1), H', I3, rfl, q3⟩⟩
    | next => exact False.elim hq'
    | brk => exact False.elim hq'
    | cont => exact False.elim hq'
def eMkN (c : Str) (n m mk : Nat) (F : Fis) (gD : List D → List D → List D) (l lk : M (List D)) : M D := fun env => (l env).bind fun ds env1 => (lk env1).bind fun es env2 =>
  if ds.length = m ∧ es.length = mk ∧ (gD ds es).length = n then (F c [] (gD ds es)).toR c env2 else .no
theorem ce_mkN (M : Mk X.K C f) (F : FnG X.prog X.w X.K X.mg X.base k f fd ps (spI X.K cm n Fn)) (hr : Room (k + 1) X.A) (hgd : X.A.guards = some []) (hg : Gl X c) (hm : X.mg c = some (.ref C)) (hc : cm.c c = some C) (hb : KBn X.K fd ps (mm + 1) ks g gV)
    (hself : ∀ x vs zs, gV (x :: vs) zs = x :: gV' vs zs) (hrel : ∀ G vs ds zs es, Rps X.K cm G vs ds → Rps X.K cm G zs es → Rps X.K cm G (gV' vs zs) (gD ds es)) (ha : CD cm X (e :: es) l) (hkw : CK cm X kws lk)
    (hall : (backToKw pos (keywordEach kws X.env)).all (·.1.isSome) = true) (hks : (backToKw pos (keywordEach kws X.env)).filterMap (·.1) = ks)
    (hdb : (c == ("__debug__" : Str)) = false) (he : starEach (e :: es) X.env = (false, eval e X.env) :: starEach es X.env)
    (hpl : ((backTo pos (starEach (e :: es) X.env)).any (·.1) || (backToKw pos (keywordEach kws X.env)).any (·.1.isNone)) = false) (hmk : ks.length = mk) :
    CE cm X (.Call (.Name c p) (e :: es) kws pos) (eMkN c n mm mk Fn gD l lk) := fun B tk => ⟨fun pins s σ H Q I ⟨G, env, r, q⟩ => by
  subst hmk
  refine wpAny_Call_Name_kw (ld_glob I hg hm ?_ hdb)
  refine PySem.W.callWith_KW (h₀ := X.base) I.ok.mod.kin M.kp hall (thn ((ha B tk).run pos pins s σ H _ I (want.bind (Q1 := fun vs H1 => ∃ G1 env1 ds, Rel X.K cm B G1 H1 σ env1 ∧ Rps X.K cm G1 vs ds ∧ want X.K cm (YV X.K cm) B G1 σ Q ((lk env1).bind fun es env2 =>
    if ds.length = mm ∧ es.length = ks.length ∧ (gD ds es).length = n then (Fn c [] (gD ds es)).toR c env2 else .no)) r q fun ds env1 G1 H1 vs e1 r1 y q1 => ⟨G1, env1, ds, r1, y, q1⟩)) fun us s1 ⟨vs, H1, I1, rv, G1, env1, ds, r1, y, q1⟩ => ?_) hpl he
  refine thn ((hkw B tk).run pos pins s1 σ H1 _ I1 (want.bind (Q1 := fun zs H2 => vs.length = mm ∧ zs.length = ks.length ∧ ∀ x dx, H2 x = none → H2 dx = none → dx ≠ x → spI X.K cm n Fn (gV (.ref x :: vs) zs) (upd (upd H2 dx (.own x)) x (.ins C dx [])) (fun v H3 => v = .non ∧ Q (.ref x) H3) (WE B.W σ)) r1 q1 fun es env2 G2 H2 zs e2 r2 y2 q2 => ?_)) fun ws s2 ⟨zs, H2, I2, rz, l1, l2, q2⟩ => ⟨I2.kIn, ?_⟩
  · by_cases hn : ds.length = mm ∧ es.length = ks.length ∧ (gD ds es).length = n
    · rw [if_pos hn] at q2
      refine ⟨y.length.trans hn.1, y2.length.trans hn.2.1, fun x dx hx hdx ne => ?_⟩
      rw [hself]
      exact spI_new r2 hc (hrel _ _ _ _ _ (y.mono e2) y2) hn.2.2 hx hdx ne q2
    · rw [if_neg hn] at q2; exact q2.elim
  · rw [hks]
    exact run_makeN M F hr hgd hb (passAt tk.tk σ) I2 rv rz l1 l2 q2⟩
theorem ce_mkN0 (M : Mk X.K C f) (F : FnG X.prog X.w X.K X.mg X.base k f fd ps (spI X.K cm n Fn)) (hr : Room (k + 1) X.A) (hgd : X.A.guards = some []) (hg : Gl X c) (hm : X.mg c = some (.ref C)) (hc : cm.c c = some C) (hb : KBn X.K fd ps (0 + 1) ks g gV)
    (hself : ∀ x vs zs, gV (x :: vs) zs = x :: gV' vs zs) (hrel : ∀ G vs ds zs es, Rps X.K cm G vs ds → Rps X.K cm G zs es → Rps X.K cm G (gV' vs zs) (gD ds es)) (hkw : CK cm X kws lk)
    (hall : (backToKw pos (keywordEach kws X.env)).all (·.1.isSome) = true) (hks : (backToKw pos (keywordEach kws X.env)).filterMap (·.1) = ks)
    (hdb : (c == ("__debug__" : Str)) = false)
    (hpl : ((backTo pos (starEach [] X.env)).any (·.1) || (backToKw pos (keywordEach kws X.env)).any (·.1.isNone)) = false) (hmk : ks.length = mk) :
    CE cm X (.Call (.Name c p) [] kws pos) (eMkN c n 0 mk Fn gD eNil lk) := fun B tk => ⟨fun pins s σ H Q I ⟨G, env, r, q⟩ => by
  subst hmk
  refine wpAny_Call_Name_kw (ld_glob I hg hm ?_ hdb)
  refine PySem.W.callWith_KW0 (h₀ := X.base) I.ok.mod.kin M.kp hall ?_ hpl
  have q : want X.K cm (YV X.K cm) B G σ Q ((lk env).bind fun es env2 => if ([] : List D).length = 0 ∧ es.length = ks.length ∧ (gD [] es).length = n then (Fn c [] (gD [] es)).toR c env2 else .no) := q
  refine thn ((hkw B tk).run pos pins s σ H _ I (want.bind (Q1 := fun zs H2 => zs.length = ks.length ∧ ∀ x dx, H2 x = none → H2 dx = none → dx ≠ x → spI X.K cm n Fn (gV [.ref x] zs) (upd (upd H2 dx (.own x)) x (.ins C dx [])) (fun v H3 => v = .non ∧ Q (.ref x) H3) (WE B.W σ)) r q fun es env2 G2 H2 zs e2 r2 y2 q2 => ?_)) fun ws s2 ⟨zs, H2, I2, rz, l2, q2⟩ => ⟨I2.kIn, ?_⟩
  · by_cases hn : ([] : List D).length = 0 ∧ es.length = ks.length ∧ (gD [] es).length = n
    · rw [if_pos hn] at q2
      refine ⟨y2.length.trans hn.2.1, fun x dx hx hdx ne => ?_⟩
      rw [hself]
      exact spI_new r2 hc (hrel _ _ _ _ _ .nil y2) hn.2.2 hx hdx ne q2
    · rw [if_neg hn] at q2; exact q2.elim
  · rw [hks]
    exact run_makeN (mm := 0) (us := []) (vs := []) M F hr hgd hb (passAt tk.tk σ) I2 .nil rz rfl l2 q2⟩
end
end Vs

set_option Elab.async false
set_option linter.all false
set_option maxRecDepth 100000
set_option maxHeartbeats 4000000
/-! VsX4: own exceptions as values; made and raised by keywords; the facts of their classes as one look. -/
namespace Vs
open PySem PySem.Spec PyProof.Rows L2 Evl
/-! ### making by keywords -/
section
open PySem.W PySem.Calls PySem.HandSPX
variable {prog : Program} {w : World} {A : Around} {E : Value → Shared → Prop} {R : Result → Shared → Prop} {h : Heap} {g : Array GenState} {d : Drawn} {t : Nat} {os : OsState}
variable {nm q : Str} {C N : Addr} {bs bm bmB : List Value} {hdct : Bool} {sn : List Str} {sub : List Value} {ab : Bool} {col : Option Bool} {dd : Option Addr} {k0 k1 k2 k3 k5 : Option Value} {B newId initId : String} {kw : List (Str × Value)}
theorem new_check_kw {M : Model} (F : ExcBaseFacts B newId initId bmB) (hT : ∀ X : String, bm.contains (.type X) = bmB.contains (.type X)) {rest : List Value} {Q : Unit → Shared → Prop}
    (hC : h.get? C = some (excClassObj nm q C N bs bm hdct sn sub ab col dd k0 k1 k2 k3 k5 newId)) (hq : Q () ⟨h, g, d, t, os⟩) : wpAny M A (checkBuiltinCall newId ⟨.ref C :: rest, kw⟩) Q E ⟨h, g, d, t, os⟩ := by
  have hc : (Value.ref C :: bm).contains (.type B) = true := by rw [List.contains_cons, hT, F.hasB, Bool.or_true]
  have hs := F.noStar
  simp only [checkBuiltinCall, F.newKind, F.newSplit, F.newRow]
  repeat (first | refine wpAny_loadPart_at hC ?_ | (refine wpAny_isSubtype_exc hC ?_; rw [hc]) | refine wpAny_staticBase_exc hC ?_ | refine wpAny_madeBy_exc hC ?_ | simp only [bne_self_eq_false, Bool.false_eq_true, if_false] | wp_step)
  exact hq
theorem new_kw (F : ExcBaseFacts B newId initId bmB) (hT : ∀ X : String, bm.contains (.type X) = bmB.contains (.type X)) {rest : List Value}
    (hC : h.get? C = some (excClassObj nm q C N bs bm hdct sn sub ab col dd k0 k1 k2 k3 k5 newId)) (hl : rest.length ≤ sizeLine)
    (hq : R (.ok (.ret (.ref (h.objs.size + 1)))) ⟨(h.push (kdv_tup rest)).push (excO C h.objs.size), g, d, t, os⟩) :
    codeAny (model prog w) A (.builtin newId ⟨.ref C :: rest, kw⟩) R ⟨h, g, d, t, os⟩ := by
  have he := F.ends
  have h1 : (Value.ref C :: bm).contains (.type B) = true := by rw [List.contains_cons, hT, F.hasB, Bool.or_true]
  have h2 : (Value.ref C :: bm).contains (.type "AttributeError") = false := by rw [List.contains_cons, hT, F.noAttr]; rfl
  have h3 : (Value.ref C :: bm).contains (.type "NameError") = false := by rw [List.contains_cons, hT, F.noName]; rfl
  refine codeAny_builtinAt F.entry ?_
  unfold Builtin.«BaseException.__new__»
  refine _root_.PySem.wpAt_bind ?_
  show _root_.PySem.wpAt _ _ _ (stack >>= _) _ _ _
  refine _root_.PySem.wpAt_bind (_root_.PySem.wpAt_stack fun p below => _root_.PySem.wpAt_of_wpAny ?_)
  wp_walk
  refine _root_.PySem.wpAt_of_wpAny ?_
  rw [F.owner]
  repeat (first | with_reducible refine wpAny_madeHere_exc F.canon hC ?_ | with_reducible refine wpAny_loadPart_at hC ?_ | (with_reducible refine wpAny_isSubtype_exc hC ?_; first | rw [h1] | rw [h2] | rw [h3]) | wp_step)
  show R _ _
  rw [Heap.size_push]
  exact hq
theorem type_call_kw (F : ExcBaseFacts B newId initId bmB) (hT : ∀ X : String, bm.contains (.type X) = bmB.contains (.type X)) {rest : List Value} {fI : Addr} {Q : Fin → Shared → Prop}
    (hC : h.get? C = some (excClassObj nm q C N bs bm hdct sn sub ab col dd k0 k1 k2 k3 k5 newId))
    (hi : W.Looks (model prog w) h (typeLookup (.ref C) "__init__") (some (.ref fI))) (hb : ∀ self, W.Looks (model prog w) h (bindSpecial (.ref fI) self) (.ref fI, [self])) (hl : rest.length ≤ sizeLine)
    (hq : codeAny (model prog w) A (.call (.ref fI) ⟨.ref (h.objs.size + 1) :: rest, kw⟩)
      (fun r s' => match r with | .ok (.ret v) => v = .none ∧ Q (.done (.ret (.ref (h.objs.size + 1)))) s' | .ok _ => False | .error e => E e s')
      ⟨(h.push (W.kdv_tup rest)).push (excO C h.objs.size), g, d, t, os⟩) :
    wpAny (model prog w) A (Builtin.«type.__call__» ⟨.ref C :: rest, kw⟩) Q E ⟨h, g, d, t, os⟩ := by
  repeat (first | with_reducible refine wpAny_loadPart_at hC ?_ | with_reducible refine wpAny_madeBy_exc hC ?_ | wp_step)
  refine codeAny_call_builtin_code (Code.quiet_builtin _ F.quiet) (new_check_kw F hT hC ?_)
  refine new_kw F hT hC hl ?_
  show wpAny _ _ _ _ _ _
  have k : ∀ b o, h.get? b = some o → ((h.push (W.kdv_tup rest)).push (excO C h.objs.size)).get? b = some o := fun b o e => Heap.get?_push_of_some _ (Heap.get?_push_of_some _ e)
  have hC1 := k _ _ hC
  have hg : ((h.push (W.kdv_tup rest)).push (excO C h.objs.size)).get? (h.objs.size + 1) = some (excO C h.objs.size) := by heap_get
  have hc : (Value.ref C :: bm).contains (.ref C) = true := by simp
  have i1 := hi.keeps k
  have b1 := (hb (.ref (h.objs.size + 1))).keeps k
  unfold isInstance
  repeat (first | with_reducible refine wpAny_loadPart_at hg ?_ | (with_reducible refine wpAny_isSubtype_exc hC1 ?_; rw [hc]) | wp_step)
  show wpAny _ _ (typeLookup (.ref C) _) _ _ _
  refine i1.at ?_
  refine wpAny_holding (wpAny_bind (b1.at ?_))
  refine wpAny_bind (wpAny_call (codeAny_mono hq fun r s' z => ?_))
  rcases r with e | (v | _ | _ | _) <;> first | exact z | exact z.elim | skip
  obtain ⟨rfl, z⟩ := z
  first
    | exact wpAny_pure (wpAny_pure z)
    | (wp_walk; exact z)
theorem call_kw (F : ExcBaseFacts B newId initId bmB) (hT : ∀ X : String, bm.contains (.type X) = bmB.contains (.type X)) {rest : List Value} {fI : Addr}
    (hC : h.get? C = some (excClassObj nm q C N bs bm hdct sn sub ab col dd k0 k1 k2 k3 k5 newId))
    (hi : W.Looks (model prog w) h (typeLookup (.ref C) "__init__") (some (.ref fI))) (hb : ∀ self, W.Looks (model prog w) h (bindSpecial (.ref fI) self) (.ref fI, [self])) (hl : rest.length ≤ sizeLine)
    (hq : codeAny (model prog w) (A.under (.builtin "type.__call__" ⟨.ref C :: rest, kw⟩)) (.call (.ref fI) ⟨.ref (h.objs.size + 1) :: rest, kw⟩) (W.InitBack (h.objs.size + 1) R)
      ⟨(h.push (W.kdv_tup rest)).push (excO C h.objs.size), g, d, t, os⟩) :
    codeAny (model prog w) A (.call (.ref C) ⟨rest, kw⟩) R ⟨h, g, d, t, os⟩ := by
  have f1 := tc_lookup
  have f2 := tc_bind (.ref C)
  have hTy : (⟨h, g, d, t, os⟩ : Shared).TypeIs (.ref C) "type" := ⟨_, hC, rfl⟩
  refine codeAny_of_tree ?_
  show wpAny _ _ (callAny (.ref C) _) _ _ _
  repeat (any_goals (first | assumption | with_reducible refine wpAny_loadPart_at hC ?_ | wp_step))
  refine ⟨rfl, ?_⟩
  refine codeAny_call_builtin_at (Code.quiet_builtin _ (by decide +kernel)) entry_typeCall (wpAny_check_type_call_sub hC (type_call_kw F hT hC hi hb hl ?_))
  refine codeAny_mono hq fun r s' z => ?_
  rcases r with e | (v | _ | _ | _) <;> exact z
end
/-! ### the making, by place and by keywords -/
/-- what making an own exception needs -/
structure XmF (P : Program) (w : World) (K : PySem.W.Frag) (mg : Str → Option Value) (base : Heap) (cm : Cm) (k : Nat) (c : Str) (C fI : Addr) (fd : FuncData) (ps ns : List Str) : Prop where
  o : OexC K C
  ini : PySem.W.findIn K (.ref C) "__init__" = some (some (.ref fI))
  ty : PySem.W.typeIn K (.ref fI) = some (.type "function")
  fn : FnOk P w K mg base (L2.CX P w) k fI fd ps (spInit C ns)
  mg : mg c = some (.ref C)
  cm : cm.x c = some C
  few : ns.length ≤ 900
section
variable {cm : Cm} {X : Cx} {B : Base} {pins : List (Addr × Obj)} {σ : L2.St} {k : Nat} {C fI : Addr} {fd : FuncData} {ps ns : List Str} {c : Str} {e : Expr} {es : List Expr} {l : M (List D)} {p pos rp : Pos}
theorem exo_upd {H1 : Hp} {a d C : Addr} {fs : List (Str × V)} (ha : H1 a = none) (ne : d ≠ a) : upd (del (upd (upd (upd H1 a (exo a C none)) d (exd d fs)) a (exo a C (some d))) a) d (.xd fs) = upd H1 d (.xd fs) := by
  funext b
  by_cases hb : b = d
  · subst hb; rw [upd_same, upd_same]
  · rw [upd_ne hb, upd_ne hb]
    by_cases hb2 : b = a
    · subst hb2; rw [del_same, ha]
    · rw [del_ne hb2, upd_ne hb2, upd_ne hb, upd_ne hb2]
theorem run_exc {H1 : Hp} {s1 : Shared} {us all : List Value} {kw : List (Str × Value)} {ws : List V} {Q E : Value → Shared → Prop} (T : XmF X.prog X.w X.K X.mg X.base cm k c C fI fd ps ns) (hr : Room (k + 1) X.A) (I1 : Inv X pins σ H1 s1) (hus : us.length ≤ sizeLine)
    (hbt : ∀ (x : Addr) (s : Shared), X.K.In s.heap → BindsTo s fd ⟨.ref x :: us, kw⟩ (ps.zip (.ref x :: all))) (r1 : Vals ws all) (hl : ws.length = ns.length)
    (hq : ∀ (a d t0 : Addr) (G h2 : Heap) (g2 : Array GenState) (d2 : Drawn) (t2 : Nat), H1 a = none → H1 d = none → d ≠ a → Inv X pins σ (upd H1 d (.xd (ns.zip ws).reverse)) ⟨G, g2, d2, t2, s1.os⟩ → (∀ b o, G.get? b = some o → h2.get? b = some o) → G.get? a = none →
      h2.get? a = some ({ cls := .ref C, dict := some d, data := .fields #[.ref t0, .none, .none, .none, .bool false, .none] } : Obj) → AllBare g2 → Q (.ref a) ⟨h2, g2, d2, t2, s1.os⟩) :
    wpAny (model X.prog X.w) X.A (call (.ref C) us kw) Q E s1 := by
  obtain ⟨nm, q, N, bs, bm, sn, sub, ab, col, dd, k0, k1, k2, k3, k5, hC, hbm⟩ := T.o.cls
  obtain ⟨hp, g, dr, tk, os⟩ := s1
  have hsz : hp.objs.size ≤ hp.objs.size + 1 := Nat.le_succ _
  have hn : H1 (hp.objs.size + 1) = none := I1.hok.fresh hsz
  have kk : ∀ b o, hp.get? b = some o → ((hp.push (PySem.W.kdv_tup us)).push (PySem.HandSPX.excO C hp.objs.size)).get? b = some o := fun b o e => Heap.get?_push_of_some _ (Heap.get?_push_of_some _ e)
  have hget : ((hp.push (PySem.W.kdv_tup us)).push (PySem.HandSPX.excO C hp.objs.size)).get? (hp.objs.size + 1) = some (PySem.HandSPX.excO C hp.objs.size) := by heap_get
  have I2 : Inv X pins σ (upd H1 (hp.objs.size + 1) (exo (hp.objs.size + 1) C none)) ⟨(hp.push (PySem.W.kdv_tup us)).push (PySem.HandSPX.excO C hp.objs.size), g, dr, tk, os⟩ :=
    I1.laid (t' := tk) (a := hp.objs.size + 1) (o := exo (hp.objs.size + 1) C none) (h' := (hp.push (PySem.W.kdv_tup us)).push (PySem.HandSPX.excO C hp.objs.size)) kk hsz (exo_ok hget)
  have r2 : Vals (V.ref (hp.objs.size + 1) :: ws) (Value.ref (hp.objs.size + 1) :: all) := .cons rfl r1
  have hq0 : spInit C ns (V.ref (hp.objs.size + 1) :: ws) (upd H1 (hp.objs.size + 1) (exo (hp.objs.size + 1) C none))
      (fun v H2 => v = .non ∧ ∃ d, H1 d = none ∧ d ≠ hp.objs.size + 1 ∧ H2 = upd (upd (upd H1 (hp.objs.size + 1) (exo (hp.objs.size + 1) C none)) d (exd d (ns.zip ws).reverse)) (hp.objs.size + 1) (exo (hp.objs.size + 1) C (some d))) (fun _ _ _ => False) :=
    ⟨_, ws, rfl, hl, upd_same, fun d hd ne => ⟨rfl, d, by rw [upd_ne ne] at hd; exact hd, ne, rfl⟩⟩
  refine wpAny_call (call_kw F.excBase_ValueError (fun Y => PySem.HandSPX.refsVE_contains Y bm hbm) (I1.kIn _ _ hC) (PySem.W.looks_findIn I1.kIn T.ini) (fun self => PySem.W.bind_fn I1.kIn self T.ty) hus
    (codeAny_mono (T.fn.run _ X.stack _ _ ⟨Value.ref (hp.objs.size + 1) :: us, kw⟩ (Value.ref (hp.objs.size + 1) :: all) _ _ (fun _ _ _ => False) (hr.make C us kw) (I2.env0.make C us kw) (hbt _ _ I2.kIn) r2 hq0) fun r s' hq' => ?_))
  cases r with
  | error er =>
    have z := hq'
    obtain ⟨_, _, _, _, _, _, _, _, _, _, _, _, z⟩ := z
    exact z.elim
  | ok fl =>
    cases fl with
    | ret u =>
      obtain ⟨v, H2, os2, bare2, un2, hok2, rv, ev, d, hd1, ne, rfl⟩ := hq'
      subst ev
      obtain ⟨h2, g2, d2, t2, os'⟩ := s'
      have os2 : os' = os := os2
      subst os2
      obtain ⟨t0, G, J, kG, ge, hoe, na⟩ := mk_end0 (d2 := d2) (t2 := t2) (fs := (ns.zip ws).reverse) (d := d) I1 hsz kk un2 hok2 rfl bare2 upd_same (by rw [upd_ne ne, upd_same]) hd1
      rw [exo_upd hn ne] at J
      exact ⟨rv, hq _ d t0 G h2 g2 d2 t2 hn hd1 ne J kG ge hoe bare2⟩
    | next => exact False.elim hq'
    | brk => exact False.elim hq'
    | cont => exact False.elim hq'
/-- the made exception, held -/
theorem exc_held {H1 : Hp} {env : Vs.Env} {G1 : Hp} {G h2 : Heap} {g2 : Array GenState} {d2 : Drawn} {t2 : Nat} {os : OsState} {a d t0 : Addr} {ws : List V} {ds : List D} {Q : VK} (hc : cm.x c = some C) (r : Rel X.K cm B G1 H1 σ env) (y : Rps X.K cm G1 ws ds) (hl : ds.length = ns.length)
    (na : H1 a = none) (nd : H1 d = none) (ne : d ≠ a) (J : Inv X pins σ (upd H1 d (.xd (ns.zip ws).reverse)) ⟨G, g2, d2, t2, os⟩) (kG : ∀ b o, G.get? b = some o → h2.get? b = some o) (ge : G.get? a = none)
    (ho : h2.get? a = some ({ cls := .ref C, dict := some d, data := .fields #[.ref t0, .none, .none, .none, .bool false, .none] } : Obj)) (q : want X.K cm (YV X.K cm) B G1 σ Q (.ok (.exn c (ns.zip ds).reverse) env)) :
    EP X pins σ Q (.ref a) ⟨h2, g2, d2, t2, os⟩ := by
  have na1 : (upd H1 d (.xd (ns.zip ws).reverse)) a = none := by rw [upd_ne (Ne.symm ne)]; exact na
  have new : ObjOk X.prog X.w (upd (upd H1 d (.xd (ns.zip ws).reverse)) a (XO C d a)) h2 a (XO C d a) := ⟨⟨_, _, ho, ⟨rfl, rfl⟩, rfl⟩, ⟨_, ho⟩, fun h1 h2 ⟨o, v, q, r⟩ k => ⟨o, v, k o q, r⟩⟩
  have I := J.laidN (t' := t2) kG ge na1 new
  obtain ⟨r1, e1⟩ := r.alloc (o := .xd (ns.zip ws).reverse) nd
  obtain ⟨r2, e2⟩ := r1.alloc (o := XO C d a) na1 xo_ntbl
  obtain ⟨z1, z2⟩ := zip_rps y hl
  refine ⟨.ref a, _, I, rfl, q _ _ _ (e1.trans e2) r2 (.exn hc upd_same (e2 _ _ upd_same) ?_ ?_)⟩
  · rw [List.map_reverse, List.map_reverse, z1]
  · rw [List.map_reverse, List.map_reverse]
    exact (z2.mono (e1.trans e2)).reverse
theorem cs_raiseX (T : XmF X.prog X.w X.K X.mg X.base cm k c C fI fd ps ns) (hb : Binds X.K fd ps []) (hr : Room (k + 1) X.A) (hc : X.calm = true) (hg : Gl X c) (ha : CD cm X (e :: es) l) (hdb : (c == ("__debug__" : Str)) = false := by decide) (he : starEach (e :: es) X.env = (false, eval e X.env) :: starEach es X.env := by rfl)
    (hpl : (backTo pos (starEach es X.env)).any (·.1) = false := by rfl) : CS cm X (.Raise (some (.Call (.Name c p) (e :: es) [] pos)) none rp) (sRaise c ns l) := cs_raise ⟨T.o, T.ini, T.ty, T.fn, hb, T.mg, T.cm, T.few⟩ hr hc hg ha hdb he hpl
def eX (c : Str) (ns : List Str) (l : M (List D)) : M D := fun env => (l env).bind fun ds env1 => if ds.length = ns.length then .ok (.exn c (ns.zip ds).reverse) env1 else .no
theorem ce_exc (T : XmF X.prog X.w X.K X.mg X.base cm k c C fI fd ps ns) (hb : Binds X.K fd ps []) (hps : ps.length = ns.length + 1) (hr : Room (k + 1) X.A) (hg : Gl X c) (ha : CD cm X (e :: es) l) (hdb : (c == ("__debug__" : Str)) = false := by decide)
    (he : starEach (e :: es) X.env = (false, eval e X.env) :: starEach es X.env := by rfl) (hpl : (backTo pos (starEach es X.env)).any (·.1) = false := by rfl) : CE cm X (.Call (.Name c p) (e :: es) [] pos) (eX c ns l) := fun B tk => ⟨fun pins s σ H Q I ⟨G, env, r, q⟩ => by
  refine wpAny_Call_Name_kw (ld_glob I hg T.mg ?_ hdb)
  refine PySem.W.callWith_K (h₀ := X.base) I.ok.mod.kin T.o.kC (thn ((ha B tk).run pos pins s σ H _ I (want.bind (Q1 := fun vs H1 => ∃ G1 env1 ds, Rel X.K cm B G1 H1 σ env1 ∧ Rps X.K cm G1 vs ds ∧ want X.K cm (YV X.K cm) B G1 σ Q (if ds.length = ns.length then .ok (.exn c (ns.zip ds).reverse) env1 else .no)) r q fun ds env1 G1 H1 vs e1 r1 y q1 => ⟨G1, env1, ds, r1, y, q1⟩)) fun us s1 ⟨vs, H1, I1, rv, G1, env1, ds, r1, y, q1⟩ => ⟨I1.kIn, ?_⟩) he hpl
  by_cases hl : ds.length = ns.length
  · rw [if_pos hl] at q1
    have hv : vs.length = ns.length := y.length.trans hl
    have hu : us.length = ns.length := rv.length.symm.trans hv
    refine run_exc T hr I1 (by show us.length ≤ _; rw [hu, sizeLine_eq]; have := T.few; omega) (fun x s X1 => ?_) rv hv fun a d t0 G h2 g2 d2 t2 na nd ne J kG ge ho _ => exc_held T.cm r1 y hl na nd ne J kG ge ho q1
    have := hb s (.ref x :: us) X1 (by simp [hu, hps])
    simpa using this
  · rw [if_neg hl] at q1; exact q1.elim⟩
variable {ks : List Str} {kws : List Keyword} {mk : Nat} {gg : List Value → List Value → List Value} {gg' : List Value → List Value} {gV : List V → List V → List V} {gV' : List V → List V} {gD : List D → List D} {lk : M (List D)}
def eXN (c : Str) (ns : List Str) (mk : Nat) (gD : List D → List D) (lk : M (List D)) : M D := fun env => (lk env).bind fun es env1 => if es.length = mk ∧ (gD es).length = ns.length then .ok (.exn c (ns.zip (gD es)).reverse) env1 else .no
/-- C(k = v, ..) -/
theorem ce_excN (T : XmF X.prog X.w X.K X.mg X.base cm k c C fI fd ps ns) (hb : KBn X.K fd ps (0 + 1) ks gg gV) (hself : ∀ x ws, gg [x] ws = x :: gg' ws) (hselfV : ∀ x zs, gV [x] zs = x :: gV' zs) (hrel : ∀ G zs es, Rps X.K cm G zs es → Rps X.K cm G (gV' zs) (gD es))
    (hr : Room (k + 1) X.A) (hg : Gl X c) (hkw : CK cm X kws lk)
    (hall : (backToKw pos (keywordEach kws X.env)).all (·.1.isSome) = true) (hks : (backToKw pos (keywordEach kws X.env)).filterMap (·.1) = ks)
    (hdb : (c == ("__debug__" : Str)) = false)
    (hpl : ((backTo pos (starEach [] X.env)).any (·.1) || (backToKw pos (keywordEach kws X.env)).any (·.1.isNone)) = false) (hmk : ks.length = mk) :
    CE cm X (.Call (.Name c p) [] kws pos) (eXN c ns mk gD lk) := fun B tk => ⟨fun pins s σ H Q I ⟨G, env, r, q⟩ => by
  subst hmk
  refine wpAny_Call_Name_kw (ld_glob I hg T.mg ?_ hdb)
  refine PySem.W.callWith_KW0 (h₀ := X.base) I.ok.mod.kin T.o.kC hall ?_ hpl
  refine thn ((hkw B tk).run pos pins s σ H _ I (want.bind (Q1 := fun zs H1 => ∃ G1 env1 es, Rel X.K cm B G1 H1 σ env1 ∧ Rps X.K cm G1 zs es ∧ want X.K cm (YV X.K cm) B G1 σ Q (if es.length = ks.length ∧ (gD es).length = ns.length then .ok (.exn c (ns.zip (gD es)).reverse) env1 else .no)) r q fun es env1 G1 H1 zs e1 r1 y q1 => ⟨G1, env1, es, r1, y, q1⟩)) fun ws s1 ⟨zs, H1, I1, rz, G1, env1, es, r1, y, q1⟩ => ⟨I1.kIn, ?_⟩
  by_cases hl : es.length = ks.length ∧ (gD es).length = ns.length
  · rw [if_pos hl] at q1
    have y2 := hrel _ _ _ y
    have hz : zs.length = ks.length := y.length.trans hl.1
    have hw : ws.length = ks.length := rz.length.symm.trans hz
    have rr : Vals (gV' zs) (gg' ws) := by
      have := hb.rel (vs := [.non]) (us := [.none]) (.cons rfl .nil) rz
      rw [hself, hselfV] at this
      cases this with
      | cons _ h => exact h
    rw [hks]
    refine run_exc T hr I1 (by show 0 ≤ sizeLine; exact Nat.zero_le _) (fun x s X1 => ?_) rr (y2.length.trans hl.2) fun a d t0 G h2 g2 d2 t2 na nd ne J kG ge ho _ => exc_held T.cm r1 y2 hl.2 na nd ne J kG ge ho q1
    have := hb.to s [.ref x] ws X1 rfl hw
    rw [hself] at this
    exact this
  · rw [if_neg hl] at q1; exact q1.elim⟩
def sRaiseN (c : Str) (ns : List Str) (mk : Nat) (gD : List D → List D) (lk : M (List D)) : MS := fun env => (lk env).toS fun es env1 => if es.length = mk ∧ (gD es).length = ns.length then .exc ⟨c, (ns.zip (gD es)).reverse⟩ env1 else .no
/-- raise C(k = v, ..) -/
theorem cs_raiseN (T : XmF X.prog X.w X.K X.mg X.base cm k c C fI fd ps ns) (hb : KBn X.K fd ps (0 + 1) ks gg gV) (hself : ∀ x ws, gg [x] ws = x :: gg' ws) (hselfV : ∀ x zs, gV [x] zs = x :: gV' zs) (hrel : ∀ G zs es, Rps X.K cm G zs es → Rps X.K cm G (gV' zs) (gD es))
    (hr : Room (k + 1) X.A) (hc : X.calm = true) (hg : Gl X c) (hkw : CK cm X kws lk)
    (hall : (backToKw pos (keywordEach kws X.env)).all (·.1.isSome) = true) (hks : (backToKw pos (keywordEach kws X.env)).filterMap (·.1) = ks)
    (hdb : (c == ("__debug__" : Str)) = false)
    (hpl : ((backTo pos (starEach [] X.env)).any (·.1) || (backToKw pos (keywordEach kws X.env)).any (·.1.isNone)) = false) (hmk : ks.length = mk) :
    CS cm X (.Raise (some (.Call (.Name c p) [] kws pos)) none rp) (sRaiseN c ns mk gD lk) := fun B tk hp =>
  (ps_raise hc tk.tk (t := fun σ H Q => tG X.K cm (YD X.K cm) B lk σ H fun zs H1 => ∃ ws, ws = gV' zs ∧ zs.length = ks.length ∧ ws.length = ns.length ∧ ∀ d, H1 d = none → Q (.ref C) (some d) (upd H1 d (.xd (ns.zip ws).reverse))) (fun pins s σ H Q I h => by
    refine wpAny_Call_Name_kw (ld_glob I hg T.mg ?_ hdb)
    refine PySem.W.callWith_KW0 (h₀ := X.base) I.ok.mod.kin T.o.kC hall ?_ hpl
    refine thn ((hkw B tk).run pos pins s σ H _ I h) fun ws s1 ⟨zs, H1, I1, rz, _, rfl, hz, hn, q1⟩ => ⟨I1.kIn, ?_⟩
    have hw : ws.length = ks.length := rz.length.symm.trans hz
    have rr : Vals (gV' zs) (gg' ws) := by
      have := hb.rel (vs := [.non]) (us := [.none]) (.cons rfl .nil) rz
      rw [hself, hselfV] at this
      cases this with
      | cons _ h => exact h
    rw [hks]
    refine run_exc T hr I1 (by show 0 ≤ sizeLine; exact Nat.zero_le _) (fun x s X1 => ?_) rr hn fun a d t0 G h2 g2 d2 t2 na nd ne J kG ge ho hb2 => ?_
    · have := hb.to s [.ref x] ws X1 rfl hw
      rw [hself] at this
      exact this
    · exact ⟨a, _, _, ⟨G, g2, d2, t2, s1.os⟩, _, .ref C, some d, rfl, J, kG, ge, ho, ⟨rfl, rfl⟩, rfl, rfl, by rw [upd_ne (Ne.symm ne)]; exact na, rfl, hb2, raises_own T.o.exC T.o.tyC, q1 d nd⟩)).weak fun Dn σ H ⟨G, env, r, q⟩ => by
    subst hmk
    refine wantS.bind r q fun es env1 G1 H1 zs e1 r1 y q1 => ?_
    by_cases hl : es.length = ks.length ∧ (gD es).length = ns.length
    · rw [if_pos hl] at q1
      have q1 : ∀ G' H' σ' cls dd, Ex G1 G' → Rel X.K cm B G' H' σ' env1 → XRel X.K cm G' H' cls dd ⟨c, (ns.zip (gD es)).reverse⟩ → B.W cls dd σ' H' := q1
      have y2 := hrel _ _ _ y
      refine ⟨_, rfl, y.length.trans hl.1, y2.length.trans hl.2, fun d nd => ?_⟩
      obtain ⟨r2, e2⟩ := r1.alloc (o := .xd (ns.zip (gV' zs)).reverse) nd
      obtain ⟨z1, z2⟩ := zip_rps y2 hl.2
      refine q1 _ _ σ _ _ e2 r2 ⟨C, d, (ns.zip (gV' zs)).reverse, T.cm, rfl, rfl, upd_same, ?_, ?_⟩
      · rw [List.map_reverse, List.map_reverse, z1]
      · rw [List.map_reverse, List.map_reverse]
        exact (z2.mono e2).reverse
    · rw [if_neg hl] at q1; exact q1.elim
/-- an own class without an __init__ of its own, made as a value: no field -/
def eX0 (c : Str) (l : M (List D)) : M D := fun env => (l env).bind fun ds env1 => if ds.length ≤ 900 then .ok (.exn c []) env1 else .no
theorem ce_exc0 {bmB : List Value} {Bn newId initId : String} (F : ExcBaseFacts Bn newId initId bmB) (qI : PySem.W.excIn X.K C bmB newId = true) (gC : X.mg c = some (.ref C)) (kC : PySem.W.keepIn X.K (.ref C) = true) (hc : cm.x c = some C) (hg : Gl X c) (ha : CD cm X (e :: es) l)
    (hdb : (c == ("__debug__" : Str)) = false := by decide) (he : starEach (e :: es) X.env = (false, eval e X.env) :: starEach es X.env := by rfl) (hpl : (backTo pos (starEach es X.env)).any (·.1) = false := by rfl) : CE cm X (.Call (.Name c p) (e :: es) [] pos) (eX0 c l) := fun B tk => ⟨fun pins s σ H Q I ⟨G, env, r, q⟩ => by
  refine wpAny_Call_Name_kw (ld_glob I hg gC ?_ hdb)
  refine PySem.W.callWith_K (h₀ := X.base) I.ok.mod.kin kC (thn ((ha B tk).run pos pins s σ H _ I (want.bind (Q1 := fun vs H1 => vs.length ≤ 900 ∧ ∀ a, H1 a = none → Q (.ref a) (upd H1 a (ExO (.ref C) a))) r q fun ds env1 G1 H1 vs e1 r1 y q1 => ?_)) fun us s1 ⟨vs, H1, I1, rv, hl, q1⟩ => ⟨I1.kIn, ?_⟩) he hpl
  · by_cases hl : ds.length ≤ 900
    · rw [if_pos hl] at q1
      refine ⟨by rw [y.length]; exact hl, fun a na => ?_⟩
      obtain ⟨r2, e2⟩ := r1.alloc (o := ExO (.ref C) a) na (fun ps z => by unfold ExO at z; cases z)
      exact q1 _ _ _ e2 r2 (.exn0 hc upd_same)
    · rw [if_neg hl] at q1; exact q1.elim
  · obtain ⟨bm, N, nm, qn, bs, hdct, sn, sub, ab, col, dd, k0, k1, k2, k3, k5, mN, hC, hN, hni, T⟩ := exc_obj I1.kIn qI
    refine wpAny_call_exc_subT F T hC hN hni (fun h' a hm => ?_) (by show us.length ≤ _; rw [← rv.length, sizeLine_eq]; omega)
    have hn : H1 a = none := I1.hok.gone hm.new
    obtain ⟨t, ht, _, _⟩ := hm.there
    exact ⟨.ref a, upd H1 a (ExO (.ref C) a), I1.laidN hm.keeps hm.new hn (exO_ok ht ⟨rfl, rfl⟩ rfl rfl rfl (show 4 < 6 by decide)), rfl, q1 a hn⟩⟩
end
end Vs

set_option Elab.async false
set_option linter.all false
set_option maxRecDepth 100000
set_option maxHeartbeats 4000000
/-! VsX5: the facts of the classes as looks at the written part; what the head tells of them. -/
namespace Vs
open PySem PySem.Spec PyProof.Rows L2 Evl
/-- the j-th statement of a class's body -/
def clsMeth (s : Stmt) (j : Nat) : Stmt := match s with
  | .ClassDef _ _ _ b _ _ _ _ _ _ _ => b.getD j (.Pass ⟨0, 0, 0, 0⟩)
  | _ => .Pass ⟨0, 0, 0, 0⟩
/-- the class that the global name c tells -/
def clsAt (K : PySem.W.Frag) (c : Str) : Option Addr := match PySem.W.nsIn K mainGlobals c with
  | some (some (.ref C)) => some C
  | _ => none
/-- cs the own classes, xs the own exceptions -/
abbrev cmOf (K : PySem.W.Frag) (cs xs : List Str) (sub : Str → Str → Bool) : Cm := { c := fun c => if c ∈ cs then clsAt K c else none, x := fun c => if c ∈ xs then clsAt K c else none, sub := sub }
section
variable {K : PySem.W.Frag} {cs xs : List Str} {sub : Str → Str → Bool}
theorem clsAt_of {c : Str} {C : Addr} (h : PySem.W.nsIn K mainGlobals c = some (some (.ref C))) : clsAt K c = some C := by unfold clsAt; rw [h]
theorem cmOf_x {c : Str} {C : Addr} (h : PySem.W.nsIn K mainGlobals c = some (some (.ref C))) (hc : c ∈ xs) : (cmOf K cs xs sub).x c = some C := by
  show (if c ∈ xs then clsAt K c else none) = some C
  rw [if_pos hc]; exact clsAt_of h
theorem cmOf_c {c : Str} {C : Addr} (h : PySem.W.nsIn K mainGlobals c = some (some (.ref C))) (hc : c ∈ cs) : (cmOf K cs xs sub).c c = some C := by
  show (if c ∈ cs then clsAt K c else none) = some C
  rw [if_pos hc]; exact clsAt_of h
theorem of_x {c : Str} {C : Addr} (h : (cmOf K cs xs sub).x c = some C) : c ∈ xs ∧ clsAt K c = some C := by
  have h : (if c ∈ xs then clsAt K c else none) = some C := h
  split at h
  · rename_i q; exact ⟨q, h⟩
  · cases h
theorem of_c {c : Str} {C : Addr} (h : (cmOf K cs xs sub).c c = some C) : c ∈ cs ∧ clsAt K c = some C := by
  have h : (if c ∈ cs then clsAt K c else none) = some C := h
  split at h
  · rename_i q; exact ⟨q, h⟩
  · cases h
/-- each class of the list, looked at -/
def eachB (K : PySem.W.Frag) (xs : List Str) (p : Str → Addr → Bool) : Bool := xs.all fun c => match clsAt K c with
  | some C => p c C
  | none => true
theorem eachB_x {p : Str → Addr → Bool} (h : eachB K xs p = true) {c : Str} {C : Addr} (hc : c ∈ xs) (e : clsAt K c = some C) : p c C = true := by
  have := List.all_eq_true.mp h c hc
  rw [e] at this
  exact this
/-! ### exceptions -/
def exfB (K : PySem.W.Frag) (C : Addr) : Bool := (PySem.W.clsIn K C).isSome && (xfB K C && (decide (PySem.W.findIn K (.ref C) "__class__" = some (some (.builtin "object.__class__"))) &&
  (decide (PySem.W.specialIn K (.builtin "object.__class__") "__get__" = some (some (.builtin "getset_descriptor.__get__"))) && (decide (PySem.W.takesIn K (.builtin "object.__class__") = some true) && decide (PySem.W.mroIn K C (.type "object") = some true)))))
theorem exfB_ok {C : Addr} (h : exfB K C = true) : ExF K C ∧ XfC K C := by
  obtain ⟨h1, h⟩ := Bool.and_eq_true_iff.mp h
  obtain ⟨h2, h⟩ := Bool.and_eq_true_iff.mp h
  obtain ⟨h3, h⟩ := Bool.and_eq_true_iff.mp h
  obtain ⟨h4, h⟩ := Bool.and_eq_true_iff.mp h
  obtain ⟨h5, h6⟩ := Bool.and_eq_true_iff.mp h
  have x := xfB_ok h2
  exact ⟨⟨h1, x.ga, x.gg, x.exC, x.hdC, of_decide_eq_true h3, of_decide_eq_true h4, of_decide_eq_true h5, of_decide_eq_true h6⟩, x⟩
/-- what OexC asks besides the class's own object -/
def oxB (K : PySem.W.Frag) (C : Addr) (bm : List Value) : Bool := PySem.HandSPX.refsVE bm && (decide (PySem.W.findIn K (.ref C) "__setattr__" = some (some (.builtin "object.__setattr__"))) && (decide (PySem.W.subIn K (.ref C) (.type "BaseException") = some true) &&
  (decide (PySem.W.typeIn K (.ref C) = some (.type "type")) && PySem.W.keepIn K (.ref C))))
theorem oxB_ok {C : Addr} {nm q : Str} {N : Addr} {bs bm : List Value} {sn : List Str} {sb : List Value} {ab : Bool} {col : Option Bool} {dd : Option Addr} {k0 k1 k2 k3 k5 : Option Value} (l : K.lookup C = some (excClassObj nm q C N bs bm true sn sb ab col dd k0 k1 k2 k3 k5 "ValueError.__new__")) (h : oxB K C bm = true) : OexC K C := by
  obtain ⟨h1, h⟩ := Bool.and_eq_true_iff.mp h
  obtain ⟨h2, h⟩ := Bool.and_eq_true_iff.mp h
  obtain ⟨h3, h⟩ := Bool.and_eq_true_iff.mp h
  obtain ⟨h4, h5⟩ := Bool.and_eq_true_iff.mp h
  exact ⟨⟨nm, q, N, bs, bm, sn, sb, ab, col, dd, k0, k1, k2, k3, k5, l, h1⟩, of_decide_eq_true h2, of_decide_eq_true h3, of_decide_eq_true h4, h5⟩
/-- what SupF asks besides the function's own object -/
def fileB (P : Program) (K : PySem.W.Frag) (cda : Addr) : Bool := match K.lookup cda with
  | some ⟨_, _, .fields vs, _⟩ => (match (vs[2]? : Option Value) with
    | some (.str file _) => (P.main.file : Str) == file
    | _ => false)
  | _ => false
def cellB (K : PySem.W.Frag) (cc D : Addr) : Bool := match K.lookup cc with
  | some ⟨_, _, .cell (some (.ref D')), _⟩ => D' == D
  | _ => false
def supB (P : Program) (K : PySem.W.Frag) (C D f cda cc : Addr) (qual : Str) : Bool := fileB P K cda && (cellB K cc D && ((PySem.W.clsIn K D).isSome && (decide (PySem.W.mroIn K C (.ref D) = some true) && (!(P.main.scope.names.lookup ("super" : Str)).isSome &&
  (decide (PySem.W.nsIn K cStatics "thirdparty.any" = some none) && (decide (PySem.W.typeIn K (.ref f) = some (.type "function")) && (PySem.W.codeIn K (.ref cda) qual &&
  (decide (PySem.W.ks_superIn K C D "__init__" = some (some (.builtin "ValueError.__init__"))) && decide (PySem.W.subIn K (.ref C) (.type "ValueError") = some true)))))))))
structure SupG (P : Program) (K : PySem.W.Frag) (C D f cda cc : Addr) (qual : Str) : Prop where
  code : ∃ ccl cdd vs ccs file tf, K.lookup cda = some ⟨ccl, cdd, .fields vs, ccs⟩ ∧ vs[2]? = some (.str file tf) ∧ ((P.main.file : Str) == file) = true
  cell : ∃ cl cld csl, K.lookup cc = some ⟨cl, cld, .cell (some (.ref D)), csl⟩
  cls : ∃ cdD, PySem.W.clsIn K D = some cdD
  mro : PySem.W.mroIn K C (.ref D) = some true
  top : (P.main.scope.names.lookup ("super" : Str)).isSome = false
  opq : PySem.W.nsIn K cStatics "thirdparty.any" = some none
  ty : PySem.W.typeIn K (.ref f) = some (.type "function")
  cd : PySem.W.codeIn K (.ref cda) qual = true
  sup : PySem.W.ks_superIn K C D "__init__" = some (some (.builtin "ValueError.__init__"))
  sub : PySem.W.subIn K (.ref C) (.type "ValueError") = some true
theorem supB_ok {P : Program} {C D f cda cc : Addr} {qual : Str} (h : supB P K C D f cda cc qual = true) : SupG P K C D f cda cc qual := by
  obtain ⟨h1, h⟩ := Bool.and_eq_true_iff.mp h
  obtain ⟨h2, h⟩ := Bool.and_eq_true_iff.mp h
  obtain ⟨h3, h⟩ := Bool.and_eq_true_iff.mp h
  obtain ⟨h4, h⟩ := Bool.and_eq_true_iff.mp h
  obtain ⟨h5, h⟩ := Bool.and_eq_true_iff.mp h
  obtain ⟨h6, h⟩ := Bool.and_eq_true_iff.mp h
  obtain ⟨h7, h⟩ := Bool.and_eq_true_iff.mp h
  obtain ⟨h8, h⟩ := Bool.and_eq_true_iff.mp h
  obtain ⟨h9, h10⟩ := Bool.and_eq_true_iff.mp h
  refine ⟨?_, ?_, Option.isSome_iff_exists.mp h3, of_decide_eq_true h4, by simpa using h5, of_decide_eq_true h6, of_decide_eq_true h7, h8, of_decide_eq_true h9, of_decide_eq_true h10⟩
  · unfold fileB at h1
    split at h1
    · rename_i ccl cdd vs ccs e
      split at h1
      · rename_i file tf e2
        exact ⟨ccl, cdd, vs, ccs, file, tf, e, e2, h1⟩
      · cases h1
    · cases h1
  · unfold cellB at h2
    split at h2
    · rename_i cl cld D' csl e
      have : D' = D := by simpa using h2
      subst this
      exact ⟨cl, cld, csl, e⟩
    · cases h2
theorem SupG.f {P : Program} {mg : Str → Option Value} {C D f cda cc : Addr} {qual : Str} {scope : Scope} {fd : FuncData} {me : Str} {oc : Value} {od : Option Addr} {osl : Array (Option Value)} (G : SupG P K C D f cda cc qual) (l : K.lookup f = some ⟨oc, od, .func fd, osl⟩)
    (hp : ∃ ar : Arg, (fd.params.posonlyargs ++ fd.params.args).head? = some ar ∧ ar.arg = me) (hg : mg "super" = none) : SupF P K mg C D f cda cc scope fd me := ⟨⟨oc, od, osl, l⟩, hp, G.code, G.cell, G.cls, G.mro, G.top, hg, G.opq⟩
/-- reading a field -/
def fldB (K : PySem.W.Frag) (cs xs ls : List Str) (fld : Str) : Bool := eachB K cs (fun c C => !(decide (c ∈ ls)) || (PySem.W.plainGet K C Str.empty && (PySem.W.hasDictIn K C && (PySem.W.plainOver K C && (decide (PySem.W.findIn K (.ref C) "__setattr__" = some (some (.builtin "object.__setattr__"))) && decide (PySem.W.findIn K (.ref C) fld = some none)))))) &&
  eachB K xs (fun c C => !(decide (c ∈ ls)) || (xfB K C && decide (PySem.W.findIn K (.ref C) fld = some none)))
theorem fldB_ok {ls : List Str} {fld : Str} (h : fldB K cs xs ls fld = true) : FldF K (cmOf K cs xs sub) ls fld := by
  obtain ⟨h1, h2⟩ := Bool.and_eq_true_iff.mp h
  refine ⟨fun c C hl e => ?_, fun c C hl e => ?_⟩
  · obtain ⟨hc, e⟩ := of_c e
    have := eachB_x h1 hc e
    rw [decide_eq_true hl, Bool.not_true, Bool.false_or] at this
    obtain ⟨q1, q⟩ := Bool.and_eq_true_iff.mp this
    obtain ⟨q2, q⟩ := Bool.and_eq_true_iff.mp q
    obtain ⟨q3, q⟩ := Bool.and_eq_true_iff.mp q
    obtain ⟨q4, q5⟩ := Bool.and_eq_true_iff.mp q
    exact ⟨⟨q1, q2, q3, of_decide_eq_true q4⟩, (of_decide_eq_true q5 : PySem.W.findIn K (.ref C) fld = some none)⟩
  · obtain ⟨hc, e⟩ := of_x e
    have := eachB_x h2 hc e
    rw [decide_eq_true hl, Bool.not_true, Bool.false_or] at this
    obtain ⟨q1, q2⟩ := Bool.and_eq_true_iff.mp this
    exact ⟨xfB_ok q1, of_decide_eq_true q2⟩
/-- isinstance(x, t), t of the value T -/
def obfB (K : PySem.W.Frag) (C : Addr) : Bool := PySem.W.plainGet K C Str.empty && (PySem.W.hasDictIn K C && (PySem.W.plainOver K C && (decide (PySem.W.findIn K (.ref C) "__setattr__" = some (some (.builtin "object.__setattr__"))) && (decide (PySem.W.findIn K (.ref C) "__class__" = some (some (.builtin "object.__class__"))) &&
  (decide (PySem.W.specialIn K (.builtin "object.__class__") "__get__" = some (some (.builtin "getset_descriptor.__get__"))) && (decide (PySem.W.takesIn K (.builtin "object.__class__") = some true) && decide (PySem.W.mroIn K C (.type "object") = some true)))))))
theorem obfB_ok {C : Addr} (h : obfB K C = true) : ObF K C := by
  obtain ⟨h1, h⟩ := Bool.and_eq_true_iff.mp h
  obtain ⟨h2, h⟩ := Bool.and_eq_true_iff.mp h
  obtain ⟨h3, h⟩ := Bool.and_eq_true_iff.mp h
  obtain ⟨h4, h⟩ := Bool.and_eq_true_iff.mp h
  obtain ⟨h5, h⟩ := Bool.and_eq_true_iff.mp h
  obtain ⟨h6, h⟩ := Bool.and_eq_true_iff.mp h
  obtain ⟨h7, h8⟩ := Bool.and_eq_true_iff.mp h
  exact ⟨⟨h1, h2, h3, of_decide_eq_true h4⟩, of_decide_eq_true h5, of_decide_eq_true h6, of_decide_eq_true h7, of_decide_eq_true h8⟩
def isvB (K : PySem.W.Frag) (cs xs : List Str) (sub : Str → Str → Bool) (t : Str) (T : Value) : Bool := (tyNames.all fun n => decide (PySem.W.kitOne K (.type n) T = some false)) && (eachB K cs (fun c C => obfB K C && decide (PySem.W.kitOne K (.ref C) T = some (sub c t))) && eachB K xs (fun c C => exfB K C && decide (PySem.W.kitOne K (.ref C) T = some (sub c t))))
theorem isvB_ok {t : Str} {T : Value} (h : isvB K cs xs sub t T = true) : IsV K (cmOf K cs xs sub) t T := by
  obtain ⟨h1, h⟩ := Bool.and_eq_true_iff.mp h
  obtain ⟨h2, h3⟩ := Bool.and_eq_true_iff.mp h
  refine ⟨fun n hn => of_decide_eq_true (List.all_eq_true.mp h1 n hn), fun c C e => ?_, fun c C e => ?_⟩
  · obtain ⟨hc, e⟩ := of_c e
    obtain ⟨q1, q2⟩ := Bool.and_eq_true_iff.mp (eachB_x h2 hc e)
    exact ⟨obfB_ok q1, of_decide_eq_true q2⟩
  · obtain ⟨hc, e⟩ := of_x e
    obtain ⟨q1, q2⟩ := Bool.and_eq_true_iff.mp (eachB_x h3 hc e)
    exact ⟨(exfB_ok q1).1, of_decide_eq_true q2⟩
/-- isinstance(x, T), T built in, no own class -/
def notyB (K : PySem.W.Frag) (cs xs : List Str) (ts : List String) : Bool := eachB K cs (fun _ C => obfB K C && ts.all fun t => decide (PySem.W.kitOne K (.ref C) (.type t) = some false)) && eachB K xs (fun _ C => exfB K C && ts.all fun t => decide (PySem.W.kitOne K (.ref C) (.type t) = some false))
theorem notyB_ok {ts : List String} (h : notyB K cs xs ts = true) : NoTy K (cmOf K cs xs sub) ts := by
  obtain ⟨h2, h3⟩ := Bool.and_eq_true_iff.mp h
  refine ⟨fun c C e => ?_, fun c C e => ?_⟩
  · obtain ⟨hc, e⟩ := of_c e
    obtain ⟨q1, q2⟩ := Bool.and_eq_true_iff.mp (eachB_x h2 hc e)
    exact ⟨obfB_ok q1, fun t ht => of_decide_eq_true (List.all_eq_true.mp q2 t ht)⟩
  · obtain ⟨hc, e⟩ := of_x e
    obtain ⟨q1, q2⟩ := Bool.and_eq_true_iff.mp (eachB_x h3 hc e)
    exact ⟨(exfB_ok q1).1, fun t ht => of_decide_eq_true (List.all_eq_true.mp q2 t ht)⟩
def exmB (K : PySem.W.Frag) (xs : List Str) (sub : Str → Str → Bool) (t : Str) (T : Addr) : Bool := eachB K xs (fun c C => decide (PySem.W.exmOne K (.ref C) (.ref T) = some (sub c t)))
theorem exmB_ok {t : Str} {T : Addr} (h : exmB K xs sub t T = true) : ExmC K (cmOf K cs xs sub) t T := fun c C e => by
  obtain ⟨hc, e⟩ := of_x e
  exact of_decide_eq_true (eachB_x h hc e)
end
/-! ### a def with the cell of its class -/
section
variable {K : PySem.W.Frag} {ps : List Str} {name qual : Str} {params : Arguments} {body : List Stmt} {scope : Scope} {kV doc pm ct cdv : Value} {an : Option Addr} {cc : Addr}
theorem bindS (h : ∀ us : List Value, us.length = ps.length → bindArgs (PySem.W.ksFn name qual params body scope .none kV doc pm an cdv ct cc) ⟨us, []⟩ = pure (ps.zip us)) : Binds K (PySem.W.ksFn name qual params body scope .none kV doc pm an cdv ct cc) ps [] := .all h
theorem kbnS (n : Nat) (ks : List Str) (ix : List Pl) (h : ∀ us ws : List Value, us.length = n → ws.length = ks.length → bindArgs (PySem.W.ksFn name qual params body scope .none kV doc pm an cdv ct cc) ⟨us, ks.zip ws⟩ = pure (ps.zip (gIx ix us ws []))) :
    KBn K (PySem.W.ksFn name qual params body scope .none kV doc pm an cdv ct cc) ps n ks (fun us ws => gIx ix us ws []) (fun vs zs => gIx ix vs zs []) := ⟨fun s us ws X l1 l2 => .of_eq (h us ws l1 l2), fun r1 r2 => gIx_rel r1 r2 .nil ix⟩
end
end Vs

set_option Elab.async false
set_option linter.all false
set_option maxRecDepth 100000
set_option maxHeartbeats 4000000
/-! VsR: repr of data with dicts in it. -/
namespace Vs
open PySem PySem.Spec PyProof.Rows L2 Evl
def keyP : Key → PyData
  | .inl i => .int i
  | .inr x => .str x
mutual
/-- data as a repr tells it -/
def pyR : D → Option PyData
  | .non => some .none
  | .bl b => some (.bool b)
  | .int i => some (.int i)
  | .str x => some (.str x)
  | .scr _ => none
  | .lst xs => (pyRs xs).map .list
  | .tup xs => (pyRs xs).map .tuple
  | .dic kvs => (pyRk kvs).map .dict
  | .obj _ _ => none
  | .exn _ _ => none
def pyRs : List D → Option (List PyData)
  | [] => some []
  | d :: ds => (pyR d).bind fun p => (pyRs ds).map fun ps => p :: ps
def pyRk : List (Key × D) → Option (List (PyData × PyData))
  | [] => some []
  | (k, d) :: r => (pyR d).bind fun p => (pyRk r).map fun ps => (keyP k, p) :: ps
end
theorem pyRk_split : ∀ {ds : List (Key × D)} {kvs : List (PyData × PyData)}, pyRk ds = some kvs → kvs.map (·.1) = (ds.map (·.1)).map keyP ∧ pyRs (ds.map (·.2)) = some (kvs.map (·.2))
  | [], kvs, h => by simp only [pyRk, Option.some.injEq] at h; subst h; simp [pyRs]
  | (k, d) :: r, kvs, h => by
    simp only [pyRk, Option.bind_eq_some_iff, Option.map_eq_some_iff] at h
    obtain ⟨p, e1, ps, e2, rfl⟩ := h
    obtain ⟨h1, h2⟩ := pyRk_split e2
    refine ⟨by simp [h1], ?_⟩
    simp only [List.map_cons, pyRs, e1, h2, Option.bind_some, Option.map_some]
/-! what a repr reads: as Reads tells it, but that only a dict must not be the dict of the modules -/
mutual
inductive Rd2 (h : Heap) : Value → PyData → Prop
  | no : Rd2 h .none .none
  | bl (b : Bool) : Rd2 h (.bool b) (.bool b)
  | int (i : Int) (t : Tok) : Rd2 h (.int i t) (.int i)
  | str (x : Str) (t : Tok) : Rd2 h (.str x t) (.str x)
  | lst {a : Addr} {o : Obj} {vs : Array Value} {n : Nat} {xs : List PyData} (e1 : h.get? a = some o) (e2 : o.cls = .type "list") (e3 : o.data = .seq vs n) (r : Rd2s h vs.toList xs) : Rd2 h (.ref a) (.list xs)
  | tup {a : Addr} {o : Obj} {vs : Array Value} {n : Nat} {xs : List PyData} (e1 : h.get? a = some o) (e2 : o.cls = .type "tuple") (e3 : o.data = .seq vs n) (r : Rd2s h vs.toList xs) : Rd2 h (.ref a) (.tuple xs)
  | dic {a : Addr} {o : Obj} {es : Array DictEntry} {n : Nat} {kvs : List (PyData × PyData)} (e1 : h.get? a = some o) (e2 : o.cls = .type "dict") (e3 : o.data = .dict es n) (ne : (a == sysModules) = false)
      (k : Rd2s h (es.toList.map (·.key)) (kvs.map (·.1))) (v : Rd2s h (es.toList.map (·.val)) (kvs.map (·.2))) : Rd2 h (.ref a) (.dict kvs)
inductive Rd2s (h : Heap) : List Value → List PyData → Prop
  | nil : Rd2s h [] []
  | cons {v : Value} {vs : List Value} {d : PyData} {ds : List PyData} (a : Rd2 h v d) (b : Rd2s h vs ds) : Rd2s h (v :: vs) (d :: ds)
end
section
variable {h : Heap} {prog : Program} {w : World}
mutual
theorem Rd2.to : ∀ {v : Value} {d : PyData}, Rd2 h v d → ∃ as, Reads h v d as
  | _, _, .no => ⟨_, .none⟩
  | _, _, .bl b => ⟨_, .bool b⟩
  | _, _, .int i t => ⟨_, .int i t⟩
  | _, _, .str x t => ⟨_, .str x t⟩
  | _, _, .lst e1 e2 e3 r => by obtain ⟨as, q⟩ := r.to; exact ⟨_, .list e1 e2 e3 q⟩
  | _, _, .tup e1 e2 e3 r => by obtain ⟨as, q⟩ := r.to; exact ⟨_, .tuple e1 e2 e3 q⟩
  | _, _, .dic e1 e2 e3 _ k v => by
    obtain ⟨as, q⟩ := k.to
    obtain ⟨bs, q2⟩ := v.to
    exact ⟨_, .dict e1 e2 e3 q q2⟩
theorem Rd2s.to : ∀ {vs : List Value} {ds : List PyData}, Rd2s h vs ds → ∃ as, ReadsAll h vs ds as
  | _, _, .nil => ⟨_, .nil⟩
  | _, _, .cons a b => by
    obtain ⟨as, q⟩ := a.to
    obtain ⟨bs, q2⟩ := b.to
    exact ⟨_, .cons q q2⟩
end
abbrev Shw (prog : Program) (w : World) (h : Heap) (v : Value) (d : PyData) : Prop := ∃ bs, ReadAtMost h d.depth bs ∧ ReprK prog w bs h d.depth v d.shown
abbrev Shws (prog : Program) (w : World) (h : Heap) (vs : List Value) (ds : List PyData) : Prop := ∃ bs, ReadAtMost h (PyData.depthAll ds) bs ∧ ReprAllK prog w bs h (PyData.depthAll ds) vs (PyData.shownAll ds)
theorem shw_flat {v : Value} {t : Str} (q : ReprIs prog w v t) {d : PyData} (e1 : d.shown = t) : Shw prog w h v d := ⟨[], fun _ z => (nomatch z), by rw [e1]; exact .of_is q _ _ _⟩
mutual
theorem Rd2.shw : ∀ {v : Value} {d : PyData}, Rd2 h v d → d.showable = true → d.shown.length ≤ sizeLine → Shw prog w h v d
  | _, _, .no, _, _ => shw_flat ReprIs.none (by simp only [PyData.shown])
  | _, _, .bl b, _, _ => shw_flat (ReprIs.bool b) (by simp only [PyData.shown])
  | _, _, .int i t, sh, _ => shw_flat (ReprIs.int t (by simpa [PyData.showable] using sh)) (by simp only [PyData.shown])
  | _, _, .str x t, _, z => shw_flat (ReprIs.str x t (by simpa only [PyData.shown] using z)) (by simp only [PyData.shown])
  | _, _, .lst (a := a) (vs := vs) (xs := xs) e1 e2 e3 r, sh, z => by
    have z1 : (listText (PyData.shownAll xs)).length ≤ sizeLine := by simpa only [PyData.shown] using z
    obtain ⟨bs, am, kk⟩ := r.shws (by simpa [PyData.showable] using sh) fun t ht => Nat.le_trans (listText_mem_le ht) z1
    obtain ⟨as, rr⟩ := (Rd2.lst e1 e2 e3 r).to
    have out : a ∉ bs := not_mem_of_deeper rr (by simp only [PyData.depth]; omega) am
    refine ⟨a :: bs, am.cons rr (by simp only [PyData.depth]; omega), ?_⟩
    simp only [PyData.shown, PyData.depth]
    rcases vs with ⟨_ | ⟨x, l⟩⟩
    · have r' : Rd2s h [] xs := r
      cases r'
      simp only [listText_nil, PyData.shownAll]
      exact .listEmpty e1 e2 e3
    · exact .list e1 e2 e3 out (by simpa using kk.length_eq) fun i y e => kk.item i y (by simpa using e)
  | _, _, .tup (a := a) (xs := xs) e1 e2 e3 r, sh, z => by
    have z1 : (tupleText (PyData.shownAll xs)).length ≤ sizeLine := by simpa only [PyData.shown] using z
    obtain ⟨bs, am, kk⟩ := r.shws (by simpa [PyData.showable] using sh) fun t ht => Nat.le_trans (tupleText_mem_le ht) z1
    obtain ⟨as, rr⟩ := (Rd2.tup e1 e2 e3 r).to
    have out : a ∉ bs := not_mem_of_deeper rr (by simp only [PyData.depth]; omega) am
    refine ⟨a :: bs, am.cons rr (by simp only [PyData.depth]; omega), ?_⟩
    simp only [PyData.shown, PyData.depth]
    exact .tuple e1 e2 e3 out kk
  | _, _, .dic (a := a) (es := es) (kvs := kvs) e1 e2 e3 ne k v, sh, z => by
    have z1 : (dictText (PyData.shownKv kvs)).length ≤ sizeLine := by simpa only [PyData.shown] using z
    obtain ⟨s1, s2⟩ := PyData.showableKv_split kvs (by simpa [PyData.showable] using sh)
    obtain ⟨b1, m1, q1⟩ := k.shws s1 fun t ht => by
      obtain ⟨p, hp, hl⟩ := PyData.shownKv_key_le kvs t ht
      exact Nat.le_trans hl (Nat.le_trans (dictText_mem_le hp) z1)
    obtain ⟨b2, m2, q2⟩ := v.shws s2 fun t ht => by
      obtain ⟨p, hp, hl⟩ := PyData.shownKv_val_le kvs t ht
      exact Nat.le_trans hl (Nat.le_trans (dictText_mem_le hp) z1)
    obtain ⟨as, rr⟩ := (Rd2.dic e1 e2 e3 ne k v).to
    have am := (m1.mono (PyData.depthAll_keys_le kvs)).append (m2.mono (PyData.depthAll_vals_le kvs))
    have out : a ∉ b1 ++ b2 := not_mem_of_deeper rr (by simp only [PyData.depth]; omega) am
    refine ⟨a :: (b1 ++ b2), am.cons rr (by simp only [PyData.depth]; omega), ?_⟩
    simp only [PyData.shown, PyData.depth, PyData.shownKv_eq]
    have l1 := q1.more_le (fun b hb => List.mem_append_left b2 hb) (PyData.depthAll_keys_le kvs)
    have l2 := q2.more_le (fun b hb => List.mem_append_right b1 hb) (PyData.depthAll_vals_le kvs)
    exact .dict e1 e2 e3 ne out (ReprEntriesK.of_two es.toList _ _ l1 l2)
theorem Rd2s.shws : ∀ {vs : List Value} {ds : List PyData}, Rd2s h vs ds → PyData.showableAll ds = true → (∀ t ∈ PyData.shownAll ds, t.length ≤ sizeLine) → Shws prog w h vs ds
  | _, _, .nil, _, _ => ⟨[], fun _ z => (nomatch z), by simp only [PyData.shownAll]; exact .nil⟩
  | _, _, .cons (d := d) (ds := ds) r rs, sh, z => by
    have sh2 : d.showable = true ∧ PyData.showableAll ds = true := by simpa [PyData.showableAll] using sh
    obtain ⟨b1, m1, q1⟩ := r.shw sh2.1 (z _ (by simp only [PyData.shownAll]; exact List.mem_cons_self ..))
    obtain ⟨b2, m2, q2⟩ := rs.shws sh2.2 fun t ht => z t (by simp only [PyData.shownAll]; exact List.mem_cons_of_mem _ ht)
    have l1 : d.depth ≤ PyData.depthAll (d :: ds) := by simp only [PyData.depthAll]; exact Nat.le_max_left _ _
    have l2 : PyData.depthAll ds ≤ PyData.depthAll (d :: ds) := by simp only [PyData.depthAll]; exact Nat.le_max_right _ _
    refine ⟨b1 ++ b2, (m1.mono l1).append (m2.mono l2), ?_⟩
    have k1 := (q1.more fun b hb => List.mem_append_left b2 hb).level_le l1
    have k2 := q2.more_le (fun b hb => List.mem_append_right b1 hb) l2
    simp only [PyData.shownAll]
    exact .cons k1 k2
end
/-- repr(x), x a list, a tuple or a dict -/
theorem repr_rd2 {A : Around} {E : Value → Shared → Prop} {s : Shared} {a : Addr} {d : PyData} {Q : Value → Shared → Prop} (r : Rd2 s.heap (.ref a) d) (sh : d.showable = true) (hg : A.guards = some []) (hu : A.units + (d.depth + 1) < cLine)
    (hQ : ∀ h' u tk, (∀ b o, s.heap.get? b = some o → h'.get? b = some o) → Q (.str d.shown u) { s with heap := h', toks := tk }) (z : d.shown.length ≤ sizeLine) : wpAny (model prog w) A (call (.builtin "repr") [.ref a]) Q E s := by
  have fin : ∀ {T idr : String}, ShowsBy prog w s.heap a d T idr → wpAny (model prog w) A (call (.builtin "repr") [.ref a]) Q E s := fun {T idr} S =>
    call_repr_slot (by omega) (S.typeIs s fun _ _ z => z) S.slotRepr (S.call A.in1 E s _ hg (by show A.units + 1 + d.depth < cLine; omega) (fun _ _ z => z) fun h' u tk hk => ⟨_, _, rfl, hQ h' u tk hk⟩)
  cases r with
  | @lst _ o vs n xs e1 e2 e3 r =>
    have z1 : (listText (PyData.shownAll xs)).length ≤ sizeLine := by simpa only [PyData.shown] using z
    obtain ⟨bs, am, kk⟩ := r.shws (prog := prog) (w := w) (by simpa [PyData.showable] using sh) fun t ht => Nat.le_trans (listText_mem_le ht) z1
    obtain ⟨as, rr⟩ := (Rd2.lst e1 e2 e3 r).to
    have out : a ∉ bs := not_mem_of_deeper rr (by simp only [PyData.depth]; omega) am
    refine fin (T := "list") (idr := "list.__repr__") ⟨F.slot_list_repr.toG, F.slot_list_str, F.slot_list_format, fun s k => ⟨o, k _ _ e1, e2⟩, fun A E s Q hg hu k hQ => ?_⟩
    simp only [PyData.depth] at hu
    simp only [PyData.shown] at hQ
    rcases vs with ⟨_ | ⟨x, l⟩⟩
    · have r' : Rd2s _ [] xs := r
      cases r'
      simp only [listText_nil, PyData.shownAll] at hQ
      exact call_list_repr_empty ⟨o, k _ _ e1, e2⟩ (k _ _ e1) e3 (hQ s.heap _ _ fun _ _ e => e)
    · have hl := kk.length_eq
      exact call_list_reprK e1 e2 e3 out (by simpa using hl) (fun i y e => kk.item i y (by simpa using e)) hg (fun b _ => Clear.nil b) hu k hQ z1
  | @tup _ o vs n xs e1 e2 e3 r =>
    have z1 : (tupleText (PyData.shownAll xs)).length ≤ sizeLine := by simpa only [PyData.shown] using z
    obtain ⟨bs, am, kk⟩ := r.shws (prog := prog) (w := w) (by simpa [PyData.showable] using sh) fun t ht => Nat.le_trans (tupleText_mem_le ht) z1
    obtain ⟨as, rr⟩ := (Rd2.tup e1 e2 e3 r).to
    have out : a ∉ bs := not_mem_of_deeper rr (by simp only [PyData.depth]; omega) am
    refine fin (T := "tuple") (idr := "tuple.__repr__") ⟨F.slot_tuple_repr, F.slot_tuple_str, F.slot_tuple_format, fun s k => ⟨o, k _ _ e1, e2⟩, fun A E s Q hg hu k hQ => ?_⟩
    simp only [PyData.depth] at hu
    simp only [PyData.shown] at hQ
    exact call_tuple_reprK e1 e2 e3 out kk hg (fun b _ => Clear.nil b) hu k hQ z1
  | @dic _ o es n kvs e1 e2 e3 ne kr vr =>
    have z1 : (dictText (PyData.shownKv kvs)).length ≤ sizeLine := by simpa only [PyData.shown] using z
    obtain ⟨s1, s2⟩ := PyData.showableKv_split kvs (by simpa [PyData.showable] using sh)
    obtain ⟨b1, m1, q1⟩ := kr.shws (prog := prog) (w := w) s1 fun t ht => by
      obtain ⟨p, hp, hl⟩ := PyData.shownKv_key_le kvs t ht
      exact Nat.le_trans hl (Nat.le_trans (dictText_mem_le hp) z1)
    obtain ⟨b2, m2, q2⟩ := vr.shws (prog := prog) (w := w) s2 fun t ht => by
      obtain ⟨p, hp, hl⟩ := PyData.shownKv_val_le kvs t ht
      exact Nat.le_trans hl (Nat.le_trans (dictText_mem_le hp) z1)
    obtain ⟨as, rr⟩ := (Rd2.dic e1 e2 e3 ne kr vr).to
    have am := (m1.mono (PyData.depthAll_keys_le kvs)).append (m2.mono (PyData.depthAll_vals_le kvs))
    have out : a ∉ b1 ++ b2 := not_mem_of_deeper rr (by simp only [PyData.depth]; omega) am
    have l1 := q1.more_le (fun b hb => List.mem_append_left b2 hb) (PyData.depthAll_keys_le kvs)
    have l2 := q2.more_le (fun b hb => List.mem_append_right b1 hb) (PyData.depthAll_vals_le kvs)
    refine fin (T := "dict") (idr := "dict.__repr__") ⟨F.slot_dict_repr, F.slot_dict_str, F.slot_dict_format, fun s k => ⟨o, k _ _ e1, e2⟩, fun A E s Q hg hu k hQ => ?_⟩
    simp only [PyData.depth] at hu
    simp only [PyData.shown, PyData.shownKv_eq] at hQ
    exact call_dict_reprK e1 e2 e3 ne out (ReprEntriesK.of_two es.toList _ _ l1 l2) hg (fun b _ => Clear.nil b) hu k hQ (by rw [← PyData.shownKv_eq]; exact z1)
end
theorem keys_read {h : Heap} {prog : Program} {w : World} {es : List DictEntry} {vs : List (Key × Value)} (p : Pairs (mixKind prog w) es vs) : Rd2s h (es.map (·.key)) ((vs.map (·.1)).map keyP) := by
  induction p with
  | nil => exact .nil
  | @cons e kv es kvs h1 h2 _ ih =>
    have h1 : keyIs kv.1 e.key = true := h1
    have r : Rd2 h e.key (keyP kv.1) := by
      rcases keyIs_shape h1 with ⟨i, t, e1, e2⟩ | ⟨x, t, e1, e2⟩
      · rw [e1, e2]; exact .int i t
      · rw [e1, e2]; exact .str x t
    exact .cons r ih
theorem vals_read {prog : Program} {w : World} {ks : List (Key × V)} {vs : List (Key × Value)} (r : KV ks vs) : ∀ {es : List DictEntry}, Pairs (mixKind prog w) es vs → ks.map (·.1) = vs.map (·.1) ∧ Vals (ks.map (·.2)) (es.map (·.val)) := by
  induction r with
  | nil => intro es p; cases p; exact ⟨rfl, .nil⟩
  | @cons a b as bs h _ ih =>
    intro es p
    cases p with
    | cons h1 h2 h3 =>
      obtain ⟨q1, q2⟩ := ih h3
      refine ⟨by simp [h.1, q1], .cons ?_ q2⟩
      dsimp only
      rw [h2]; exact h.2
section
variable {cm : Cm} {X : Cx} {pins : List (Addr × Obj)} {σ : L2.St} {G H : Hp} {s : Shared}
theorem rp_reads (I : Inv X pins σ H s) (ex : Ex G H) : ∀ v d, Rp X.K cm G v d → ∀ p u, pyR d = some p → RelV v u → Rd2 s.heap u p := fun v d h =>
  Rp.rec (motive_1 := fun v d _ => ∀ p u, pyR d = some p → RelV v u → Rd2 s.heap u p) (motive_2 := fun vs ds _ => ∀ ps us, pyRs ds = some ps → Vals vs us → Rd2s s.heap us ps)
    (fun p u q r => by simp only [pyR, Option.some.injEq] at q; subst q; cases r; exact .no)
    (fun b p u q r => by simp only [pyR, Option.some.injEq] at q; subst q; cases r; exact .bl b)
    (fun i p u q r => by simp only [pyR, Option.some.injEq] at q; subst q; obtain ⟨t, rfl⟩ := r; exact .int i t)
    (fun x p u q r => by simp only [pyR, Option.some.injEq] at q; subst q; obtain ⟨t, rfl⟩ := r; exact .str x t)
    (fun _ p u q _ => by simp only [pyR] at q; cases q)
    (fun h1 _ ih p u q r => by
      simp only [pyR, Option.map_eq_some_iff] at q
      obtain ⟨ps, e1, rfl⟩ := q
      cases r
      obtain ⟨its, rv, ⟨o, n, ho, hc, _, hd⟩, _⟩ := I.list (SqL.of (ex _ _ h1))
      exact .lst ho hc hd (ih ps its e1 rv))
    (fun h1 _ ih p u q r => by
      simp only [pyR, Option.map_eq_some_iff] at q
      obtain ⟨ps, e1, rfl⟩ := q
      cases r
      obtain ⟨its, rv, ⟨o, ho, hc, n, hd⟩, _⟩ := I.tuple (ex_t ex h1)
      exact .tup ho hc hd (ih ps its e1 rv))
    (fun h1 h2 _ ih p u q r => by
      simp only [pyR, Option.map_eq_some_iff] at q
      obtain ⟨kvs, e1, rfl⟩ := q
      cases r
      obtain ⟨hz, hne, vs, rel, o, es, ep, ho, hex, hdat, hk, hp, hn⟩ := dk_of I.hok (ex _ _ h1)
      obtain ⟨k1, k2⟩ := pyRk_split e1
      obtain ⟨q1, q2⟩ := vals_read rel hp
      refine .dic ho hex.1 hdat hne ?_ (ih _ _ k2 q2)
      rw [k1, ← h2, q1]; exact keys_read hp)
    (fun _ _ _ _ _ _ p u q _ => by simp only [pyR] at q; cases q) (fun _ _ _ _ _ _ p u q _ => by simp only [pyR] at q; cases q) (fun _ _ p u q _ => by simp only [pyR] at q; cases q)
    (fun ps us q r => by simp only [pyRs, Option.some.injEq] at q; subst q; cases r; exact .nil)
    (fun _ _ i1 i2 ps us q r => by
      simp only [pyRs, Option.bind_eq_some_iff, Option.map_eq_some_iff] at q
      obtain ⟨p, e1, ps', e2, rfl⟩ := q
      cases r with
      | cons ra rb => exact .cons (i1 p _ e1 ra) (i2 ps' _ e2 rb)) h
/-- repr of data with dicts -/
def oReprD : List D → Option D
  | [d] => (pyR d).bind fun p => if p.showable = true ∧ p.shown.length ≤ sizeLine ∧ p.depth ≤ 64 then some (.str p.shown) else none
  | _ => none
def rReprD (X : Cx) : List V → Hp → VK → Prop := fun xs H Q => ∃ v d p G, ∃ cm : Cm, xs = [v] ∧ Ex G H ∧ Rp X.K cm G v d ∧ pyR d = some p ∧ p.showable = true ∧ p.shown.length ≤ sizeLine ∧ p.depth ≤ 64 ∧ Q (.str p.shown) H
theorem call_reprD (hgd : X.A.guards = some []) (hu : X.A.units + 70 < cLine) : CallR X (.builtin "repr") (rReprD X) := by
  intro pins s σ H xs us Q I r h
  obtain ⟨v, d, p, G, cm, rfl, ex, y, e, hs, hz, hd, q⟩ := h
  obtain ⟨u, rfl, rv⟩ := vals1 r
  have rd := rp_reads I ex v d y p u e rv
  cases rd with
  | no => exact PySem.P.repr_of_none ⟨.str _, H, I.tok _, ⟨_, rfl⟩, q⟩
  | bl b => exact PySem.P.repr_of_bool ⟨.str _, H, I.tok _, ⟨_, rfl⟩, by simpa [PyData.shown] using q⟩
  | int i t => exact PySem.P.repr_of_int (by simpa [PyData.showable] using hs) ⟨.str _, H, I.tok _, ⟨_, rfl⟩, by simpa [PyData.shown] using q⟩
  | str x t => exact PySem.P.repr_of_str ⟨.str _, H, I.tok _, ⟨_, rfl⟩, by simpa [PyData.shown] using q⟩ (by simpa [PyData.shown] using hz)
  | lst h1 h2 h3 h4 => exact repr_rd2 (.lst h1 h2 h3 h4) hs hgd (by omega) (fun h' w tk keep => ⟨.str _, H, I.kept keep, ⟨_, rfl⟩, q⟩) hz
  | tup h1 h2 h3 h4 => exact repr_rd2 (.tup h1 h2 h3 h4) hs hgd (by omega) (fun h' w tk keep => ⟨.str _, H, I.kept keep, ⟨_, rfl⟩, q⟩) hz
  | dic h1 h2 h3 h4 h5 h6 => exact repr_rd2 (.dic h1 h2 h3 h4 h5 h6) hs hgd (by omega) (fun h' w tk keep => ⟨.str _, H, I.kept keep, ⟨_, rfl⟩, q⟩) hz
theorem cad_reprD : CaD cm X (rReprD X) oReprD := fun B G H σ env vs ds d Q r ys c q => by
  unfold oReprD at c
  split at c
  · simp only [Option.bind_eq_some_iff] at c
    obtain ⟨p, e1, c⟩ := c
    obtain ⟨v, rfl, y⟩ := ys.one
    split at c
    · rename_i hh
      cases c
      exact ⟨v, _, p, G, cm, rfl, r.ex, y, e1, hh.1, hh.2.1, hh.2.2, q G H _ (Ex.refl G) r (.str _)⟩
    · cases c
  · cases c
end
end Vs

set_option Elab.async false
set_option linter.all false
set_option maxRecDepth 100000
set_option maxHeartbeats 4000000
/-! VsP: running the functions of the Vs layer, in plain Lean. -/
namespace Vs
open PySem PySem.Spec PyProof.Rows L2 Evl
/-- K holds of the outcome r -/
def Go {α : Type} (K : α → Prop) (r : α) : Prop := K r
def kBind {α β : Type} (f : α → Vs.Env → R β) (K : R β → Prop) : R α → Prop
  | .ok a e => Go K (f a e)
  | .exc x e => K (.exc x e)
  | .no => K .no
def kToS {α : Type} (f : α → Vs.Env → RS) (K : RS → Prop) : R α → Prop
  | .ok a e => Go K (f a e)
  | .exc x e => K (.exc x e)
  | .no => K .no
def kSeq (g : MS) (K : RS → Prop) : RS → Prop
  | .next e => Go K (g e)
  | r => K r
theorem go_iff {α : Type} {K : α → Prop} {r : α} : Go K r ↔ K r := Iff.rfl
section
variable {α β γ : Type} {K : R α → Prop} {KD : R D → Prop} {KB : R Bool → Prop} {KL : R (List D) → Prop} {KS : RS → Prop} {KF : FR → Prop} {KO : R (Option Int) → Prop} {KW : WR → Prop} {env e : Vs.Env} {d a b : D} {x : Xn}
theorem k_ok {f : β → Vs.Env → R α} {y : β} : kBind f K (.ok y e) = Go K (f y e) := rfl
theorem k_exc {f : β → Vs.Env → R α} : kBind f K (.exc x e) = K (.exc x e) := rfl
theorem kS_ok {f : β → Vs.Env → RS} {y : β} : kToS f KS (.ok y e) = Go KS (f y e) := rfl
theorem kS_exc {f : β → Vs.Env → RS} : kToS f KS (.exc x e) = KS (.exc x e) := rfl
theorem kq_next {g : MS} : kSeq g KS (.next e) = Go KS (g e) := rfl
theorem kq_ret {g : MS} : kSeq g KS (.ret d e) = KS (.ret d e) := rfl
theorem kq_brk {g : MS} : kSeq g KS (.brk e) = KS (.brk e) := rfl
theorem kq_cont {g : MS} : kSeq g KS (.cont e) = KS (.cont e) := rfl
theorem kq_exc {g : MS} : kSeq g KS (.exc x e) = KS (.exc x e) := rfl
theorem kq_retF {g : MS} {ds : List D} : kSeq g KS (.retF ds e) = KS (.retF ds e) := rfl
theorem go_ok {y : α} : Go K (.ok y e) = K (.ok y e) := rfl
theorem go_exc : Go K (.exc x e) = K (.exc x e) := rfl
theorem go_next : Go KS (.next e) = KS (.next e) := rfl
theorem go_ret : Go KS (.ret d e) = KS (.ret d e) := rfl
theorem go_brk : Go KS (.brk e) = KS (.brk e) := rfl
theorem go_cont : Go KS (.cont e) = KS (.cont e) := rfl
theorem go_excS : Go KS (.exc x e) = KS (.exc x e) := rfl
theorem go_retF {ds : List D} : Go KS (.retF ds e) = KS (.retF ds e) := rfl
theorem go_bind {r : R β} {f : β → Vs.Env → R α} : Go K (r.bind f) = Go (kBind f K) r := by cases r <;> rfl
theorem go_toS {r : R β} {f : β → Vs.Env → RS} : Go KS (r.toS f) = Go (kToS f KS) r := by cases r <;> rfl
theorem go_some {y : α} : Go K (R.opt (some y) e) = K (.ok y e) := rfl
/- values -/
def getV (env : Vs.Env) : Option (Option T) → R D
  | some (some (.fz d)) => .ok d env
  | _ => .no
theorem go_v {i : Nat} : Go KD (eV i env) = Go KD (getV env env[i]?) := by
  unfold eV getV; rfl
theorem getV_fz : Go KD (getV env (some (some (.fz d)))) = KD (.ok d env) := rfl
theorem go_c : Go KD (eC d env) = KD (.ok d env) := rfl
def bin1 (o : D → D → Option D) (g : M D) (a : D) (env : Vs.Env) : R D := (g env).bind fun b env2 => R.opt (o a b) env2
def bin2 (o : D → D → Option D) (a b : D) (env : Vs.Env) : R D := R.opt (o a b) env
theorem go_bin {o : D → D → Option D} {f g : M D} : Go KD (eBin o f g env) = Go (kBind (bin1 o g) KD) (f env) := go_bind
theorem go_bin1 {o : D → D → Option D} {g : M D} : Go KD (bin1 o g a env) = Go (kBind (bin2 o a) KD) (g env) := go_bind
theorem go_bin2 {o : D → D → Option D} : Go KD (bin2 o a b env) = Go KD (R.opt (o a b) env) := rfl
def un1 (o : D → Option D) (a : D) (env : Vs.Env) : R D := R.opt (o a) env
theorem go_un {o : D → Option D} {f : M D} : Go KD (eUn o f env) = Go (kBind (un1 o) KD) (f env) := go_bind
theorem go_un1 {o : D → Option D} : Go KD (un1 o a env) = Go KD (R.opt (o a) env) := rfl
/- truth -/
def tru1 (a : D) (env : Vs.Env) : R Bool := R.opt (oTru a) env
def bl1 (a : D) (env : Vs.Env) : R Bool := R.opt (oBl a) env
theorem go_tru {f : M D} : Go KB (eTru f env) = Go (kBind tru1 KB) (f env) := go_bind
theorem go_tru1 : Go KB (tru1 a env) = Go KB (R.opt (oTru a) env) := rfl
theorem go_bl {f : M D} : Go KB (eBl f env) = Go (kBind bl1 KB) (f env) := go_bind
theorem go_bl1 : Go KB (bl1 a env) = Go KB (R.opt (oBl a) env) := rfl
def and1 (w : M Bool) : Bool → Vs.Env → R Bool
  | true, env => w env
  | false, env => .ok false env
def or1 (w : M Bool) : Bool → Vs.Env → R Bool
  | true, env => .ok true env
  | false, env => w env
def not1 (b : Bool) (env : Vs.Env) : R Bool := .ok (!b) env
theorem go_and {u w : M Bool} : Go KB (eAnd u w env) = Go (kBind (and1 w) KB) (u env) := by
  unfold eAnd; rw [go_bind]
  congr 1; congr 1; funext b e; cases b <;> rfl
theorem go_andT {w : M Bool} : Go KB (and1 w true env) = Go KB (w env) := rfl
theorem go_andF {w : M Bool} : Go KB (and1 w false env) = KB (.ok false env) := rfl
theorem go_or {u w : M Bool} : Go KB (eOr u w env) = Go (kBind (or1 w) KB) (u env) := by
  unfold eOr; rw [go_bind]
  congr 1; congr 1; funext b e; cases b <;> rfl
theorem go_orT {w : M Bool} : Go KB (or1 w true env) = KB (.ok true env) := rfl
theorem go_orF {w : M Bool} : Go KB (or1 w false env) = Go KB (w env) := rfl
theorem go_not {u : M Bool} : Go KB (eNot u env) = Go (kBind not1 KB) (u env) := go_bind
theorem go_not1 {b : Bool} : Go KB (not1 b env) = KB (.ok (!b) env) := rfl
def andV2 (g : M D) (d : D) : Bool → Vs.Env → R D
  | true, env => g env
  | false, env => .ok d env
def orV2 (g : M D) (d : D) : Bool → Vs.Env → R D
  | true, env => .ok d env
  | false, env => g env
def andV1 (g : M D) (d : D) (env : Vs.Env) : R D := (R.opt (oTru d) env).bind (andV2 g d)
def orV1 (g : M D) (d : D) (env : Vs.Env) : R D := (R.opt (oTru d) env).bind (orV2 g d)
theorem go_andV {f g : M D} : Go KD (eAndV f g env) = Go (kBind (andV1 g) KD) (f env) := by
  unfold eAndV; rw [go_bind]
  congr 1; congr 1; funext d e; unfold andV1
  cases oTru d with
  | none => rfl
  | some b => cases b <;> rfl
theorem go_orV {f g : M D} : Go KD (eOrV f g env) = Go (kBind (orV1 g) KD) (f env) := by
  unfold eOrV; rw [go_bind]
  congr 1; congr 1; funext d e; unfold orV1
  cases oTru d with
  | none => rfl
  | some b => cases b <;> rfl
theorem go_andV1 {g : M D} : Go KD (andV1 g d env) = Go (kBind (andV2 g d) KD) (R.opt (oTru d) env) := go_bind
theorem go_orV1 {g : M D} : Go KD (orV1 g d env) = Go (kBind (orV2 g d) KD) (R.opt (oTru d) env) := go_bind
theorem go_andVT {g : M D} : Go KD (andV2 g d true env) = Go KD (g env) := rfl
theorem go_andVF {g : M D} : Go KD (andV2 g d false env) = KD (.ok d env) := rfl
theorem go_orVT {g : M D} : Go KD (orV2 g d true env) = KD (.ok d env) := rfl
theorem go_orVF {g : M D} : Go KD (orV2 g d false env) = Go KD (g env) := rfl
def notV2 (k : Bool) (env : Vs.Env) : R D := .ok (.bl (!k)) env
def notV1 (d : D) (env : Vs.Env) : R D := (R.opt (oTru d) env).bind notV2
theorem go_notV {f : M D} : Go KD (eNotV f env) = Go (kBind notV1 KD) (f env) := go_bind
theorem go_notV1 : Go KD (notV1 d env) = Go (kBind notV2 KD) (R.opt (oTru d) env) := go_bind
theorem go_notV2 {k : Bool} : Go KD (notV2 k env) = KD (.ok (.bl (!k)) env) := rfl
def if1 (f g : M D) : Bool → Vs.Env → R D
  | true, env => f env
  | false, env => g env
theorem go_if {u : M Bool} {f g : M D} : Go KD (eIf u f g env) = Go (kBind (if1 f g) KD) (u env) := by
  unfold eIf; rw [go_bind]
  congr 1; congr 1; funext b e; cases b <;> rfl
theorem go_ifT {f g : M D} : Go KD (if1 f g true env) = Go KD (f env) := rfl
theorem go_ifF {f g : M D} : Go KD (if1 f g false env) = Go KD (g env) := rfl
/- lists -/
def cons2 (d : D) (ds : List D) (env : Vs.Env) : R (List D) := .ok (d :: ds) env
def cons1 (g : M (List D)) (d : D) (env : Vs.Env) : R (List D) := (g env).bind (cons2 d)
theorem go_nil : Go KL (eNil env) = KL (.ok [] env) := rfl
theorem go_cons {f : M D} {g : M (List D)} : Go KL (eCons f g env) = Go (kBind (cons1 g) KL) (f env) := go_bind
theorem go_cons1 {g : M (List D)} : Go KL (cons1 g d env) = Go (kBind (cons2 d) KL) (g env) := go_bind
theorem go_cons2 {ds : List D} : Go KL (cons2 d ds env) = KL (.ok (d :: ds) env) := rfl
def chk {α : Type} (p : Prop) [Decidable p] (r : R α) : R α := if p then r else .no
def lst1 (ds : List D) (env : Vs.Env) : R D := chk (ds.length ≤ sizeLine) (.ok (.lst ds) env)
def tup1 (ds : List D) (env : Vs.Env) : R D := chk (ds.length ≤ sizeLine) (.ok (.tup ds) env)
theorem go_chk {p : Prop} [Decidable p] {r : R α} (h : p) : Go K (chk p r) = Go K r := by unfold chk; rw [if_pos h]
theorem go_lst {l : M (List D)} : Go KD (eLst l env) = Go (kBind lst1 KD) (l env) := go_bind
theorem go_tup {l : M (List D)} : Go KD (eTup l env) = Go (kBind tup1 KD) (l env) := go_bind
theorem go_lst1 {ds : List D} (h : ds.length ≤ sizeLine) : Go KD (lst1 ds env) = KD (.ok (.lst ds) env) := by unfold lst1; rw [go_chk h]; rfl
theorem go_tup1 {ds : List D} (h : ds.length ≤ sizeLine) : Go KD (tup1 ds env) = KD (.ok (.tup ds) env) := by unfold tup1; rw [go_chk h]; rfl
def cal1 (o : List D → Option D) (ds : List D) (env : Vs.Env) : R D := R.opt (o ds) env
theorem go_cal {o : List D → Option D} {l : M (List D)} : Go KD (eCal o l env) = Go (kBind (cal1 o) KD) (l env) := go_bind
theorem go_cal1 {o : List D → Option D} {ds : List D} : Go KD (cal1 o ds env) = Go KD (R.opt (o ds) env) := rfl
def isi1 (ts : List String) (d : D) (env : Vs.Env) : R D := R.opt (oIsi ts d) env
theorem go_isi {ts : List String} {f : M D} : Go KD (eIsi ts f env) = Go (kBind (isi1 ts) KD) (f env) := go_bind
theorem go_isi1 {ts : List String} : Go KD (isi1 ts d env) = Go KD (R.opt (oIsi ts d) env) := rfl
/- statements -/
theorem go_seq {g g2 : MS} : Go KS (sSeq g g2 env) = Go (kSeq g2 KS) (g env) := by
  unfold sSeq RS.seq Go kSeq
  cases g env <;> rfl
def ret1 (d : D) (env : Vs.Env) : RS := .ret d env
theorem go_sRet {f : M D} : Go KS (sRet f env) = Go (kToS ret1 KS) (f env) := go_toS
theorem go_ret1 : Go KS (ret1 d env) = KS (.ret d env) := rfl
def ex1 (d : D) (env : Vs.Env) : RS := .next env
theorem go_sExpr {f : M D} : Go KS (sExpr f env) = Go (kToS ex1 KS) (f env) := go_toS
theorem go_ex1 : Go KS (ex1 d env) = KS (.next env) := rfl
def sif1 (g g2 : MS) : Bool → Vs.Env → RS
  | true, env => g env
  | false, env => g2 env
theorem go_sIf {u : M Bool} {g g2 : MS} : Go KS (sIf u g g2 env) = Go (kToS (sif1 g g2) KS) (u env) := by
  unfold sIf; rw [go_toS]
  congr 1; congr 1; funext b e; cases b <;> rfl
theorem go_sifT {g g2 : MS} : Go KS (sif1 g g2 true env) = Go KS (g env) := rfl
theorem go_sifF {g g2 : MS} : Go KS (sif1 g g2 false env) = Go KS (g2 env) := rfl
def optS (o : Option Vs.Env) : RS := match o with
  | some e => .next e
  | none => .no
theorem go_optS : Go KS (optS (some e)) = KS (.next e) := rfl
def asg1 (k : D → Vs.Env → Option Vs.Env) (d : D) (env : Vs.Env) : RS := optS (k d env)
theorem go_sAsg {f : M D} {k : D → Vs.Env → Option Vs.Env} : Go KS (sAsg f k env) = Go (kToS (asg1 k) KS) (f env) := by
  unfold sAsg; rw [go_toS]; rfl
theorem go_asg1 {k : D → Vs.Env → Option Vs.Env} : Go KS (asg1 k d env) = Go KS (optS (k d env)) := rfl
def set1 (i : Nat) (d : D) (env : Vs.Env) : RS := .next (env.set i (some (.fz d)))
theorem go_sSet {i : Nat} {f : M D} : Go KS (sSet i f env) = Go (kToS (set1 i) KS) (f env) := go_toS
theorem go_set1 {i : Nat} : Go KS (set1 i d env) = KS (.next (env.set i (some (.fz d)))) := rfl
def par1 (i j : Nat) (ds : List D) (env : Vs.Env) : RS := match ds with
  | [d1, d2] => .next ((env.set i (some (.fz d1))).set j (some (.fz d2)))
  | _ => .no
theorem go_sPar {i j : Nat} {l : M (List D)} : Go KS (sPar i j l env) = Go (kToS (par1 i j) KS) (l env) := go_toS
theorem go_par1 {i j : Nat} : Go KS (par1 i j [a, b] env) = KS (.next ((env.set i (some (.fz a))).set j (some (.fz b)))) := rfl
def aug1 (i : Nat) (o : D → D → Option D) (a : D) (d : D) (env : Vs.Env) : RS := match o a d with
  | some z => .next (env.set i (some (.fz z)))
  | none => .no
def augV (i : Nat) (o : D → D → Option D) (f : M D) (env : Vs.Env) : Option (Option T) → RS
  | some (some (.fz a)) => (f env).toS (aug1 i o a)
  | _ => .no
theorem go_sAug {i : Nat} {o : D → D → Option D} {f : M D} : Go KS (sAug i o f env) = Go KS (augV i o f env env[i]?) := by
  unfold sAug augV
  cases env[i]? with
  | none => rfl
  | some o => cases o with
    | none => rfl
    | some t => cases t <;> rfl
theorem go_augV {i : Nat} {o : D → D → Option D} {f : M D} : Go KS (augV i o f env (some (some (.fz a)))) = Go (kToS (aug1 i o a) KS) (f env) := go_toS
theorem go_aug1 {i : Nat} {o : D → D → Option D} {z : D} (h : o a d = some z) : Go KS (aug1 i o a d env) = KS (.next (env.set i (some (.fz z)))) := by unfold aug1; rw [h]; rfl
/- targets -/
theorem kN_eq {i : Nat} : kN i d env = some (env.set i (some (.fz d))) := rfl
theorem kNil_eq : kNil [] env = some env := rfl
theorem kCons_eq {k : D → Vs.Env → Option Vs.Env} {ks : List D → Vs.Env → Option Vs.Env} {ds : List D} : kCons k ks (d :: ds) env = (k d env).bind (ks ds) := rfl
theorem kT_eq {n : Nat} {ks : List D → Vs.Env → Option Vs.Env} {ds : List D} (h : ds.length = n) : kT n ks (.tup ds) env = ks ds env := by show (if ds.length = n then _ else _) = _; rw [if_pos h]
/- own lists -/
def rdO : Option (Option T) → Option D
  | some (some (.fz d)) => some d
  | some (some (.ol _ ds)) => some (.lst ds)
  | _ => none
theorem rdE_eq {i : Nat} : rdE i env = rdO env[i]? := by unfold rdE rdO; rfl
theorem rdO_fz : rdO (some (some (.fz d))) = some d := rfl
theorem rdO_ol {k : Option Nat} {ds : List D} : rdO (some (some (.ol k ds))) = some (.lst ds) := rfl
def owO : Option (Option T) → Option (Option Nat × List D)
  | some (some (.ol k ds)) => some (k, ds)
  | _ => none
theorem ownE_eq {i : Nat} : ownE i env = owO env[i]? := by unfold ownE owO; rfl
theorem owO_ol {k : Option Nat} {ds : List D} : owO (some (some (.ol k ds))) = some (k, ds) := rfl
def binL2 (i : Nat) (o : D → D → Option D) (b : D) (env : Vs.Env) : R D := R.opt ((rdE i env).bind fun a => o a b) env
def binL1 (i : Nat) (o : D → D → Option D) (g : M D) (env : Vs.Env) : Option D → R D
  | some _ => (g env).bind (binL2 i o)
  | none => .no
theorem go_binL {i : Nat} {o : D → D → Option D} {g : M D} : Go KD (eBinL i o g env) = Go KD (binL1 i o g env (rdE i env)) := by
  unfold eBinL binL1
  cases rdE i env <;> rfl
theorem go_binL1 {i : Nat} {o : D → D → Option D} {g : M D} : Go KD (binL1 i o g env (some d)) = Go (kBind (binL2 i o) KD) (g env) := go_bind
def oSw (o : D → D → Option D) (b a : D) : Option D := o a b
theorem go_binL2 {i : Nat} {o : D → D → Option D} : Go KD (binL2 i o b env) = Go KD (R.opt ((rdE i env).bind (oSw o b)) env) := rfl
theorem oSw_eq {o : D → D → Option D} : oSw o b a = o a b := rfl
def binR1 (i : Nat) (o : D → D → Option D) (a : D) (env : Vs.Env) : R D := R.opt ((rdE i env).bind (o a)) env
theorem go_binR {i : Nat} {o : D → D → Option D} {f : M D} : Go KD (eBinR i o f env) = Go (kBind (binR1 i o) KD) (f env) := go_bind
theorem go_binR1 {i : Nat} {o : D → D → Option D} : Go KD (binR1 i o a env) = Go KD (R.opt ((rdE i env).bind (o a)) env) := rfl
def put2 (i : Nat) (d z : D) (env : Vs.Env) : RS := match ownE i env, z with
  | some (k, ds), .int j => match ixN ds.length j with
    | some n => .next (env.set i (some (.ol k (ds.set n d))))
    | none => .no
  | _, _ => .no
def putO (i : Nat) (fi : M D) (d : D) (env : Vs.Env) : Option (Option Nat × List D) → RS
  | some _ => (fi env).toS (put2 i d)
  | none => .no
def put1 (i : Nat) (fi : M D) (d : D) (env : Vs.Env) : RS := putO i fi d env (ownE i env)
theorem go_sPut {i : Nat} {fi fv : M D} : Go KS (sPut i fi fv env) = Go (kToS (put1 i fi) KS) (fv env) := by
  unfold sPut; rw [go_toS]; rfl
theorem go_put1 {i : Nat} {fi : M D} : Go KS (put1 i fi d env) = Go KS (putO i fi d env (ownE i env)) := rfl
theorem go_putO {i : Nat} {fi : M D} {q : Option Nat × List D} : Go KS (putO i fi d env (some q)) = Go (kToS (put2 i d) KS) (fi env) := go_toS
def putN (i : Nat) (k : Option Nat) (ds : List D) (d : D) (env : Vs.Env) : Option Nat → RS
  | some n => .next (env.set i (some (.ol k (ds.set n d))))
  | none => .no
def putP (i : Nat) (j : Int) (d : D) (env : Vs.Env) : Option (Option Nat × List D) → RS
  | some (k, ds) => putN i k ds d env (ixN ds.length j)
  | none => .no
theorem go_put2 {i : Nat} {j : Int} : Go KS (put2 i d (.int j) env) = Go KS (putP i j d env (ownE i env)) := by
  unfold put2 putP putN
  cases ownE i env <;> rfl
theorem go_putP {i : Nat} {j : Int} {k : Option Nat} {ds : List D} : Go KS (putP i j d env (some (k, ds))) = Go KS (putN i k ds d env (ixN ds.length j)) := rfl
theorem go_putN {i n : Nat} {k : Option Nat} {ds : List D} : Go KS (putN i k ds d env (some n)) = KS (.next (env.set i (some (.ol k (ds.set n d))))) := rfl
theorem go_retF1 {l : M (List D)} : Go KS (sRetF l env) = Go (kToS RS.retF KS) (l env) := go_toS
def fl1 (ds : List D) (env : Vs.Env) : R (List D) := chk (ds.length ≤ sizeLine) (.ok ds env)
theorem go_fLst {l : M (List D)} : Go KL (fLst l env) = Go (kBind fl1 KL) (l env) := go_bind
theorem go_fl1 {ds : List D} (h : ds.length ≤ sizeLine) : Go KL (fl1 ds env) = KL (.ok ds env) := by unfold fl1; rw [go_chk h]; rfl
def own1 (i : Nat) (ds : List D) (env : Vs.Env) : RS := .next (env.set i (some (.ol none ds)))
theorem go_sOwn {i : Nat} {l : M (List D)} : Go KS (sOwn i l env) = Go (kToS (own1 i) KS) (l env) := go_toS
theorem go_own1 {i : Nat} {ds : List D} : Go KS (own1 i ds env) = KS (.next (env.set i (some (.ol none ds)))) := rfl
/- calls -/
def kFR (env : Vs.Env) (K : R D → Prop) : FR → Prop
  | .ok d _ => K (.ok d env)
  | .exc x _ => K (.exc x env)
  | .no => K .no
def kIo (i : Nat) (k : Option Nat) (env : Vs.Env) (K : R D → Prop) : FR → Prop
  | .ok d (some cs) => K (.ok d (env.set i (some (.ol k cs))))
  | .exc x (some cs) => K (.exc x (env.set i (some (.ol k cs))))
  | _ => K .no
def call1 (n : Nat) (F : Fs) (dds : List D) (ds : List D) (env : Vs.Env) : R D := if (ds ++ dds).length = n then (F none (ds ++ dds)).toR env else .no
theorem go_call {n : Nat} {F : Fs} {dds : List D} {l : M (List D)} : Go KD (eCall n F dds l env) = Go (kBind (call1 n F dds) KD) (l env) := go_bind
theorem go_call1 {n : Nat} {F : Fs} {dds ds : List D} (h : (ds ++ dds).length = n) : Go KD (call1 n F dds ds env) = Go (kFR env KD) (F none (ds ++ dds)) := by
  unfold call1; rw [if_pos h]; unfold Go kFR FR.toR
  cases F none (ds ++ dds) <;> rfl
theorem kFR_ok {o : Option (List D)} : kFR env KD (.ok d o) = KD (.ok d env) := rfl
theorem kFR_exc {o : Option (List D)} : kFR env KD (.exc x o) = KD (.exc x env) := rfl
def io2 (n : Nat) (F : Fs) (i : Nat) (dds ds : List D) (env : Vs.Env) : Option (Option T) → R D
  | some (some (.ol k cs)) => if (ds ++ dds).length + 1 = n then (F (some cs) (ds ++ dds)).toIo i k env else .no
  | _ => .no
def io1 (n : Nat) (F : Fs) (i : Nat) (dds ds : List D) (env : Vs.Env) : R D := io2 n F i dds ds env env[i]?
def io0 (n : Nat) (F : Fs) (i : Nat) (dds : List D) (l : M (List D)) (env : Vs.Env) : Option (Option T) → R D
  | some (some _) => (l env).bind (io1 n F i dds)
  | _ => .no
theorem go_callIo {n i : Nat} {F : Fs} {dds : List D} {l : M (List D)} : Go KD (eCallIo n F i dds l env) = Go KD (io0 n F i dds l env env[i]?) := by
  unfold eCallIo io0 io1 io2; rfl
theorem go_io0 {n i : Nat} {F : Fs} {dds : List D} {l : M (List D)} {t : T} : Go KD (io0 n F i dds l env (some (some t))) = Go (kBind (io1 n F i dds) KD) (l env) := go_bind
theorem go_io1 {n i : Nat} {F : Fs} {dds ds : List D} : Go KD (io1 n F i dds ds env) = Go KD (io2 n F i dds ds env env[i]?) := rfl
theorem go_io2 {n i : Nat} {F : Fs} {dds ds cs : List D} {k : Option Nat} (h : (ds ++ dds).length + 1 = n) : Go KD (io2 n F i dds ds env (some (some (.ol k cs)))) = Go (kIo i k env KD) (F (some cs) (ds ++ dds)) := by
  unfold io2; simp only [if_pos h]; unfold Go kIo FR.toIo
  cases F (some cs) (ds ++ dds) with
  | ok d o => cases o <;> rfl
  | exc x o => cases o <;> rfl
  | no => rfl
theorem kIo_ok {i : Nat} {k : Option Nat} {cs : List D} : kIo i k env KD (.ok d (some cs)) = KD (.ok d (env.set i (some (.ol k cs)))) := rfl
theorem kIo_exc {i : Nat} {k : Option Nat} {cs : List D} : kIo i k env KD (.exc x (some cs)) = KD (.exc x (env.set i (some (.ol k cs)))) := rfl
def calln2 (n m mk : Nat) (F : Fs) (gD : List D → List D → List D) (ds es : List D) (env : Vs.Env) : R D := if ds.length = m ∧ es.length = mk ∧ (gD ds es).length = n then (F none (gD ds es)).toR env else .no
def calln1 (n m mk : Nat) (F : Fs) (gD : List D → List D → List D) (lk : M (List D)) (ds : List D) (env : Vs.Env) : R D := (lk env).bind (calln2 n m mk F gD ds)
theorem go_callN {n m mk : Nat} {F : Fs} {gD : List D → List D → List D} {l lk : M (List D)} : Go KD (eCallN n m mk F gD l lk env) = Go (kBind (calln1 n m mk F gD lk) KD) (l env) := go_bind
theorem go_calln1 {n m mk : Nat} {F : Fs} {gD : List D → List D → List D} {lk : M (List D)} {ds : List D} : Go KD (calln1 n m mk F gD lk ds env) = Go (kBind (calln2 n m mk F gD ds) KD) (lk env) := go_bind
theorem go_calln2 {n m mk : Nat} {F : Fs} {gD : List D → List D → List D} {ds es : List D} (h : ds.length = m ∧ es.length = mk ∧ (gD ds es).length = n) : Go KD (calln2 n m mk F gD ds es env) = Go (kFR env KD) (F none (gD ds es)) := by
  unfold calln2; rw [if_pos h]; unfold Go kFR FR.toR
  cases F none (gD ds es) <;> rfl
theorem go_okF {o : Option (List D)} : Go KF (.ok d o) = KF (.ok d o) := rfl
theorem go_excF {o : Option (List D)} : Go KF (.exc x o) = KF (.exc x o) := rfl
def finO (env : Vs.Env) (d : D) : Option (Option (List D)) → FR
  | some out => .ok d out
  | none => .no
def finX (env : Vs.Env) (x : Xn) : Option (Option (List D)) → FR
  | some out => .exc x out
  | none => .no
def kRun (io : Option (List D)) (K : FR → Prop) : RS → Prop
  | .next env => Go K (finO env .non (finF io env))
  | .ret d env => Go K (finO env d (finF io env))
  | .exc x env => Go K (finX env x (finF io env))
  | _ => K .no
theorem go_runF {n : Nat} {g : MS} {io : Option (List D)} {ds : List D} : Go KF (runF n g io ds) = Go (kRun io KF) (g (env0 n io ds)) := by
  unfold runF Go kRun
  cases g (env0 n io ds) with
  | next e => simp only [finO]; split <;> simp_all [Go, finO]
  | ret d e => simp only [finO]; split <;> simp_all [Go, finO]
  | exc x e => simp only [finX]; split <;> simp_all [Go, finX]
  | _ => rfl
theorem kRun_next {io : Option (List D)} : kRun io KF (.next env) = Go KF (finO env .non (finF io env)) := rfl
theorem kRun_ret {io : Option (List D)} : kRun io KF (.ret d env) = Go KF (finO env d (finF io env)) := rfl
theorem kRun_exc {io : Option (List D)} : kRun io KF (.exc x env) = Go KF (finX env x (finF io env)) := rfl
theorem finF_none : finF none env = some none := rfl
def finS : Option (Option T) → Option (Option (List D))
  | some (some (T.ol (some 0) cs)) => some (some cs)
  | _ => none
theorem finF_some {cs : List D} : finF (some cs) env = finS (env[0]? : Option (Option T)) := by unfold finF finS; rfl
theorem finS_ol {cs : List D} : finS (some (some (.ol (some 0) cs))) = some (some cs) := rfl
theorem go_finO {o : Option (List D)} : Go KF (finO env d (some o)) = KF (.ok d o) := rfl
theorem go_finX {o : Option (List D)} : Go KF (finX env x (some o)) = KF (.exc x o) := rfl
/- iterables and loops -/
def items1 (d : D) (env : Vs.Env) : R (List D) := match d with
  | .lst xs => .ok xs env
  | .tup xs => .ok xs env
  | _ => .no
theorem go_items {f : M D} : Go KL (eItems f env) = Go (kBind items1 KL) (f env) := go_bind
theorem go_items_lst {xs : List D} : Go KL (items1 (.lst xs) env) = KL (.ok xs env) := rfl
theorem go_items_tup {xs : List D} : Go KL (items1 (.tup xs) env) = KL (.ok xs env) := rfl
def rng1 (ds : List D) (env : Vs.Env) : R (List D) := match ds with
  | [.int j] => if -(2 ^ 62) ≤ j ∧ j < 2 ^ 62 then .ok (rngD 0 j.toNat) env else .no
  | _ => .no
theorem go_rng1 {l : M (List D)} : Go KL (eRng1 l env) = Go (kBind rng1 KL) (l env) := go_bind
theorem go_rng1_ok {j : Int} (h : -(2 ^ 62) ≤ j ∧ j < 2 ^ 62) : Go KL (rng1 [.int j] env) = KL (.ok (rngD 0 j.toNat) env) := by
  show Go KL (if -(2 ^ 62) ≤ j ∧ j < 2 ^ 62 then _ else _) = _
  rw [if_pos h]; rfl
def rng2 (ds : List D) (env : Vs.Env) : R (List D) := match ds with
  | [.int i, .int j] => if -(2 ^ 62) ≤ i ∧ i < 2 ^ 62 ∧ -(2 ^ 62) ≤ j ∧ j < 2 ^ 62 then .ok (rngD i (j - i).toNat) env else .no
  | _ => .no
theorem go_rng2 {l : M (List D)} : Go KL (eRng2 l env) = Go (kBind rng2 KL) (l env) := go_bind
theorem go_rng2_ok {i j : Int} (h : -(2 ^ 62) ≤ i ∧ i < 2 ^ 62 ∧ -(2 ^ 62) ≤ j ∧ j < 2 ^ 62) : Go KL (rng2 [.int i, .int j] env) = KL (.ok (rngD i (j - i).toNat) env) := by
  show Go KL (if -(2 ^ 62) ≤ i ∧ i < 2 ^ 62 ∧ -(2 ^ 62) ≤ j ∧ j < 2 ^ 62 then _ else _) = _
  rw [if_pos h]; rfl
def zip1 (ds : List D) (env : Vs.Env) : R (List D) := match ds with
  | [.lst xs, .lst ys] => .ok (zipD xs ys) env
  | [.tup xs, .tup ys] => .ok (zipD xs ys) env
  | _ => .no
theorem go_zip {l : M (List D)} : Go KL (eZip l env) = Go (kBind zip1 KL) (l env) := go_bind
theorem go_zip_l {xs ys : List D} : Go KL (zip1 [.lst xs, .lst ys] env) = KL (.ok (zipD xs ys) env) := rfl
theorem go_zip_t {xs ys : List D} : Go KL (zip1 [.tup xs, .tup ys] env) = KL (.ok (zipD xs ys) env) := rfl
def enum1 (ds : List D) (env : Vs.Env) : R (List D) := match ds with
  | [.lst xs] => .ok (enumD xs) env
  | _ => .no
theorem go_enum {l : M (List D)} : Go KL (eEnum l env) = Go (kBind enum1 KL) (l env) := go_bind
theorem go_enum_l {xs : List D} : Go KL (enum1 [.lst xs] env) = KL (.ok (enumD xs) env) := rfl
def for1 (k : D → Vs.Env → Option Vs.Env) (g : MS) (ds : List D) (env : Vs.Env) : RS := loopS k g ds env
theorem go_sFor {l : M (List D)} {k : D → Vs.Env → Option Vs.Env} {g : MS} : Go KS (sFor l k g env) = Go (kToS (for1 k g) KS) (l env) := go_toS
theorem go_for1 {k : D → Vs.Env → Option Vs.Env} {g : MS} {ds : List D} : Go KS (for1 k g ds env) = Go KS (loopS k g ds env) := rfl
def kLoop (k : D → Vs.Env → Option Vs.Env) (g : MS) (ds : List D) (K : RS → Prop) : RS → Prop
  | .next e => Go K (loopS k g ds e)
  | .cont e => Go K (loopS k g ds e)
  | .brk e => K (.next e)
  | r => K r
theorem kLoop_next {k : D → Vs.Env → Option Vs.Env} {g : MS} {ds : List D} : kLoop k g ds KS (.next e) = Go KS (loopS k g ds e) := rfl
theorem kLoop_cont {k : D → Vs.Env → Option Vs.Env} {g : MS} {ds : List D} : kLoop k g ds KS (.cont e) = Go KS (loopS k g ds e) := rfl
theorem kLoop_brk {k : D → Vs.Env → Option Vs.Env} {g : MS} {ds : List D} : kLoop k g ds KS (.brk e) = KS (.next e) := rfl
theorem kLoop_ret {k : D → Vs.Env → Option Vs.Env} {g : MS} {ds : List D} : kLoop k g ds KS (.ret d e) = KS (.ret d e) := rfl
theorem kLoop_exc {k : D → Vs.Env → Option Vs.Env} {g : MS} {ds : List D} : kLoop k g ds KS (.exc x e) = KS (.exc x e) := rfl
theorem go_loop_nil {k : D → Vs.Env → Option Vs.Env} {g : MS} : Go KS (loopS k g [] env) = KS (.next env) := rfl
theorem go_loop_cons {k : D → Vs.Env → Option Vs.Env} {g : MS} {ds : List D} {e1 : Vs.Env} (h : k d env = some e1) : Go KS (loopS k g (d :: ds) env) = Go (kLoop k g ds KS) (g e1) := by
  conv => lhs; unfold loopS
  simp only [h]
  unfold Go kLoop
  cases g e1 <;> rfl
/-- a turn that ends as it should -/
def Turn (I : Vs.Env → Prop) : RS → Prop
  | .next e => I e
  | .cont e => I e
  | _ => False
theorem turn_next {I : Vs.Env → Prop} : Turn I (.next e) = I e := rfl
theorem turn_cont {I : Vs.Env → Prop} : Turn I (.cont e) = I e := rfl
/-- a loop that keeps an invariant; each turn ends as `next` or `continue` -/
theorem go_loop {k : D → Vs.Env → Option Vs.Env} {g : MS} (I : Nat → Vs.Env → Prop) : ∀ (ds : List D) (n : Nat) (env : Vs.Env),
    (∀ (i : Nat) (d : D) (e : Vs.Env), ds[i]? = some d → I (n + i) e → ∃ e1, k d e = some e1 ∧ Go (Turn (I (n + i + 1))) (g e1)) →
    I n env → (∀ e2, I (n + ds.length) e2 → KS (.next e2)) → Go KS (loopS k g ds env)
  | [], n, env, _, h0, hK => hK env h0
  | d :: ds, n, env, hs, h0, hK => by
    obtain ⟨e1, h1, h2⟩ := hs 0 d env rfl h0
    rw [go_loop_cons h1]
    have hn : ∀ i, n + 1 + i = n + (i + 1) := fun i => by omega
    have rcc : ∀ e2, I (n + 1) e2 → Go KS (loopS k g ds e2) := fun e2 h => go_loop I ds (n + 1) e2
      (fun i d e hi hI => by rw [hn i] at hI ⊢; exact hs (i + 1) d e (by simpa using hi) hI) h (fun e2 h => hK e2 (by rw [List.length_cons, ← hn]; exact h))
    unfold Go at h2 ⊢
    revert h2
    cases g e1 <;> intro h2 <;> first | exact rcc _ h2 | exact h2.elim
/- comprehensions -/
def lc2 (env1 : Vs.Env) (vs : List Nat) : R (List D) → R D
  | .ok ys env2 => chk (ys.length ≤ sizeLine) (.ok (.lst ys) (restE env1 env2 vs))
  | _ => .no
def lc1 (vs : List Nat) (k : D → Vs.Env → Option Vs.Env) (t : M Bool) (el : M D) (ds : List D) (env1 : Vs.Env) : R D := chk (plainE env1 vs = true) (lc2 env1 vs (loopC vs k t el ds (wipeE env1 vs)))
theorem go_lc {vs : List Nat} {l : M (List D)} {k : D → Vs.Env → Option Vs.Env} {t : M Bool} {el : M D} : Go KD (eLc vs l k t el env) = Go (kBind (lc1 vs k t el) KD) (l env) := by
  unfold eLc; rw [go_bind]; rfl
def kLc (env1 : Vs.Env) (vs : List Nat) (K : R D → Prop) : R (List D) → Prop
  | .ok ys env2 => Go K (chk (ys.length ≤ sizeLine) (.ok (.lst ys) (restE env1 env2 vs)))
  | _ => K .no
theorem go_lc1 {vs : List Nat} {k : D → Vs.Env → Option Vs.Env} {t : M Bool} {el : M D} {ds : List D} (h : plainE env vs = true) : Go KD (lc1 vs k t el ds env) = Go (kLc env vs KD) (loopC vs k t el ds (wipeE env vs)) := by
  unfold lc1; rw [go_chk h]; unfold Go kLc lc2
  cases loopC vs k t el ds (wipeE env vs) <;> rfl
theorem kLc_ok {vs : List Nat} {ys : List D} {env2 : Vs.Env} (h : ys.length ≤ sizeLine) : kLc env vs KD (.ok ys env2) = KD (.ok (.lst ys) (restE env env2 vs)) := by
  show Go KD (chk _ _) = _
  rw [go_chk h]; rfl
/-- a comprehension whose parts change nothing: base is the names' state but for the comprehension's own -/
theorem loopC_pure {vs : List Nat} {k : D → Vs.Env → Option Vs.Env} {t : M Bool} {el : M D} (p : D → Bool) (f : D → D) (w : D → Vs.Env) (e0 : Vs.Env) : ∀ (ds : List D),
    (∀ d ∈ ds, k d e0 = some (w d) ∧ wipeE (w d) vs = e0 ∧ t (w d) = .ok (p d) (w d) ∧ (p d = true → el (w d) = .ok (f d) (w d))) →
    loopC vs k t el ds e0 = .ok ((ds.filter p).map f) e0
  | [], _ => rfl
  | d :: ds, h => by
    obtain ⟨h1, h2, h3, h4⟩ := h d List.mem_cons_self
    have ih := loopC_pure p f w e0 ds (fun d hd => h d (List.mem_cons_of_mem _ hd))
    unfold loopC
    simp only [h1, h3, R.bind]
    cases hp : p d with
    | true => simp [h4 hp, h2, ih, List.filter_cons, hp]
    | false => simp [h2, ih, List.filter_cons, hp]
def kC (vs : List Nat) (k : D → Vs.Env → Option Vs.Env) (t : M Bool) (el : M D) (I : List D → Vs.Env → Prop) (acc : List D) : R D → Prop
  | .ok y e => I (acc ++ [y]) (wipeE e vs)
  | _ => False
/-- an element that ends as it should -/
def Elem (I : D → Vs.Env → Prop) : R D → Prop
  | .ok y e => I y e
  | _ => False
theorem elem_ok {I : D → Vs.Env → Prop} {y : D} : Elem I (.ok y e) = I y e := rfl
/-- a test that ends as it should -/
def Test (I : Vs.Env → Prop) (J : Vs.Env → Prop) : R Bool → Prop
  | .ok true e => I e
  | .ok false e => J e
  | _ => False
theorem test_ok {I J : Vs.Env → Prop} {b : Bool} : Test I J (.ok b e) = ((b = true → I e) ∧ (b = false → J e)) := by
  cases b <;> simp [Test]
/-- a comprehension that keeps an invariant -/
theorem go_loopC {vs : List Nat} {k : D → Vs.Env → Option Vs.Env} {t : M Bool} {el : M D} (I : Nat → List D → Vs.Env → Prop) : ∀ (ds : List D) (n : Nat) (acc : List D) (env : Vs.Env) (K : R (List D) → Prop),
    (∀ (i : Nat) (d : D) (acc : List D) (e : Vs.Env), ds[i]? = some d → I (n + i) acc e → ∃ e1, k d e = some e1 ∧
      Go (Test (fun e2 => Go (Elem fun y e3 => I (n + i + 1) (acc ++ [y]) (wipeE e3 vs)) (el e2)) (fun e2 => I (n + i + 1) acc (wipeE e2 vs))) (t e1)) →
    I n acc env → (∀ ys e2, I (n + ds.length) (acc ++ ys) e2 → K (.ok ys e2)) → Go K (loopC vs k t el ds env)
  | [], n, acc, env, K, _, h0, hK => hK [] env (by simpa using h0)
  | d :: ds, n, acc, env, K, hs, h0, hK => by
    obtain ⟨e1, h1, h2⟩ := hs 0 d acc env rfl h0
    have hn : ∀ i, n + 1 + i = n + (i + 1) := fun i => by omega
    have go : ∀ (acc' : List D) (e' : Vs.Env) (K' : R (List D) → Prop), I (n + 1) acc' e' → (∀ ys e2, I (n + 1 + ds.length) (acc' ++ ys) e2 → K' (.ok ys e2)) → Go K' (loopC vs k t el ds e') := fun acc' e' K' h hK' =>
      go_loopC I ds (n + 1) acc' e' K' (fun i d acc e hi hI => by rw [hn i] at hI ⊢; exact hs (i + 1) d acc e (by simpa using hi) hI) h hK'
    unfold loopC
    simp only [h1]
    unfold Go at h2
    revert h2
    cases t e1 with
    | ok b e2 =>
      intro h2
      show Go K (if b = true then _ else _)
      cases b with
      | true =>
        rw [if_pos rfl]
        have h3 : Elem _ (el e2) := h2
        revert h3
        cases el e2 with
        | ok y e3 =>
          intro h3
          show Go K ((loopC vs k t el ds (wipeE e3 vs)).bind fun ys env4 => R.ok (y :: ys) env4)
          rw [go_bind]
          refine go (acc ++ [y]) _ _ h3 fun ys e2 h => ?_
          exact hK (y :: ys) e2 (by rw [List.length_cons, ← hn]; simpa using h)
        | exc x e => exact fun h3 => h3.elim
        | no => exact fun h3 => h3.elim
      | false =>
        rw [if_neg (by simp)]
        refine go acc _ _ h2 fun ys e2 h => hK ys e2 (by rw [List.length_cons, ← hn]; exact h)
    | exc x e => exact fun h2 => h2.elim
    | no => exact fun h2 => h2.elim
theorem go_yes {KB : R Bool → Prop} : Go KB (eYes env) = KB (.ok true env) := rfl
/- slices -/
def sl3 (d : D) (l : Option Int) (u : Option Int) (env : Vs.Env) : R D := R.opt (oSl d l u) env
def sl2 (hi : M (Option Int)) (d : D) (l : Option Int) (env : Vs.Env) : R D := (hi env).bind (sl3 d l)
def sl1 (lo hi : M (Option Int)) (d : D) (env : Vs.Env) : R D := (lo env).bind (sl2 hi d)
theorem go_sl {f : M D} {lo hi : M (Option Int)} : Go KD (eSl f lo hi env) = Go (kBind (sl1 lo hi) KD) (f env) := go_bind
theorem go_sl1 {lo hi : M (Option Int)} : Go KD (sl1 lo hi d env) = Go (kBind (sl2 hi d) KD) (lo env) := go_bind
theorem go_sl2 {hi : M (Option Int)} {l : Option Int} : Go KD (sl2 hi d l env) = Go (kBind (sl3 d l) KD) (hi env) := go_bind
theorem go_sl3 {l u : Option Int} : Go KD (sl3 d l u env) = Go KD (R.opt (oSl d l u) env) := rfl
theorem go_noP : Go KO (eNoP env) = KO (.ok none env) := rfl
def p1 (d : D) (env : Vs.Env) : R (Option Int) := match d with
  | .int i => .ok (some i) env
  | _ => .no
theorem go_p {f : M D} : Go KO (eP f env) = Go (kBind p1 KO) (f env) := go_bind
theorem go_p1 {i : Int} : Go KO (p1 (.int i) env) = KO (.ok (some i) env) := rfl
def rev1 (d : D) (env : Vs.Env) : R D := match d with
  | .lst xs => .ok (.lst xs.reverse) env
  | _ => .no
theorem go_rev {f : M D} : Go KD (eRev f env) = Go (kBind rev1 KD) (f env) := go_bind
theorem go_rev1 {xs : List D} : Go KD (rev1 (.lst xs) env) = KD (.ok (.lst xs.reverse) env) := rfl
/- chains -/
def ch4 (o' : D → D → Option D) (y z : D) (env : Vs.Env) : R D := R.opt (o' y z) env
def ch3 (o' : D → D → Option D) (h : M D) (y : D) : Bool → Vs.Env → R D
  | true, env => (h env).bind (ch4 o' y)
  | false, env => .ok (.bl false) env
def ch2 (o o' : D → D → Option D) (h : M D) (x y : D) (env : Vs.Env) : R D := (R.opt ((o x y).bind oBl) env).bind (ch3 o' h y)
def ch1 (o o' : D → D → Option D) (g h : M D) (x : D) (env : Vs.Env) : R D := (g env).bind (ch2 o o' h x)
theorem go_chain {o o' : D → D → Option D} {f g h : M D} : Go KD (eChain o o' f g h env) = Go (kBind (ch1 o o' g h) KD) (f env) := by
  unfold eChain; rw [go_bind]
  congr 1; congr 1; funext x e; unfold ch1
  congr 1; funext y e2; unfold ch2
  congr 1; funext k e3; cases k <;> rfl
theorem go_ch1 {o o' : D → D → Option D} {g h : M D} : Go KD (ch1 o o' g h a env) = Go (kBind (ch2 o o' h a) KD) (g env) := go_bind
theorem go_ch2 {o o' : D → D → Option D} {h : M D} : Go KD (ch2 o o' h a b env) = Go (kBind (ch3 o' h b) KD) (R.opt ((o a b).bind oBl) env) := go_bind
theorem go_ch3T {o' : D → D → Option D} {h : M D} : Go KD (ch3 o' h b true env) = Go (kBind (ch4 o' b) KD) (h env) := go_bind
theorem go_ch3F {o' : D → D → Option D} {h : M D} : Go KD (ch3 o' h b false env) = KD (.ok (.bl false) env) := rfl
theorem go_ch4 {o' : D → D → Option D} : Go KD (ch4 o' a b env) = Go KD (R.opt (o' a b) env) := rfl
/- dict displays -/
def prs4 (k' : Key) (v : D) (ps : List (Key × D)) (env : Vs.Env) : R (List (Key × D)) := .ok ((k', v) :: ps) env
def prs3 (r : List (M D × M D)) (v : D) (k' : Key) (env : Vs.Env) : R (List (Key × D)) := (ePairs r env).bind (prs4 k' v)
def prs2 (r : List (M D × M D)) (k v : D) (env : Vs.Env) : R (List (Key × D)) := (R.opt (keyD k) env).bind (prs3 r v)
def prs1 (fv : M D) (r : List (M D × M D)) (k : D) (env : Vs.Env) : R (List (Key × D)) := (fv env).bind (prs2 r k)
def dic1 (ps : List (Key × D)) (env : Vs.Env) : R D := .ok (.dic (mergeD [] ps)) env
theorem go_dic {fs : List (M D × M D)} : Go KD (eDic fs env) = Go (kBind dic1 KD) (ePairs fs env) := go_bind
theorem go_dic1 {ps : List (Key × D)} : Go KD (dic1 ps env) = KD (.ok (.dic (mergeD [] ps)) env) := rfl
variable {KP : R (List (Key × D)) → Prop}
theorem go_prs_nil : Go KP (ePairs [] env) = KP (.ok [] env) := rfl
theorem go_prs {fk fv : M D} {r : List (M D × M D)} : Go KP (ePairs ((fk, fv) :: r) env) = Go (kBind (prs1 fv r) KP) (fk env) := go_bind
theorem go_prs1 {fv : M D} {r : List (M D × M D)} : Go KP (prs1 fv r a env) = Go (kBind (prs2 r a) KP) (fv env) := go_bind
theorem go_prs2 {r : List (M D × M D)} : Go KP (prs2 r a b env) = Go (kBind (prs3 r b) KP) (R.opt (keyD a) env) := go_bind
theorem go_prs3 {r : List (M D × M D)} {k' : Key} : Go KP (prs3 r b k' env) = Go (kBind (prs4 k' b) KP) (ePairs r env) := go_bind
theorem go_prs4 {k' : Key} {ps : List (Key × D)} : Go KP (prs4 k' b ps env) = KP (.ok ((k', b) :: ps) env) := rfl
/- fresh results -/
def kW (env : Vs.Env) (K : R (List D) → Prop) : WR → Prop
  | .ok ds => K (.ok ds env)
  | .exc x => K (.exc x env)
  | .no => K .no
theorem kW_ok {ds : List D} : kW env KL (.ok ds) = KL (.ok ds env) := rfl
def fcall1 (n : Nat) (F : List D → WR) (dds ds : List D) (env : Vs.Env) : R (List D) := if (ds ++ dds).length = n then (F (ds ++ dds)).toR env else .no
theorem go_fcall {n : Nat} {F : List D → WR} {dds : List D} {l : M (List D)} : Go KL (fCall n F dds l env) = Go (kBind (fcall1 n F dds) KL) (l env) := go_bind
theorem go_fcall1 {n : Nat} {F : List D → WR} {dds ds : List D} (h : (ds ++ dds).length = n) : Go KL (fcall1 n F dds ds env) = Go (kW env KL) (F (ds ++ dds)) := by
  unfold fcall1; rw [if_pos h]; unfold Go kW WR.toR
  cases F (ds ++ dds) <;> rfl
def kRunW (K : WR → Prop) : RS → Prop
  | .retF ds _ => K (.ok ds)
  | .exc x _ => K (.exc x)
  | _ => K .no
theorem go_runW {n : Nat} {g : MS} {ds : List D} : Go KW (runW n g ds) = Go (kRunW KW) (g (env0 n none ds)) := by
  unfold runW Go kRunW
  cases g (env0 n none ds) <;> rfl
theorem kRunW_ok {ds : List D} : kRunW KW (.retF ds env) = KW (.ok ds) := rfl
theorem go_okW {ds : List D} : Go KW (.ok ds) = KW (.ok ds) := rfl
def cf1 (ds : List D) (env : Vs.Env) : R D := .ok (.lst ds) env
theorem go_cf {l : M (List D)} : Go KD (eCf l env) = Go (kBind cf1 KD) (l env) := go_bind
theorem go_cf1 {ds : List D} : Go KD (cf1 ds env) = KD (.ok (.lst ds) env) := rfl
end
theorem oAdd_int {i j : Int} : oAdd (.int i) (.int j) = some (.int (i + j)) := rfl
theorem oAdd_bl {i : Int} {b : Bool} : oAdd (.int i) (.bl b) = some (.int (i + b2i b)) := rfl
theorem oAdd_lst {xs ys : List D} (h : xs.length + ys.length ≤ 10000) : oAdd (.lst xs) (.lst ys) = some (.lst (xs ++ ys)) := by
  show (if _ then _ else _) = _
  rw [if_pos (Nat.le_trans h (by decide))]
theorem oAdd_tup {xs ys : List D} (h : xs.length + ys.length ≤ 10000) : oAdd (.tup xs) (.tup ys) = some (.tup (xs ++ ys)) := by
  show (if _ then _ else _) = _
  rw [if_pos (Nat.le_trans h (by decide))]
theorem atI_0 {α : Type} {a : α} {l : List α} : atI (a :: l) 0 = some a := by
  unfold atI ixN
  rw [if_pos (by omega), if_pos (by simp only [List.length_cons]; omega)]; rfl
theorem atI_1 {α : Type} {a b : α} {l : List α} : atI (a :: b :: l) 1 = some b := by
  unfold atI ixN
  rw [if_pos (by omega), if_pos (by simp only [List.length_cons]; omega)]; rfl
theorem atI_2 {α : Type} {a b c : α} {l : List α} : atI (a :: b :: c :: l) 2 = some c := by
  unfold atI ixN
  rw [if_pos (by omega), if_pos (by simp only [List.length_cons]; omega)]; rfl
theorem atI_3 {α : Type} {a b c d : α} {l : List α} : atI (a :: b :: c :: d :: l) 3 = some d := by
  unfold atI ixN
  rw [if_pos (by omega), if_pos (by simp only [List.length_cons]; omega)]; rfl
theorem ixN_0 {n : Nat} : ixN (n + 1) 0 = some 0 := by
  unfold ixN
  rw [if_pos (by omega), if_pos (by omega)]; rfl
theorem ixN_1 {n : Nat} : ixN (n + 1 + 1) 1 = some 1 := by
  unfold ixN
  rw [if_pos (by omega), if_pos (by omega)]; rfl
theorem ixN_2 {n : Nat} : ixN (n + 1 + 1 + 1) 2 = some 2 := by
  unfold ixN
  rw [if_pos (by omega), if_pos (by omega)]; rfl
theorem sz_lit {n : Nat} (h : n ≤ 1000) : (n ≤ sizeLine) = True := eq_true (Nat.le_trans h (by decide))
/-- from one outcome to all continuations -/
theorem go_of {α : Type} {r y : α} (h : r = y) {K : α → Prop} : Go K r = K y := by rw [h]; rfl
theorem of_go {α : Type} {r y : α} (h : Go (fun z => z = y) r) : r = y := h
end Vs

set_option Elab.async false
set_option linter.all false
set_option maxRecDepth 100000
set_option maxHeartbeats 4000000
/-! VsP2: running what has to do with classes, in plain Lean. -/
namespace Vs
open PySem PySem.Spec PyProof.Rows L2 Evl
section
variable {α β γ : Type} {K : R α → Prop} {KD : R D → Prop} {KB : R Bool → Prop} {KL : R (List D) → Prop} {KS : RS → Prop} {KF : FR → Prop} {env e : Vs.Env} {d a b : D} {x : Xn}
def isc1 (sub : Str → Str → Bool) (t : Str) (d : D) (env : Vs.Env) : R D := R.opt (oIsC sub t d) env
theorem go_isC {sub : Str → Str → Bool} {t : Str} {f : M D} : Go KD (eIsC sub t f env) = Go (kBind (isc1 sub t) KD) (f env) := go_bind
theorem go_isc1 {sub : Str → Str → Bool} {t : Str} : Go KD (isc1 sub t d env) = Go KD (R.opt (oIsC sub t d) env) := rfl
def fld1 (ls : List Str) (fld : Str) (d : D) (env : Vs.Env) : R D := R.opt (oFld ls fld d) env
theorem go_fld {ls : List Str} {fld : Str} {f : M D} : Go KD (eFld ls fld f env) = Go (kBind (fld1 ls fld) KD) (f env) := go_bind
theorem go_fld1 {ls : List Str} {fld : Str} : Go KD (fld1 ls fld d env) = Go KD (R.opt (oFld ls fld d) env) := rfl
def ex01 (c : Str) (ds : List D) (env : Vs.Env) : R D := if ds.length ≤ 900 then .ok (.exn c []) env else .no
theorem go_eX0 {c : Str} {l : M (List D)} : Go KD (eX0 c l env) = Go (kBind (ex01 c) KD) (l env) := go_bind
theorem go_ex01 {c : Str} {ds : List D} (h : ds.length ≤ 900) : Go KD (ex01 c ds env) = KD (.ok (.exn c []) env) := by unfold ex01; rw [if_pos h]; rfl
def ex1x (c : Str) (ns : List Str) (ds : List D) (env : Vs.Env) : R D := if ds.length = ns.length then .ok (.exn c (ns.zip ds).reverse) env else .no
theorem go_eX {c : Str} {ns : List Str} {l : M (List D)} : Go KD (eX c ns l env) = Go (kBind (ex1x c ns) KD) (l env) := go_bind
theorem go_ex1x {c : Str} {ns : List Str} {ds : List D} (h : ds.length = ns.length) : Go KD (ex1x c ns ds env) = KD (.ok (.exn c (ns.zip ds).reverse) env) := by unfold ex1x; rw [if_pos h]; rfl
def rai1 (c : Str) (ns : List Str) (ds : List D) (env : Vs.Env) : RS := if ds.length = ns.length then .exc ⟨c, (ns.zip ds).reverse⟩ env else .no
theorem go_sRaise {c : Str} {ns : List Str} {l : M (List D)} : Go KS (sRaise c ns l env) = Go (kToS (rai1 c ns) KS) (l env) := go_toS
theorem go_rai1 {c : Str} {ns : List Str} {ds : List D} (h : ds.length = ns.length) : Go KS (rai1 c ns ds env) = KS (.exc ⟨c, (ns.zip ds).reverse⟩ env) := by unfold rai1; rw [if_pos h]; rfl
/- try -/
def kHan (i : Nat) (KS : RS → Prop) : RS → Prop
  | .next e => KS (.next (e.set i none))
  | .brk e => KS (.brk (e.set i none))
  | .cont e => KS (.cont (e.set i none))
  | .ret d e => KS (.ret d e)
  | .retF ds e => KS (.retF ds e)
  | .exc _ _ => KS .no
  | .no => KS .no
def kTry (sub : Str → Str → Bool) (t : Str) (i : Nat) (h : MS) (KS : RS → Prop) : RS → Prop
  | .exc x env1 => if sub x.c t = true then Go (kHan i KS) (h (noTh (env1.set i (some (.fz (.exn x.c x.fs)))))) else KS (.exc x env1)
  | r => KS r
theorem go_sTry {sub : Str → Str → Bool} {t : Str} {g h : MS} {i : Nat} : Go KS (sTry sub t g i h env) = Go (kTry sub t i h KS) (g env) := by
  unfold sTry Go kTry
  cases g env with
  | exc y e1 =>
    dsimp only
    split
    · unfold Go kHan
      cases h (noTh (e1.set i (some (.fz (.exn y.c y.fs))))) <;> rfl
    · rfl
  | _ => rfl
theorem kTry_next {sub : Str → Str → Bool} {t : Str} {h : MS} {i : Nat} : kTry sub t i h KS (.next e) = KS (.next e) := rfl
theorem kTry_ret {sub : Str → Str → Bool} {t : Str} {h : MS} {i : Nat} : kTry sub t i h KS (.ret d e) = KS (.ret d e) := rfl
theorem kHan_next {i : Nat} : kHan i KS (.next e) = KS (.next (e.set i none)) := rfl
theorem kHan_ret {i : Nat} : kHan i KS (.ret d e) = KS (.ret d e) := rfl
end
theorem oIs_exn {c : Str} {fs : List (Str × D)} : oIs (.exn c fs) .non = some (.bl false) := rfl
end Vs

set_option Elab.async false
set_option linter.all false
set_option maxRecDepth 100000
set_option maxHeartbeats 4000000
/-! VsQ: the drawing from the script, that every law carries. -/
namespace Vs
open PySem PySem.Spec PyProof.Rows L2 Evl
/-- the state of the drawing: the cells, how many were read, what is left of a great one; n bounds the count -/
def Wl (n : Nat) (W : List D) : Prop := ∃ (cells : List Int) (t r : Int), W = [.lst (cells.map D.int), .int t, .int r] ∧ 0 ≤ t ∧ t ≤ n
theorem Wl.mono {n m : Nat} {W : List D} (h : Wl n W) (hm : n ≤ m) : Wl m W := by
  obtain ⟨c, t, r, e, h1, h2⟩ := h
  exact ⟨c, t, r, e, h1, by omega⟩
theorem mulOk_l {i j : Int} (h1 : -(2 ^ 64) < i) (h2 : i < 2 ^ 64) : mulOk i j = true := by
  unfold mulOk
  rw [decide_eq_true (Or.inl ⟨h1, h2⟩)]; rfl
theorem mulOk_r {i j : Int} (h1 : -(2 ^ 64) < j) (h2 : j < 2 ^ 64) : mulOk i j = true := by
  unfold mulOk
  rw [decide_eq_true (Or.inr ⟨h1, h2⟩)]; rfl
theorem oMul_l {i j : Int} (h1 : -(2 ^ 64) < i) (h2 : i < 2 ^ 64) : oMul (.int i) (.int j) = some (.int (i * j)) := by
  show (if mulOk i j = true then _ else _) = _
  rw [if_pos (mulOk_l h1 h2)]
theorem oMul_r {i j : Int} (h1 : -(2 ^ 64) < j) (h2 : j < 2 ^ 64) : oMul (.int i) (.int j) = some (.int (i * j)) := by
  show (if mulOk i j = true then _ else _) = _
  rw [if_pos (mulOk_r h1 h2)]
theorem oPow_ok {i j : Int} (h : 0 ≤ j ∧ j ≤ 1000000 ∧ i.natAbs < 2 ^ 64) : oPow (.int i) (.int j) = some (.int (i ^ j.toNat)) := by
  show (if 0 ≤ j ∧ j ≤ 1000000 ∧ i.natAbs < 2 ^ 64 then _ else _) = _
  rw [if_pos h]
theorem oPow_lit {i j : Int} (h1 : 0 ≤ j) (h2 : j ≤ 1000000) (h3 : -18446744073709551616 < i) (h4 : i < 18446744073709551616) : oPow (.int i) (.int j) = some (.int (i ^ j.toNat)) := oPow_ok ⟨h1, h2, by omega⟩
theorem oMul_lit {i j : Int} (h3 : -18446744073709551616 < i) (h4 : i < 18446744073709551616) : oMul (.int i) (.int j) = some (.int (i * j)) := oMul_l (by omega) (by omega)
theorem oFdiv_ok {i j : Int} (h : 0 < j ∧ j < 1073741824) : oFdiv (.int i) (.int j) = some (.int (i / j)) := by
  show (if 0 < j ∧ j < 1073741824 then _ else _) = _
  rw [if_pos h]
theorem oMod_ok {i j : Int} (h : 0 < j) : oMod (.int i) (.int j) = some (.int (i % j)) := by
  show (if 0 < j then _ else _) = _
  rw [if_pos h]
theorem pyOfs_ints : ∀ ns : List Int, pyOfs (ns.map D.int) = some (ns.map PyData.int)
  | [] => rfl
  | n :: ns => by
    show (some (PyData.int n)).bind _ = _
    simp only [pyOfs_ints ns]; rfl
theorem oNe_ints_nil (ns : List Int) : oNe (.lst (ns.map D.int)) (.lst []) = some (.bl (!ns.isEmpty)) := by
  cases ns with
  | nil => rfl
  | cons n ns => rfl
theorem ixN_mod {n : Nat} {a : Int} (hn : 0 < n) : ixN n (a % (n : Int)) = some (a % (n : Int)).toNat ∧ (a % (n : Int)).toNat < n := by
  have h1 := Int.emod_nonneg a (b := (n : Int)) (by omega)
  have h2 := Int.emod_lt_of_pos a (b := (n : Int)) (by omega)
  unfold ixN
  rw [if_pos h1, if_pos (by omega)]
  exact ⟨rfl, by omega⟩
theorem atI_ints {ns : List Int} {a : Int} (h : ns ≠ []) : ∃ c, atI (ns.map D.int) (a % (((ns.map D.int).length : Nat) : Int)) = some (.int c) := by
  have hl : 0 < (ns.map D.int).length := by
    rw [List.length_map]; exact List.length_pos_iff.mpr h
  obtain ⟨h1, h2⟩ := ixN_mod (a := a) hl
  unfold atI
  rw [h1]
  rw [List.length_map] at h2 ⊢
  simp only [Option.bind_some, List.getElem?_map]
  rw [List.getElem?_eq_getElem h2]
  exact ⟨_, rfl⟩
def mixA (c1 c2 m1 c3 m2 m3 : Int) : MS :=
  (sSeq (sSet 4 (eBin oMod (eCal oIntC (eCons (eBin oPow (eBin oAdd (eBin oAdd (eBin oMod (eCal oIntC (eCons (eV 3) eNil)) (eC (.int m1))) (eBin oMul (eC (.int c3)) (eV 2))) (eC (.int c2))) (eC (.int 5))) eNil)) (eC (.int m2))))
  (sSeq (sSet 4 (eBin oMod (eCal oIntC (eCons (eBin oPow (eBin oAdd (eBin oAdd (eBin oMul (eV 4) (eBin oAdd (eBin oMul (eC (.int 2)) (eV 2)) (eC (.int c2)))) (eBin oMul (eBin oMul (eC (.int c1)) (eV 2)) (eV 2))) (eC (.int c3))) (eC (.int 3))) eNil)) (eC (.int m3))))
  (sRet (eBin oMod (eCal oIntC (eCons (eBin oFdiv (eV 4) (eC (.int 64))) eNil)) (eV 1)))))
/-- the drawing as the first laws write it -/
def drawA (c1 c2 m1 c3 m2 m3 : Int) : MS :=
  (sSeq (sIf (eBl (eBin oGt (eBinL 0 oIx (eC (.int 2))) (eC (.int 0)))) (sSeq (sSet 5 (eCal oIntC (eCons (eBinL 0 oIx (eC (.int 2))) eNil)))
  (sSeq (sPut 0 (eC (.int 2)) (eBin oFdiv (eV 5) (eV 1)))
  (sRet (eBin oMod (eCal oIntC (eCons (eV 5) eNil)) (eV 1))))) (fun env => .next env))
  (sSeq (sSet 2 (eBinL 0 oIx (eC (.int 1))))
  (sSeq (sPut 0 (eC (.int 1)) (eBin oAdd (eV 2) (eC (.int 1))))
  (sSeq (sSet 3 (eBin oAdd (eBin oMul (eC (.int c1)) (eV 2)) (eC (.int c2))))
  (sSeq (sIf (eBl (eBin oNe (eBinL 0 oIx (eC (.int 0))) (eLst eNil))) (sSet 3 (eBin oIx (eBinL 0 oIx (eC (.int 0))) (eBin oMod (eCal oIntC (eCons (eV 2) eNil)) (eCal oLen (eCons (eBinL 0 oIx (eC (.int 0))) eNil))))) (fun env => .next env))
  (sSeq (sIf (eAnd (eBl (eBin oLt (eV 2) (eCal oLen (eCons (eBinL 0 oIx (eC (.int 0))) eNil)))) (eBl (eBin oGe (eCal oAbs (eCons (eV 3) eNil)) (eBin oPow (eC (.int 10)) (eC (.int 18)))))) (sSeq (sSet 5 (eBin oAdd (eBin oMul (eC (.int 2)) (eBin oSub (eCal oAbs (eCons (eV 3) eNil)) (eBin oPow (eC (.int 10)) (eC (.int 18))))) (eCal oIntC (eCons (eBin oLt (eV 3) (eC (.int 0))) eNil))))
  (sSeq (sPut 0 (eC (.int 2)) (eBin oFdiv (eCal oIntC (eCons (eV 5) eNil)) (eV 1)))
  (sRet (eBin oMod (eCal oIntC (eCons (eV 5) eNil)) (eV 1))))) (fun env => .next env))
  (mixA c1 c2 m1 c3 m2 m3)))))))
/-- the numbers of a drawing are small -/
def smallC (c : Int) : Prop := 0 ≤ c ∧ c < 2 ^ 17
def smallM (c : Int) : Prop := 0 < c ∧ c < 2 ^ 31
theorem lt64 {i : Int} (h1 : 0 ≤ i) (h2 : i < 2 ^ 64) : i.natAbs < 2 ^ 64 := by omega
theorem mul_lt {a b A B : Int} (h1 : 0 ≤ a) (h2 : a ≤ A) (h3 : 0 ≤ b) (h4 : b ≤ B) : 0 ≤ a * b ∧ a * b ≤ A * B :=
  ⟨Int.mul_nonneg h1 h3, Int.mul_le_mul h2 h4 h3 (by omega)⟩
theorem mix_go {KS : RS → Prop} {c1 c2 m1 c3 m2 m3 : Int} (q1 : smallC c1) (q2 : smallC c2) (q3 : smallC c3) (p1 : smallM m1) (p2 : smallM m2) (p3 : smallM m3)
    {t0 t5 : Option T} {m at' cell : Int} (h0 : 0 ≤ at') (h1 : at' < 2 ^ 22) (hm : 0 < m)
    (hK : ∀ x e4, 0 ≤ x → x < m → KS (.ret (.int x) [t0, some (.fz (.int m)), some (.fz (.int at')), some (.fz (.int cell)), some (.fz (.int e4)), t5])) :
    Go KS (mixA c1 c2 m1 c3 m2 m3 [t0, some (.fz (.int m)), some (.fz (.int at')), some (.fz (.int cell)), none, t5]) := by
  obtain ⟨q11, q12⟩ := q1
  obtain ⟨q21, q22⟩ := q2
  obtain ⟨q31, q32⟩ := q3
  have e1 : oMod (.int cell) (.int m1) = some (.int (cell % m1)) := oMod_ok p1.1
  have e2 : oMul (.int c3) (.int at') = some (.int (c3 * at')) := oMul_l (by omega) (by omega)
  have b1 := Int.emod_nonneg cell (b := m1) (by have := p1.1; omega)
  have b2 := Int.emod_lt_of_pos cell p1.1
  have b3 := mul_lt q31 (Int.le_of_lt q32) h0 (Int.le_of_lt h1)
  have e3 : oPow (.int (cell % m1 + c3 * at' + c2)) (.int 5) = some (.int ((cell % m1 + c3 * at' + c2) ^ 5)) := oPow_ok ⟨by omega, by omega, lt64 (by omega) (by have := p1.2; omega)⟩
  generalize (cell % m1 + c3 * at' + c2) ^ 5 = z5 at e3
  have e4 : oMod (.int z5) (.int m2) = some (.int (z5 % m2)) := oMod_ok p2.1
  have b4 := Int.emod_nonneg z5 (b := m2) (by have := p2.1; omega)
  have b5 := Int.emod_lt_of_pos z5 p2.1
  have e5 : oMul (.int 2) (.int at') = some (.int (2 * at')) := oMul_l (by omega) (by omega)
  have e6 : oMul (.int (z5 % m2)) (.int (2 * at' + c2)) = some (.int (z5 % m2 * (2 * at' + c2))) := oMul_l (by omega) (by have := p2.2; omega)
  have e7 : oMul (.int c1) (.int at') = some (.int (c1 * at')) := oMul_l (by omega) (by omega)
  have b6 := mul_lt q11 (Int.le_of_lt q12) h0 (Int.le_of_lt h1)
  have e8 : oMul (.int (c1 * at')) (.int at') = some (.int (c1 * at' * at')) := oMul_r (by omega) (by omega)
  have b7 := mul_lt b6.1 b6.2 h0 (Int.le_of_lt h1)
  have b8 := mul_lt (a := z5 % m2) (A := 2 ^ 31) (b := 2 * at' + c2) (B := 2 ^ 23 + 2 ^ 17) b4 (by have := p2.2; omega) (by omega) (by omega)
  have e9 : oPow (.int (z5 % m2 * (2 * at' + c2) + c1 * at' * at' + c3)) (.int 3) = some (.int ((z5 % m2 * (2 * at' + c2) + c1 * at' * at' + c3) ^ 3)) := oPow_ok ⟨by omega, by omega, lt64 (by omega) (by omega)⟩
  generalize (z5 % m2 * (2 * at' + c2) + c1 * at' * at' + c3) ^ 3 = z3 at e9
  have e10 : oMod (.int z3) (.int m3) = some (.int (z3 % m3)) := oMod_ok p3.1
  have e11 : oMod (.int (z3 % m3 / 64)) (.int m) = some (.int (z3 % m3 / 64 % m)) := oMod_ok hm
  have e12 : oFdiv (.int (z3 % m3)) (.int 64) = some (.int (z3 % m3 / 64)) := oFdiv_ok (by omega)
  unfold mixA
  have k1 := hK (z3 % m3 / 64 % m) (z3 % m3) (Int.emod_nonneg _ (by omega)) (Int.emod_lt_of_pos _ hm)
  simp only [k_ok, k_exc, kS_ok, kS_exc, kq_next, kq_ret, kq_brk, kq_cont, kq_exc, kq_retF, go_ok, go_exc, go_next, go_ret, go_brk, go_cont, go_excS, go_retF, go_some, go_v, getV_fz, go_c, go_bin, go_bin1, go_bin2, go_un, go_un1, go_tru, go_tru1, go_bl, go_bl1, go_and, go_andT, go_andF, go_or, go_orT, go_orF, go_not, go_not1, go_andV, go_orV, go_andV1, go_orV1, go_andVT, go_andVF, go_orVT, go_orVF, go_notV, go_notV1, go_notV2, go_if, go_ifT, go_ifF, go_nil, go_cons, go_cons1, go_cons2, go_chk, go_lst, go_tup, go_lst1, go_tup1, go_cal, go_cal1, go_isi, go_isi1, go_seq, go_sRet, go_ret1, go_sExpr, go_ex1, go_sIf, go_sifT, go_sifF, go_optS, go_sAsg, go_asg1, go_sSet, go_set1, go_sPar, go_par1, go_sAug, go_augV, kN_eq, kNil_eq, kCons_eq, kT_eq, rdE_eq, rdO_fz, rdO_ol, ownE_eq, owO_ol, go_binL, go_binL1, go_binL2, oSw_eq, go_binR, go_binR1, go_sPut, go_put1, go_putO, go_put2, go_putP, go_putN, go_retF1, go_fLst, go_fl1, go_sOwn, go_own1, go_call, go_call1, kFR_ok, kFR_exc, go_callIo, go_io0, go_io1, go_io2, kIo_ok, kIo_exc, go_callN, go_calln1, go_calln2, go_okF, go_excF, kRun_next, kRun_ret, kRun_exc, finF_none, finF_some, finS_ol, go_finO, go_finX, go_items, go_items_lst, go_items_tup, go_rng1, go_rng1_ok, go_rng2, go_rng2_ok, go_zip, go_zip_l, go_zip_t, go_enum, go_enum_l, go_sFor, go_for1, kLoop_next, kLoop_cont, kLoop_brk, kLoop_ret, kLoop_exc, turn_next, turn_cont, go_lc, go_lc1, kLc_ok, elem_ok, go_yes, go_sl, go_sl1, go_sl2, go_sl3, go_noP, go_p, go_p1, go_rev, go_rev1, go_chain, go_ch1, go_ch2, go_ch3T, go_ch3F, go_ch4, go_dic, go_dic1, go_prs_nil, go_prs, go_prs1, go_prs2, go_prs3, go_prs4, kW_ok, go_fcall, go_fcall1, kRunW_ok, go_okW, go_cf, go_cf1, oAdd_int, oAdd_bl, atI_0, atI_1, atI_2, atI_3, ixN_0, ixN_1, ixN_2, sz_lit, List.getElem?_cons_zero, List.getElem?_cons_succ, List.set_cons_zero, List.set_cons_succ, List.nil_append, List.cons_append, List.append_nil, List.length_cons, List.length_nil, Nat.reduceSub, Nat.reduceLeDiff, Nat.zero_add, Option.bind_some, Option.map_some, reduceCtorEq, Int.reduceLT, Int.reduceLE, Int.reduceNeg, Int.reducePow, Int.reduceToNat, and_true, true_and, and_self, ite_true, ite_false, if_true, if_false, Bool.not_true, Bool.not_false, Bool.true_and, Bool.false_and, Bool.and_true, Bool.and_false, Bool.true_or, Bool.false_or, oSub, oNeg, oLt, oLe, oGt, oGe, oIs, oIsNot, Vs.isNon, oTru, oBl, oIx, oLen, oAbs, oIntC, oMax2, oMin2, oTupC, oLstC, oSl, keyD, decide_true, decide_false, plainE, fzE, gIx, List.filterMap_cons, List.filterMap_nil, wipeE, restE, List.all_cons, List.all_nil, List.getD_eq_getElem?_getD, Option.getD_some, e1, e2, e3, e4, e5, e6, e7, e8, e9, e10, e11, e12]
  exact k1
theorem draw_go {K : FR → Prop} {c1 c2 m1 c3 m2 m3 : Int} {n : Nat} {W : List D} {m : Int} (q1 : smallC c1) (q2 : smallC c2) (q3 : smallC c3) (p1 : smallM m1) (p2 : smallM m2) (p3 : smallM m3)
    (h : Wl n W) (hn : n < 2 ^ 22) (hm : 0 < m) (hm2 : m < 1073741824) (hK : ∀ W' x, Wl (n + 1) W' → 0 ≤ x → x < m → K (.ok (.int x) (some W'))) : Go K (runF 6 (drawA c1 c2 m1 c3 m2 m3) (some W) [.int m]) := by
  obtain ⟨cells, t, r, rfl, h0, h1⟩ := h
  rw [go_runF]
  show Go _ (drawA c1 c2 m1 c3 m2 m3 [some (.ol (some 0) [.lst (cells.map D.int), .int t, .int r]), some (.fz (.int m)), none, none, none, none])
  have fd : ∀ z : Int, oFdiv (.int z) (.int m) = some (.int (z / m)) := fun z => oFdiv_ok ⟨hm, hm2⟩
  have fm : ∀ z : Int, oMod (.int z) (.int m) = some (.int (z % m)) := fun z => oMod_ok hm
  have i2 : atI [D.lst (cells.map D.int), .int t, .int r] 2 = some (.int r) := rfl
  have i1 : atI [D.lst (cells.map D.int), .int t, .int r] 1 = some (.int t) := rfl
  have i0 : ∀ z, atI [D.lst (cells.map D.int), .int z, .int r] 0 = some (.lst (cells.map D.int)) := fun z => rfl
  have x2 : ixN 3 2 = some 2 := rfl
  have x1 : ixN 3 1 = some 1 := rfl
  unfold drawA
  simp only [k_ok, k_exc, kS_ok, kS_exc, kq_next, kq_ret, kq_brk, kq_cont, kq_exc, kq_retF, go_ok, go_exc, go_next, go_ret, go_brk, go_cont, go_excS, go_retF, go_some, go_v, getV_fz, go_c, go_bin, go_bin1, go_bin2, go_un, go_un1, go_tru, go_tru1, go_bl, go_bl1, go_and, go_andT, go_andF, go_or, go_orT, go_orF, go_not, go_not1, go_andV, go_orV, go_andV1, go_orV1, go_andVT, go_andVF, go_orVT, go_orVF, go_notV, go_notV1, go_notV2, go_if, go_ifT, go_ifF, go_nil, go_cons, go_cons1, go_cons2, go_chk, go_lst, go_tup, go_lst1, go_tup1, go_cal, go_cal1, go_isi, go_isi1, go_seq, go_sRet, go_ret1, go_sExpr, go_ex1, go_sIf, go_sifT, go_sifF, go_optS, go_sAsg, go_asg1, go_sSet, go_set1, go_sPar, go_par1, go_sAug, go_augV, kN_eq, kNil_eq, kCons_eq, kT_eq, rdE_eq, rdO_fz, rdO_ol, ownE_eq, owO_ol, go_binL, go_binL1, go_binL2, oSw_eq, go_binR, go_binR1, go_sPut, go_put1, go_putO, go_put2, go_putP, go_putN, go_retF1, go_fLst, go_fl1, go_sOwn, go_own1, go_call, go_call1, kFR_ok, kFR_exc, go_callIo, go_io0, go_io1, go_io2, kIo_ok, kIo_exc, go_callN, go_calln1, go_calln2, go_okF, go_excF, kRun_next, kRun_ret, kRun_exc, finF_none, finF_some, finS_ol, go_finO, go_finX, go_items, go_items_lst, go_items_tup, go_rng1, go_rng1_ok, go_rng2, go_rng2_ok, go_zip, go_zip_l, go_zip_t, go_enum, go_enum_l, go_sFor, go_for1, kLoop_next, kLoop_cont, kLoop_brk, kLoop_ret, kLoop_exc, turn_next, turn_cont, go_lc, go_lc1, kLc_ok, elem_ok, go_yes, go_sl, go_sl1, go_sl2, go_sl3, go_noP, go_p, go_p1, go_rev, go_rev1, go_chain, go_ch1, go_ch2, go_ch3T, go_ch3F, go_ch4, go_dic, go_dic1, go_prs_nil, go_prs, go_prs1, go_prs2, go_prs3, go_prs4, kW_ok, go_fcall, go_fcall1, kRunW_ok, go_okW, go_cf, go_cf1, oAdd_int, oAdd_bl, atI_0, atI_1, atI_2, atI_3, ixN_0, ixN_1, ixN_2, sz_lit, List.getElem?_cons_zero, List.getElem?_cons_succ, List.set_cons_zero, List.set_cons_succ, List.nil_append, List.cons_append, List.append_nil, List.length_cons, List.length_nil, Nat.reduceSub, Nat.reduceLeDiff, Nat.zero_add, Option.bind_some, Option.map_some, reduceCtorEq, Int.reduceLT, Int.reduceLE, Int.reduceNeg, Int.reducePow, Int.reduceToNat, and_true, true_and, and_self, ite_true, ite_false, if_true, if_false, Bool.not_true, Bool.not_false, Bool.true_and, Bool.false_and, Bool.and_true, Bool.and_false, Bool.true_or, Bool.false_or, oSub, oNeg, oLt, oLe, oGt, oGe, oIs, oIsNot, Vs.isNon, oTru, oBl, oIx, oLen, oAbs, oIntC, oMax2, oMin2, oTupC, oLstC, oSl, keyD, decide_true, decide_false, plainE, fzE, gIx, List.filterMap_cons, List.filterMap_nil, wipeE, restE, List.all_cons, List.all_nil, List.getD_eq_getElem?_getD, Option.getD_some, i2]
  by_cases hr : 0 < r
  · simp only [decide_eq_true hr, k_ok, k_exc, kS_ok, kS_exc, kq_next, kq_ret, kq_brk, kq_cont, kq_exc, kq_retF, go_ok, go_exc, go_next, go_ret, go_brk, go_cont, go_excS, go_retF, go_some, go_v, getV_fz, go_c, go_bin, go_bin1, go_bin2, go_un, go_un1, go_tru, go_tru1, go_bl, go_bl1, go_and, go_andT, go_andF, go_or, go_orT, go_orF, go_not, go_not1, go_andV, go_orV, go_andV1, go_orV1, go_andVT, go_andVF, go_orVT, go_orVF, go_notV, go_notV1, go_notV2, go_if, go_ifT, go_ifF, go_nil, go_cons, go_cons1, go_cons2, go_chk, go_lst, go_tup, go_lst1, go_tup1, go_cal, go_cal1, go_isi, go_isi1, go_seq, go_sRet, go_ret1, go_sExpr, go_ex1, go_sIf, go_sifT, go_sifF, go_optS, go_sAsg, go_asg1, go_sSet, go_set1, go_sPar, go_par1, go_sAug, go_augV, kN_eq, kNil_eq, kCons_eq, kT_eq, rdE_eq, rdO_fz, rdO_ol, ownE_eq, owO_ol, go_binL, go_binL1, go_binL2, oSw_eq, go_binR, go_binR1, go_sPut, go_put1, go_putO, go_put2, go_putP, go_putN, go_retF1, go_fLst, go_fl1, go_sOwn, go_own1, go_call, go_call1, kFR_ok, kFR_exc, go_callIo, go_io0, go_io1, go_io2, kIo_ok, kIo_exc, go_callN, go_calln1, go_calln2, go_okF, go_excF, kRun_next, kRun_ret, kRun_exc, finF_none, finF_some, finS_ol, go_finO, go_finX, go_items, go_items_lst, go_items_tup, go_rng1, go_rng1_ok, go_rng2, go_rng2_ok, go_zip, go_zip_l, go_zip_t, go_enum, go_enum_l, go_sFor, go_for1, kLoop_next, kLoop_cont, kLoop_brk, kLoop_ret, kLoop_exc, turn_next, turn_cont, go_lc, go_lc1, kLc_ok, elem_ok, go_yes, go_sl, go_sl1, go_sl2, go_sl3, go_noP, go_p, go_p1, go_rev, go_rev1, go_chain, go_ch1, go_ch2, go_ch3T, go_ch3F, go_ch4, go_dic, go_dic1, go_prs_nil, go_prs, go_prs1, go_prs2, go_prs3, go_prs4, kW_ok, go_fcall, go_fcall1, kRunW_ok, go_okW, go_cf, go_cf1, oAdd_int, oAdd_bl, atI_0, atI_1, atI_2, atI_3, ixN_0, ixN_1, ixN_2, sz_lit, List.getElem?_cons_zero, List.getElem?_cons_succ, List.set_cons_zero, List.set_cons_succ, List.nil_append, List.cons_append, List.append_nil, List.length_cons, List.length_nil, Nat.reduceSub, Nat.reduceLeDiff, Nat.zero_add, Option.bind_some, Option.map_some, reduceCtorEq, Int.reduceLT, Int.reduceLE, Int.reduceNeg, Int.reducePow, Int.reduceToNat, and_true, true_and, and_self, ite_true, ite_false, if_true, if_false, Bool.not_true, Bool.not_false, Bool.true_and, Bool.false_and, Bool.and_true, Bool.and_false, Bool.true_or, Bool.false_or, oSub, oNeg, oLt, oLe, oGt, oGe, oIs, oIsNot, Vs.isNon, oTru, oBl, oIx, oLen, oAbs, oIntC, oMax2, oMin2, oTupC, oLstC, oSl, keyD, decide_true, decide_false, plainE, fzE, gIx, List.filterMap_cons, List.filterMap_nil, wipeE, restE, List.all_cons, List.all_nil, List.getD_eq_getElem?_getD, Option.getD_some, i2, fd, fm]
    exact hK _ _ ⟨cells, t, r / m, rfl, h0, by omega⟩ (Int.emod_nonneg _ (by omega)) (Int.emod_lt_of_pos _ hm)
  · have m1' : oMul (.int c1) (.int t) = some (.int (c1 * t)) := oMul_l (by have := q1.1; omega) (by have := q1.2; omega)
    simp only [decide_eq_false hr, k_ok, k_exc, kS_ok, kS_exc, kq_next, kq_ret, kq_brk, kq_cont, kq_exc, kq_retF, go_ok, go_exc, go_next, go_ret, go_brk, go_cont, go_excS, go_retF, go_some, go_v, getV_fz, go_c, go_bin, go_bin1, go_bin2, go_un, go_un1, go_tru, go_tru1, go_bl, go_bl1, go_and, go_andT, go_andF, go_or, go_orT, go_orF, go_not, go_not1, go_andV, go_orV, go_andV1, go_orV1, go_andVT, go_andVF, go_orVT, go_orVF, go_notV, go_notV1, go_notV2, go_if, go_ifT, go_ifF, go_nil, go_cons, go_cons1, go_cons2, go_chk, go_lst, go_tup, go_lst1, go_tup1, go_cal, go_cal1, go_isi, go_isi1, go_seq, go_sRet, go_ret1, go_sExpr, go_ex1, go_sIf, go_sifT, go_sifF, go_optS, go_sAsg, go_asg1, go_sSet, go_set1, go_sPar, go_par1, go_sAug, go_augV, kN_eq, kNil_eq, kCons_eq, kT_eq, rdE_eq, rdO_fz, rdO_ol, ownE_eq, owO_ol, go_binL, go_binL1, go_binL2, oSw_eq, go_binR, go_binR1, go_sPut, go_put1, go_putO, go_put2, go_putP, go_putN, go_retF1, go_fLst, go_fl1, go_sOwn, go_own1, go_call, go_call1, kFR_ok, kFR_exc, go_callIo, go_io0, go_io1, go_io2, kIo_ok, kIo_exc, go_callN, go_calln1, go_calln2, go_okF, go_excF, kRun_next, kRun_ret, kRun_exc, finF_none, finF_some, finS_ol, go_finO, go_finX, go_items, go_items_lst, go_items_tup, go_rng1, go_rng1_ok, go_rng2, go_rng2_ok, go_zip, go_zip_l, go_zip_t, go_enum, go_enum_l, go_sFor, go_for1, kLoop_next, kLoop_cont, kLoop_brk, kLoop_ret, kLoop_exc, turn_next, turn_cont, go_lc, go_lc1, kLc_ok, elem_ok, go_yes, go_sl, go_sl1, go_sl2, go_sl3, go_noP, go_p, go_p1, go_rev, go_rev1, go_chain, go_ch1, go_ch2, go_ch3T, go_ch3F, go_ch4, go_dic, go_dic1, go_prs_nil, go_prs, go_prs1, go_prs2, go_prs3, go_prs4, kW_ok, go_fcall, go_fcall1, kRunW_ok, go_okW, go_cf, go_cf1, oAdd_int, oAdd_bl, atI_0, atI_1, atI_2, atI_3, ixN_0, ixN_1, ixN_2, sz_lit, List.getElem?_cons_zero, List.getElem?_cons_succ, List.set_cons_zero, List.set_cons_succ, List.nil_append, List.cons_append, List.append_nil, List.length_cons, List.length_nil, Nat.reduceSub, Nat.reduceLeDiff, Nat.zero_add, Option.bind_some, Option.map_some, reduceCtorEq, Int.reduceLT, Int.reduceLE, Int.reduceNeg, Int.reducePow, Int.reduceToNat, and_true, true_and, and_self, ite_true, ite_false, if_true, if_false, Bool.not_true, Bool.not_false, Bool.true_and, Bool.false_and, Bool.and_true, Bool.and_false, Bool.true_or, Bool.false_or, oSub, oNeg, oLt, oLe, oGt, oGe, oIs, oIsNot, Vs.isNon, oTru, oBl, oIx, oLen, oAbs, oIntC, oMax2, oMin2, oTupC, oLstC, oSl, keyD, decide_true, decide_false, plainE, fzE, gIx, List.filterMap_cons, List.filterMap_nil, wipeE, restE, List.all_cons, List.all_nil, List.getD_eq_getElem?_getD, Option.getD_some, i1, i0, m1', oNe_ints_nil]
    by_cases hc : cells = []
    · subst hc
      have hlt : ¬ t < 0 := by omega
      simp only [List.map_nil, List.isEmpty_nil, k_ok, k_exc, kS_ok, kS_exc, kq_next, kq_ret, kq_brk, kq_cont, kq_exc, kq_retF, go_ok, go_exc, go_next, go_ret, go_brk, go_cont, go_excS, go_retF, go_some, go_v, getV_fz, go_c, go_bin, go_bin1, go_bin2, go_un, go_un1, go_tru, go_tru1, go_bl, go_bl1, go_and, go_andT, go_andF, go_or, go_orT, go_orF, go_not, go_not1, go_andV, go_orV, go_andV1, go_orV1, go_andVT, go_andVF, go_orVT, go_orVF, go_notV, go_notV1, go_notV2, go_if, go_ifT, go_ifF, go_nil, go_cons, go_cons1, go_cons2, go_chk, go_lst, go_tup, go_lst1, go_tup1, go_cal, go_cal1, go_isi, go_isi1, go_seq, go_sRet, go_ret1, go_sExpr, go_ex1, go_sIf, go_sifT, go_sifF, go_optS, go_sAsg, go_asg1, go_sSet, go_set1, go_sPar, go_par1, go_sAug, go_augV, kN_eq, kNil_eq, kCons_eq, kT_eq, rdE_eq, rdO_fz, rdO_ol, ownE_eq, owO_ol, go_binL, go_binL1, go_binL2, oSw_eq, go_binR, go_binR1, go_sPut, go_put1, go_putO, go_put2, go_putP, go_putN, go_retF1, go_fLst, go_fl1, go_sOwn, go_own1, go_call, go_call1, kFR_ok, kFR_exc, go_callIo, go_io0, go_io1, go_io2, kIo_ok, kIo_exc, go_callN, go_calln1, go_calln2, go_okF, go_excF, kRun_next, kRun_ret, kRun_exc, finF_none, finF_some, finS_ol, go_finO, go_finX, go_items, go_items_lst, go_items_tup, go_rng1, go_rng1_ok, go_rng2, go_rng2_ok, go_zip, go_zip_l, go_zip_t, go_enum, go_enum_l, go_sFor, go_for1, kLoop_next, kLoop_cont, kLoop_brk, kLoop_ret, kLoop_exc, turn_next, turn_cont, go_lc, go_lc1, kLc_ok, elem_ok, go_yes, go_sl, go_sl1, go_sl2, go_sl3, go_noP, go_p, go_p1, go_rev, go_rev1, go_chain, go_ch1, go_ch2, go_ch3T, go_ch3F, go_ch4, go_dic, go_dic1, go_prs_nil, go_prs, go_prs1, go_prs2, go_prs3, go_prs4, kW_ok, go_fcall, go_fcall1, kRunW_ok, go_okW, go_cf, go_cf1, oAdd_int, oAdd_bl, atI_0, atI_1, atI_2, atI_3, ixN_0, ixN_1, ixN_2, sz_lit, List.getElem?_cons_zero, List.getElem?_cons_succ, List.set_cons_zero, List.set_cons_succ, List.nil_append, List.cons_append, List.append_nil, List.length_cons, List.length_nil, Nat.reduceSub, Nat.reduceLeDiff, Nat.zero_add, Option.bind_some, Option.map_some, reduceCtorEq, Int.reduceLT, Int.reduceLE, Int.reduceNeg, Int.reducePow, Int.reduceToNat, and_true, true_and, and_self, ite_true, ite_false, if_true, if_false, Bool.not_true, Bool.not_false, Bool.true_and, Bool.false_and, Bool.and_true, Bool.and_false, Bool.true_or, Bool.false_or, oSub, oNeg, oLt, oLe, oGt, oGe, oIs, oIsNot, Vs.isNon, oTru, oBl, oIx, oLen, oAbs, oIntC, oMax2, oMin2, oTupC, oLstC, oSl, keyD, decide_true, decide_false, plainE, fzE, gIx, List.filterMap_cons, List.filterMap_nil, wipeE, restE, List.all_cons, List.all_nil, List.getD_eq_getElem?_getD, Option.getD_some, i0, Int.natCast_zero, decide_eq_false hlt]
      refine mix_go q1 q2 q3 p1 p2 p3 h0 (by omega) hm fun x e4 hx1 hx2 => ?_
      simp only [k_ok, k_exc, kS_ok, kS_exc, kq_next, kq_ret, kq_brk, kq_cont, kq_exc, kq_retF, go_ok, go_exc, go_next, go_ret, go_brk, go_cont, go_excS, go_retF, go_some, go_v, getV_fz, go_c, go_bin, go_bin1, go_bin2, go_un, go_un1, go_tru, go_tru1, go_bl, go_bl1, go_and, go_andT, go_andF, go_or, go_orT, go_orF, go_not, go_not1, go_andV, go_orV, go_andV1, go_orV1, go_andVT, go_andVF, go_orVT, go_orVF, go_notV, go_notV1, go_notV2, go_if, go_ifT, go_ifF, go_nil, go_cons, go_cons1, go_cons2, go_chk, go_lst, go_tup, go_lst1, go_tup1, go_cal, go_cal1, go_isi, go_isi1, go_seq, go_sRet, go_ret1, go_sExpr, go_ex1, go_sIf, go_sifT, go_sifF, go_optS, go_sAsg, go_asg1, go_sSet, go_set1, go_sPar, go_par1, go_sAug, go_augV, kN_eq, kNil_eq, kCons_eq, kT_eq, rdE_eq, rdO_fz, rdO_ol, ownE_eq, owO_ol, go_binL, go_binL1, go_binL2, oSw_eq, go_binR, go_binR1, go_sPut, go_put1, go_putO, go_put2, go_putP, go_putN, go_retF1, go_fLst, go_fl1, go_sOwn, go_own1, go_call, go_call1, kFR_ok, kFR_exc, go_callIo, go_io0, go_io1, go_io2, kIo_ok, kIo_exc, go_callN, go_calln1, go_calln2, go_okF, go_excF, kRun_next, kRun_ret, kRun_exc, finF_none, finF_some, finS_ol, go_finO, go_finX, go_items, go_items_lst, go_items_tup, go_rng1, go_rng1_ok, go_rng2, go_rng2_ok, go_zip, go_zip_l, go_zip_t, go_enum, go_enum_l, go_sFor, go_for1, kLoop_next, kLoop_cont, kLoop_brk, kLoop_ret, kLoop_exc, turn_next, turn_cont, go_lc, go_lc1, kLc_ok, elem_ok, go_yes, go_sl, go_sl1, go_sl2, go_sl3, go_noP, go_p, go_p1, go_rev, go_rev1, go_chain, go_ch1, go_ch2, go_ch3T, go_ch3F, go_ch4, go_dic, go_dic1, go_prs_nil, go_prs, go_prs1, go_prs2, go_prs3, go_prs4, kW_ok, go_fcall, go_fcall1, kRunW_ok, go_okW, go_cf, go_cf1, oAdd_int, oAdd_bl, atI_0, atI_1, atI_2, atI_3, ixN_0, ixN_1, ixN_2, sz_lit, List.getElem?_cons_zero, List.getElem?_cons_succ, List.set_cons_zero, List.set_cons_succ, List.nil_append, List.cons_append, List.append_nil, List.length_cons, List.length_nil, Nat.reduceSub, Nat.reduceLeDiff, Nat.zero_add, Option.bind_some, Option.map_some, reduceCtorEq, Int.reduceLT, Int.reduceLE, Int.reduceNeg, Int.reducePow, Int.reduceToNat, and_true, true_and, and_self, ite_true, ite_false, if_true, if_false, Bool.not_true, Bool.not_false, Bool.true_and, Bool.false_and, Bool.and_true, Bool.and_false, Bool.true_or, Bool.false_or, oSub, oNeg, oLt, oLe, oGt, oGe, oIs, oIsNot, Vs.isNon, oTru, oBl, oIx, oLen, oAbs, oIntC, oMax2, oMin2, oTupC, oLstC, oSl, keyD, decide_true, decide_false, plainE, fzE, gIx, List.filterMap_cons, List.filterMap_nil, wipeE, restE, List.all_cons, List.all_nil, List.getD_eq_getElem?_getD, Option.getD_some]
      exact hK _ _ ⟨[], t + 1, r, rfl, by omega, by omega⟩ hx1 hx2
    · obtain ⟨c, hc2⟩ := atI_ints (a := t) hc
      have hie : cells.isEmpty = false := by cases cells <;> simp_all
      have hlen : 0 < ((List.map D.int cells).length : Int) := by
        rw [List.length_map]; have := List.length_pos_iff.mpr hc; omega
      have fl : oMod (.int t) (.int ((List.map D.int cells).length : Int)) = some (.int (t % ((List.map D.int cells).length : Int))) := oMod_ok hlen
      have hpw : oPow (.int 10) (.int 18) = some (.int (10 ^ 18)) := rfl
      simp only [hie, k_ok, k_exc, kS_ok, kS_exc, kq_next, kq_ret, kq_brk, kq_cont, kq_exc, kq_retF, go_ok, go_exc, go_next, go_ret, go_brk, go_cont, go_excS, go_retF, go_some, go_v, getV_fz, go_c, go_bin, go_bin1, go_bin2, go_un, go_un1, go_tru, go_tru1, go_bl, go_bl1, go_and, go_andT, go_andF, go_or, go_orT, go_orF, go_not, go_not1, go_andV, go_orV, go_andV1, go_orV1, go_andVT, go_andVF, go_orVT, go_orVF, go_notV, go_notV1, go_notV2, go_if, go_ifT, go_ifF, go_nil, go_cons, go_cons1, go_cons2, go_chk, go_lst, go_tup, go_lst1, go_tup1, go_cal, go_cal1, go_isi, go_isi1, go_seq, go_sRet, go_ret1, go_sExpr, go_ex1, go_sIf, go_sifT, go_sifF, go_optS, go_sAsg, go_asg1, go_sSet, go_set1, go_sPar, go_par1, go_sAug, go_augV, kN_eq, kNil_eq, kCons_eq, kT_eq, rdE_eq, rdO_fz, rdO_ol, ownE_eq, owO_ol, go_binL, go_binL1, go_binL2, oSw_eq, go_binR, go_binR1, go_sPut, go_put1, go_putO, go_put2, go_putP, go_putN, go_retF1, go_fLst, go_fl1, go_sOwn, go_own1, go_call, go_call1, kFR_ok, kFR_exc, go_callIo, go_io0, go_io1, go_io2, kIo_ok, kIo_exc, go_callN, go_calln1, go_calln2, go_okF, go_excF, kRun_next, kRun_ret, kRun_exc, finF_none, finF_some, finS_ol, go_finO, go_finX, go_items, go_items_lst, go_items_tup, go_rng1, go_rng1_ok, go_rng2, go_rng2_ok, go_zip, go_zip_l, go_zip_t, go_enum, go_enum_l, go_sFor, go_for1, kLoop_next, kLoop_cont, kLoop_brk, kLoop_ret, kLoop_exc, turn_next, turn_cont, go_lc, go_lc1, kLc_ok, elem_ok, go_yes, go_sl, go_sl1, go_sl2, go_sl3, go_noP, go_p, go_p1, go_rev, go_rev1, go_chain, go_ch1, go_ch2, go_ch3T, go_ch3F, go_ch4, go_dic, go_dic1, go_prs_nil, go_prs, go_prs1, go_prs2, go_prs3, go_prs4, kW_ok, go_fcall, go_fcall1, kRunW_ok, go_okW, go_cf, go_cf1, oAdd_int, oAdd_bl, atI_0, atI_1, atI_2, atI_3, ixN_0, ixN_1, ixN_2, sz_lit, List.getElem?_cons_zero, List.getElem?_cons_succ, List.set_cons_zero, List.set_cons_succ, List.nil_append, List.cons_append, List.append_nil, List.length_cons, List.length_nil, Nat.reduceSub, Nat.reduceLeDiff, Nat.zero_add, Option.bind_some, Option.map_some, reduceCtorEq, Int.reduceLT, Int.reduceLE, Int.reduceNeg, Int.reducePow, Int.reduceToNat, and_true, true_and, and_self, ite_true, ite_false, if_true, if_false, Bool.not_true, Bool.not_false, Bool.true_and, Bool.false_and, Bool.and_true, Bool.and_false, Bool.true_or, Bool.false_or, oSub, oNeg, oLt, oLe, oGt, oGe, oIs, oIsNot, Vs.isNon, oTru, oBl, oIx, oLen, oAbs, oIntC, oMax2, oMin2, oTupC, oLstC, oSl, keyD, decide_true, decide_false, plainE, fzE, gIx, List.filterMap_cons, List.filterMap_nil, wipeE, restE, List.all_cons, List.all_nil, List.getD_eq_getElem?_getD, Option.getD_some, i0, fl, hc2]
      have fin : ∀ (r5 : Option T), Go (kRun (some [D.lst (cells.map D.int), .int t, .int r]) K) (mixA c1 c2 m1 c3 m2 m3 [some (.ol (some 0) [D.lst (cells.map D.int), .int (t + 1), .int r]), some (.fz (.int m)), some (.fz (.int t)), some (.fz (.int c)), none, r5]) := fun r5 => by
        refine mix_go q1 q2 q3 p1 p2 p3 h0 (by omega) hm fun x e4 hx1 hx2 => ?_
        simp only [k_ok, k_exc, kS_ok, kS_exc, kq_next, kq_ret, kq_brk, kq_cont, kq_exc, kq_retF, go_ok, go_exc, go_next, go_ret, go_brk, go_cont, go_excS, go_retF, go_some, go_v, getV_fz, go_c, go_bin, go_bin1, go_bin2, go_un, go_un1, go_tru, go_tru1, go_bl, go_bl1, go_and, go_andT, go_andF, go_or, go_orT, go_orF, go_not, go_not1, go_andV, go_orV, go_andV1, go_orV1, go_andVT, go_andVF, go_orVT, go_orVF, go_notV, go_notV1, go_notV2, go_if, go_ifT, go_ifF, go_nil, go_cons, go_cons1, go_cons2, go_chk, go_lst, go_tup, go_lst1, go_tup1, go_cal, go_cal1, go_isi, go_isi1, go_seq, go_sRet, go_ret1, go_sExpr, go_ex1, go_sIf, go_sifT, go_sifF, go_optS, go_sAsg, go_asg1, go_sSet, go_set1, go_sPar, go_par1, go_sAug, go_augV, kN_eq, kNil_eq, kCons_eq, kT_eq, rdE_eq, rdO_fz, rdO_ol, ownE_eq, owO_ol, go_binL, go_binL1, go_binL2, oSw_eq, go_binR, go_binR1, go_sPut, go_put1, go_putO, go_put2, go_putP, go_putN, go_retF1, go_fLst, go_fl1, go_sOwn, go_own1, go_call, go_call1, kFR_ok, kFR_exc, go_callIo, go_io0, go_io1, go_io2, kIo_ok, kIo_exc, go_callN, go_calln1, go_calln2, go_okF, go_excF, kRun_next, kRun_ret, kRun_exc, finF_none, finF_some, finS_ol, go_finO, go_finX, go_items, go_items_lst, go_items_tup, go_rng1, go_rng1_ok, go_rng2, go_rng2_ok, go_zip, go_zip_l, go_zip_t, go_enum, go_enum_l, go_sFor, go_for1, kLoop_next, kLoop_cont, kLoop_brk, kLoop_ret, kLoop_exc, turn_next, turn_cont, go_lc, go_lc1, kLc_ok, elem_ok, go_yes, go_sl, go_sl1, go_sl2, go_sl3, go_noP, go_p, go_p1, go_rev, go_rev1, go_chain, go_ch1, go_ch2, go_ch3T, go_ch3F, go_ch4, go_dic, go_dic1, go_prs_nil, go_prs, go_prs1, go_prs2, go_prs3, go_prs4, kW_ok, go_fcall, go_fcall1, kRunW_ok, go_okW, go_cf, go_cf1, oAdd_int, oAdd_bl, atI_0, atI_1, atI_2, atI_3, ixN_0, ixN_1, ixN_2, sz_lit, List.getElem?_cons_zero, List.getElem?_cons_succ, List.set_cons_zero, List.set_cons_succ, List.nil_append, List.cons_append, List.append_nil, List.length_cons, List.length_nil, Nat.reduceSub, Nat.reduceLeDiff, Nat.zero_add, Option.bind_some, Option.map_some, reduceCtorEq, Int.reduceLT, Int.reduceLE, Int.reduceNeg, Int.reducePow, Int.reduceToNat, and_true, true_and, and_self, ite_true, ite_false, if_true, if_false, Bool.not_true, Bool.not_false, Bool.true_and, Bool.false_and, Bool.and_true, Bool.and_false, Bool.true_or, Bool.false_or, oSub, oNeg, oLt, oLe, oGt, oGe, oIs, oIsNot, Vs.isNon, oTru, oBl, oIx, oLen, oAbs, oIntC, oMax2, oMin2, oTupC, oLstC, oSl, keyD, decide_true, decide_false, plainE, fzE, gIx, List.filterMap_cons, List.filterMap_nil, wipeE, restE, List.all_cons, List.all_nil, List.getD_eq_getElem?_getD, Option.getD_some]
        exact hK _ _ ⟨cells, t + 1, r, rfl, by omega, by omega⟩ hx1 hx2
      by_cases hlt : t < ((List.map D.int cells).length : Int)
      · simp only [decide_eq_true hlt, k_ok, k_exc, kS_ok, kS_exc, kq_next, kq_ret, kq_brk, kq_cont, kq_exc, kq_retF, go_ok, go_exc, go_next, go_ret, go_brk, go_cont, go_excS, go_retF, go_some, go_v, getV_fz, go_c, go_bin, go_bin1, go_bin2, go_un, go_un1, go_tru, go_tru1, go_bl, go_bl1, go_and, go_andT, go_andF, go_or, go_orT, go_orF, go_not, go_not1, go_andV, go_orV, go_andV1, go_orV1, go_andVT, go_andVF, go_orVT, go_orVF, go_notV, go_notV1, go_notV2, go_if, go_ifT, go_ifF, go_nil, go_cons, go_cons1, go_cons2, go_chk, go_lst, go_tup, go_lst1, go_tup1, go_cal, go_cal1, go_isi, go_isi1, go_seq, go_sRet, go_ret1, go_sExpr, go_ex1, go_sIf, go_sifT, go_sifF, go_optS, go_sAsg, go_asg1, go_sSet, go_set1, go_sPar, go_par1, go_sAug, go_augV, kN_eq, kNil_eq, kCons_eq, kT_eq, rdE_eq, rdO_fz, rdO_ol, ownE_eq, owO_ol, go_binL, go_binL1, go_binL2, oSw_eq, go_binR, go_binR1, go_sPut, go_put1, go_putO, go_put2, go_putP, go_putN, go_retF1, go_fLst, go_fl1, go_sOwn, go_own1, go_call, go_call1, kFR_ok, kFR_exc, go_callIo, go_io0, go_io1, go_io2, kIo_ok, kIo_exc, go_callN, go_calln1, go_calln2, go_okF, go_excF, kRun_next, kRun_ret, kRun_exc, finF_none, finF_some, finS_ol, go_finO, go_finX, go_items, go_items_lst, go_items_tup, go_rng1, go_rng1_ok, go_rng2, go_rng2_ok, go_zip, go_zip_l, go_zip_t, go_enum, go_enum_l, go_sFor, go_for1, kLoop_next, kLoop_cont, kLoop_brk, kLoop_ret, kLoop_exc, turn_next, turn_cont, go_lc, go_lc1, kLc_ok, elem_ok, go_yes, go_sl, go_sl1, go_sl2, go_sl3, go_noP, go_p, go_p1, go_rev, go_rev1, go_chain, go_ch1, go_ch2, go_ch3T, go_ch3F, go_ch4, go_dic, go_dic1, go_prs_nil, go_prs, go_prs1, go_prs2, go_prs3, go_prs4, kW_ok, go_fcall, go_fcall1, kRunW_ok, go_okW, go_cf, go_cf1, oAdd_int, oAdd_bl, atI_0, atI_1, atI_2, atI_3, ixN_0, ixN_1, ixN_2, sz_lit, List.getElem?_cons_zero, List.getElem?_cons_succ, List.set_cons_zero, List.set_cons_succ, List.nil_append, List.cons_append, List.append_nil, List.length_cons, List.length_nil, Nat.reduceSub, Nat.reduceLeDiff, Nat.zero_add, Option.bind_some, Option.map_some, reduceCtorEq, Int.reduceLT, Int.reduceLE, Int.reduceNeg, Int.reducePow, Int.reduceToNat, and_true, true_and, and_self, ite_true, ite_false, if_true, if_false, Bool.not_true, Bool.not_false, Bool.true_and, Bool.false_and, Bool.and_true, Bool.and_false, Bool.true_or, Bool.false_or, oSub, oNeg, oLt, oLe, oGt, oGe, oIs, oIsNot, Vs.isNon, oTru, oBl, oIx, oLen, oAbs, oIntC, oMax2, oMin2, oTupC, oLstC, oSl, keyD, decide_true, decide_false, plainE, fzE, gIx, List.filterMap_cons, List.filterMap_nil, wipeE, restE, List.all_cons, List.all_nil, List.getD_eq_getElem?_getD, Option.getD_some, hpw]
        by_cases hbig : (1000000000000000000 : Int) ≤ if c < 0 then -c else c
        · have h2 : ∀ z : Int, oMul (.int 2) (.int z) = some (.int (2 * z)) := fun z => oMul_l (by omega) (by omega)
          simp only [decide_eq_true hbig, k_ok, k_exc, kS_ok, kS_exc, kq_next, kq_ret, kq_brk, kq_cont, kq_exc, kq_retF, go_ok, go_exc, go_next, go_ret, go_brk, go_cont, go_excS, go_retF, go_some, go_v, getV_fz, go_c, go_bin, go_bin1, go_bin2, go_un, go_un1, go_tru, go_tru1, go_bl, go_bl1, go_and, go_andT, go_andF, go_or, go_orT, go_orF, go_not, go_not1, go_andV, go_orV, go_andV1, go_orV1, go_andVT, go_andVF, go_orVT, go_orVF, go_notV, go_notV1, go_notV2, go_if, go_ifT, go_ifF, go_nil, go_cons, go_cons1, go_cons2, go_chk, go_lst, go_tup, go_lst1, go_tup1, go_cal, go_cal1, go_isi, go_isi1, go_seq, go_sRet, go_ret1, go_sExpr, go_ex1, go_sIf, go_sifT, go_sifF, go_optS, go_sAsg, go_asg1, go_sSet, go_set1, go_sPar, go_par1, go_sAug, go_augV, kN_eq, kNil_eq, kCons_eq, kT_eq, rdE_eq, rdO_fz, rdO_ol, ownE_eq, owO_ol, go_binL, go_binL1, go_binL2, oSw_eq, go_binR, go_binR1, go_sPut, go_put1, go_putO, go_put2, go_putP, go_putN, go_retF1, go_fLst, go_fl1, go_sOwn, go_own1, go_call, go_call1, kFR_ok, kFR_exc, go_callIo, go_io0, go_io1, go_io2, kIo_ok, kIo_exc, go_callN, go_calln1, go_calln2, go_okF, go_excF, kRun_next, kRun_ret, kRun_exc, finF_none, finF_some, finS_ol, go_finO, go_finX, go_items, go_items_lst, go_items_tup, go_rng1, go_rng1_ok, go_rng2, go_rng2_ok, go_zip, go_zip_l, go_zip_t, go_enum, go_enum_l, go_sFor, go_for1, kLoop_next, kLoop_cont, kLoop_brk, kLoop_ret, kLoop_exc, turn_next, turn_cont, go_lc, go_lc1, kLc_ok, elem_ok, go_yes, go_sl, go_sl1, go_sl2, go_sl3, go_noP, go_p, go_p1, go_rev, go_rev1, go_chain, go_ch1, go_ch2, go_ch3T, go_ch3F, go_ch4, go_dic, go_dic1, go_prs_nil, go_prs, go_prs1, go_prs2, go_prs3, go_prs4, kW_ok, go_fcall, go_fcall1, kRunW_ok, go_okW, go_cf, go_cf1, oAdd_int, oAdd_bl, atI_0, atI_1, atI_2, atI_3, ixN_0, ixN_1, ixN_2, sz_lit, List.getElem?_cons_zero, List.getElem?_cons_succ, List.set_cons_zero, List.set_cons_succ, List.nil_append, List.cons_append, List.append_nil, List.length_cons, List.length_nil, Nat.reduceSub, Nat.reduceLeDiff, Nat.zero_add, Option.bind_some, Option.map_some, reduceCtorEq, Int.reduceLT, Int.reduceLE, Int.reduceNeg, Int.reducePow, Int.reduceToNat, and_true, true_and, and_self, ite_true, ite_false, if_true, if_false, Bool.not_true, Bool.not_false, Bool.true_and, Bool.false_and, Bool.and_true, Bool.and_false, Bool.true_or, Bool.false_or, oSub, oNeg, oLt, oLe, oGt, oGe, oIs, oIsNot, Vs.isNon, oTru, oBl, oIx, oLen, oAbs, oIntC, oMax2, oMin2, oTupC, oLstC, oSl, keyD, decide_true, decide_false, plainE, fzE, gIx, List.filterMap_cons, List.filterMap_nil, wipeE, restE, List.all_cons, List.all_nil, List.getD_eq_getElem?_getD, Option.getD_some, hpw, h2, fd, fm]
          exact hK _ _ ⟨cells, t + 1, _, rfl, by omega, by omega⟩ (Int.emod_nonneg _ (by omega)) (Int.emod_lt_of_pos _ hm)
        · simp only [decide_eq_false hbig, k_ok, k_exc, kS_ok, kS_exc, kq_next, kq_ret, kq_brk, kq_cont, kq_exc, kq_retF, go_ok, go_exc, go_next, go_ret, go_brk, go_cont, go_excS, go_retF, go_some, go_v, getV_fz, go_c, go_bin, go_bin1, go_bin2, go_un, go_un1, go_tru, go_tru1, go_bl, go_bl1, go_and, go_andT, go_andF, go_or, go_orT, go_orF, go_not, go_not1, go_andV, go_orV, go_andV1, go_orV1, go_andVT, go_andVF, go_orVT, go_orVF, go_notV, go_notV1, go_notV2, go_if, go_ifT, go_ifF, go_nil, go_cons, go_cons1, go_cons2, go_chk, go_lst, go_tup, go_lst1, go_tup1, go_cal, go_cal1, go_isi, go_isi1, go_seq, go_sRet, go_ret1, go_sExpr, go_ex1, go_sIf, go_sifT, go_sifF, go_optS, go_sAsg, go_asg1, go_sSet, go_set1, go_sPar, go_par1, go_sAug, go_augV, kN_eq, kNil_eq, kCons_eq, kT_eq, rdE_eq, rdO_fz, rdO_ol, ownE_eq, owO_ol, go_binL, go_binL1, go_binL2, oSw_eq, go_binR, go_binR1, go_sPut, go_put1, go_putO, go_put2, go_putP, go_putN, go_retF1, go_fLst, go_fl1, go_sOwn, go_own1, go_call, go_call1, kFR_ok, kFR_exc, go_callIo, go_io0, go_io1, go_io2, kIo_ok, kIo_exc, go_callN, go_calln1, go_calln2, go_okF, go_excF, kRun_next, kRun_ret, kRun_exc, finF_none, finF_some, finS_ol, go_finO, go_finX, go_items, go_items_lst, go_items_tup, go_rng1, go_rng1_ok, go_rng2, go_rng2_ok, go_zip, go_zip_l, go_zip_t, go_enum, go_enum_l, go_sFor, go_for1, kLoop_next, kLoop_cont, kLoop_brk, kLoop_ret, kLoop_exc, turn_next, turn_cont, go_lc, go_lc1, kLc_ok, elem_ok, go_yes, go_sl, go_sl1, go_sl2, go_sl3, go_noP, go_p, go_p1, go_rev, go_rev1, go_chain, go_ch1, go_ch2, go_ch3T, go_ch3F, go_ch4, go_dic, go_dic1, go_prs_nil, go_prs, go_prs1, go_prs2, go_prs3, go_prs4, kW_ok, go_fcall, go_fcall1, kRunW_ok, go_okW, go_cf, go_cf1, oAdd_int, oAdd_bl, atI_0, atI_1, atI_2, atI_3, ixN_0, ixN_1, ixN_2, sz_lit, List.getElem?_cons_zero, List.getElem?_cons_succ, List.set_cons_zero, List.set_cons_succ, List.nil_append, List.cons_append, List.append_nil, List.length_cons, List.length_nil, Nat.reduceSub, Nat.reduceLeDiff, Nat.zero_add, Option.bind_some, Option.map_some, reduceCtorEq, Int.reduceLT, Int.reduceLE, Int.reduceNeg, Int.reducePow, Int.reduceToNat, and_true, true_and, and_self, ite_true, ite_false, if_true, if_false, Bool.not_true, Bool.not_false, Bool.true_and, Bool.false_and, Bool.and_true, Bool.and_false, Bool.true_or, Bool.false_or, oSub, oNeg, oLt, oLe, oGt, oGe, oIs, oIsNot, Vs.isNon, oTru, oBl, oIx, oLen, oAbs, oIntC, oMax2, oMin2, oTupC, oLstC, oSl, keyD, decide_true, decide_false, plainE, fzE, gIx, List.filterMap_cons, List.filterMap_nil, wipeE, restE, List.all_cons, List.all_nil, List.getD_eq_getElem?_getD, Option.getD_some]
          exact fin _
      · simp only [decide_eq_false hlt, k_ok, k_exc, kS_ok, kS_exc, kq_next, kq_ret, kq_brk, kq_cont, kq_exc, kq_retF, go_ok, go_exc, go_next, go_ret, go_brk, go_cont, go_excS, go_retF, go_some, go_v, getV_fz, go_c, go_bin, go_bin1, go_bin2, go_un, go_un1, go_tru, go_tru1, go_bl, go_bl1, go_and, go_andT, go_andF, go_or, go_orT, go_orF, go_not, go_not1, go_andV, go_orV, go_andV1, go_orV1, go_andVT, go_andVF, go_orVT, go_orVF, go_notV, go_notV1, go_notV2, go_if, go_ifT, go_ifF, go_nil, go_cons, go_cons1, go_cons2, go_chk, go_lst, go_tup, go_lst1, go_tup1, go_cal, go_cal1, go_isi, go_isi1, go_seq, go_sRet, go_ret1, go_sExpr, go_ex1, go_sIf, go_sifT, go_sifF, go_optS, go_sAsg, go_asg1, go_sSet, go_set1, go_sPar, go_par1, go_sAug, go_augV, kN_eq, kNil_eq, kCons_eq, kT_eq, rdE_eq, rdO_fz, rdO_ol, ownE_eq, owO_ol, go_binL, go_binL1, go_binL2, oSw_eq, go_binR, go_binR1, go_sPut, go_put1, go_putO, go_put2, go_putP, go_putN, go_retF1, go_fLst, go_fl1, go_sOwn, go_own1, go_call, go_call1, kFR_ok, kFR_exc, go_callIo, go_io0, go_io1, go_io2, kIo_ok, kIo_exc, go_callN, go_calln1, go_calln2, go_okF, go_excF, kRun_next, kRun_ret, kRun_exc, finF_none, finF_some, finS_ol, go_finO, go_finX, go_items, go_items_lst, go_items_tup, go_rng1, go_rng1_ok, go_rng2, go_rng2_ok, go_zip, go_zip_l, go_zip_t, go_enum, go_enum_l, go_sFor, go_for1, kLoop_next, kLoop_cont, kLoop_brk, kLoop_ret, kLoop_exc, turn_next, turn_cont, go_lc, go_lc1, kLc_ok, elem_ok, go_yes, go_sl, go_sl1, go_sl2, go_sl3, go_noP, go_p, go_p1, go_rev, go_rev1, go_chain, go_ch1, go_ch2, go_ch3T, go_ch3F, go_ch4, go_dic, go_dic1, go_prs_nil, go_prs, go_prs1, go_prs2, go_prs3, go_prs4, kW_ok, go_fcall, go_fcall1, kRunW_ok, go_okW, go_cf, go_cf1, oAdd_int, oAdd_bl, atI_0, atI_1, atI_2, atI_3, ixN_0, ixN_1, ixN_2, sz_lit, List.getElem?_cons_zero, List.getElem?_cons_succ, List.set_cons_zero, List.set_cons_succ, List.nil_append, List.cons_append, List.append_nil, List.length_cons, List.length_nil, Nat.reduceSub, Nat.reduceLeDiff, Nat.zero_add, Option.bind_some, Option.map_some, reduceCtorEq, Int.reduceLT, Int.reduceLE, Int.reduceNeg, Int.reducePow, Int.reduceToNat, and_true, true_and, and_self, ite_true, ite_false, if_true, if_false, Bool.not_true, Bool.not_false, Bool.true_and, Bool.false_and, Bool.and_true, Bool.and_false, Bool.true_or, Bool.false_or, oSub, oNeg, oLt, oLe, oGt, oGe, oIs, oIsNot, Vs.isNon, oTru, oBl, oIx, oLen, oAbs, oIntC, oMax2, oMin2, oTupC, oLstC, oSl, keyD, decide_true, decide_false, plainE, fzE, gIx, List.filterMap_cons, List.filterMap_nil, wipeE, restE, List.all_cons, List.all_nil, List.getD_eq_getElem?_getD, Option.getD_some]
        exact fin _
/-- what every law's drawing does -/
def Draws (F : Fs) : Prop := ∀ (K : FR → Prop) (n : Nat) (W : List D) (m : Int), Wl n W → n < 2 ^ 22 → 0 < m → m < 1073741824 → (∀ W' x, Wl (n + 1) W' → 0 ≤ x → x < m → K (.ok (.int x) (some W'))) → Go K (F (some W) [.int m])
theorem drawsA {c1 c2 m1 c3 m2 m3 : Int} (q : smallC c1 ∧ smallC c2 ∧ smallC c3 ∧ smallM m1 ∧ smallM m2 ∧ smallM m3) : Draws (runF 6 (drawA c1 c2 m1 c3 m2 m3)) :=
  fun K n W m h hn hm hm2 hK => draw_go q.1 q.2.1 q.2.2.1 q.2.2.2.1 q.2.2.2.2.1 q.2.2.2.2.2 h hn hm hm2 hK
theorem atI_of {xs : List D} {x : Int} (h1 : 0 ≤ x) (h2 : x < xs.length) : ∃ d ∈ xs, atI xs x = some d := by
  have hl : x.toNat < xs.length := by omega
  refine ⟨xs[x.toNat], List.getElem_mem _, ?_⟩
  unfold atI ixN
  rw [if_pos h1, if_pos h2]
  simp only [Option.bind_some, List.getElem?_eq_getElem hl]
def pickA (F : Fs) : MS :=
  (sRet (eBin oIx (eV 1) (eCallIo 2 F 0 [] (eCons (eCal oLen (eCons (eV 1) eNil)) eNil))))
def Picks (F : Fs) : Prop := ∀ (K : FR → Prop) (n : Nat) (W : List D) (xs : List D) (z : D), z = .lst xs ∨ z = .tup xs → Wl n W → n < 2 ^ 22 → 0 < xs.length → xs.length < 1000000 → (∀ W' x, Wl (n + 1) W' → x ∈ xs → K (.ok x (some W'))) → Go K (F (some W) [z])
theorem picksA {F : Fs} (hF : Draws F) : Picks (runF 2 (pickA F)) := fun K n W xs z hz h hn h0 h1 hK => by
  rw [go_runF]
  show Go _ (pickA F [some (.ol (some 0) W), some (.fz z)])
  unfold pickA
  rcases hz with rfl | rfl
  · simp only [k_ok, k_exc, kS_ok, kS_exc, kq_next, kq_ret, kq_brk, kq_cont, kq_exc, kq_retF, go_ok, go_exc, go_next, go_ret, go_brk, go_cont, go_excS, go_retF, go_some, go_v, getV_fz, go_c, go_bin, go_bin1, go_bin2, go_un, go_un1, go_tru, go_tru1, go_bl, go_bl1, go_and, go_andT, go_andF, go_or, go_orT, go_orF, go_not, go_not1, go_andV, go_orV, go_andV1, go_orV1, go_andVT, go_andVF, go_orVT, go_orVF, go_notV, go_notV1, go_notV2, go_if, go_ifT, go_ifF, go_nil, go_cons, go_cons1, go_cons2, go_chk, go_lst, go_tup, go_lst1, go_tup1, go_cal, go_cal1, go_isi, go_isi1, go_seq, go_sRet, go_ret1, go_sExpr, go_ex1, go_sIf, go_sifT, go_sifF, go_optS, go_sAsg, go_asg1, go_sSet, go_set1, go_sPar, go_par1, go_sAug, go_augV, kN_eq, kNil_eq, kCons_eq, kT_eq, rdE_eq, rdO_fz, rdO_ol, ownE_eq, owO_ol, go_binL, go_binL1, go_binL2, oSw_eq, go_binR, go_binR1, go_sPut, go_put1, go_putO, go_put2, go_putP, go_putN, go_retF1, go_fLst, go_fl1, go_sOwn, go_own1, go_call, go_call1, kFR_ok, kFR_exc, go_callIo, go_io0, go_io1, go_io2, kIo_ok, kIo_exc, go_callN, go_calln1, go_calln2, go_okF, go_excF, kRun_next, kRun_ret, kRun_exc, finF_none, finF_some, finS_ol, go_finO, go_finX, go_items, go_items_lst, go_items_tup, go_rng1, go_rng1_ok, go_rng2, go_rng2_ok, go_zip, go_zip_l, go_zip_t, go_enum, go_enum_l, go_sFor, go_for1, kLoop_next, kLoop_cont, kLoop_brk, kLoop_ret, kLoop_exc, turn_next, turn_cont, go_lc, go_lc1, kLc_ok, elem_ok, go_yes, go_sl, go_sl1, go_sl2, go_sl3, go_noP, go_p, go_p1, go_rev, go_rev1, go_chain, go_ch1, go_ch2, go_ch3T, go_ch3F, go_ch4, go_dic, go_dic1, go_prs_nil, go_prs, go_prs1, go_prs2, go_prs3, go_prs4, kW_ok, go_fcall, go_fcall1, kRunW_ok, go_okW, go_cf, go_cf1, oAdd_int, oAdd_bl, atI_0, atI_1, atI_2, atI_3, ixN_0, ixN_1, ixN_2, sz_lit, List.getElem?_cons_zero, List.getElem?_cons_succ, List.set_cons_zero, List.set_cons_succ, List.nil_append, List.cons_append, List.append_nil, List.length_cons, List.length_nil, Nat.reduceSub, Nat.reduceLeDiff, Nat.zero_add, Option.bind_some, Option.map_some, reduceCtorEq, Int.reduceLT, Int.reduceLE, Int.reduceNeg, Int.reducePow, Int.reduceToNat, and_true, true_and, and_self, ite_true, ite_false, if_true, if_false, Bool.not_true, Bool.not_false, Bool.true_and, Bool.false_and, Bool.and_true, Bool.and_false, Bool.true_or, Bool.false_or, oSub, oNeg, oLt, oLe, oGt, oGe, oIs, oIsNot, Vs.isNon, oTru, oBl, oIx, oLen, oAbs, oIntC, oMax2, oMin2, oTupC, oLstC, oSl, keyD, decide_true, decide_false, plainE, fzE, gIx, List.filterMap_cons, List.filterMap_nil, wipeE, restE, List.all_cons, List.all_nil, List.getD_eq_getElem?_getD, Option.getD_some]
    refine hF _ n W _ h hn (by omega) (by omega) fun W' x hw hx1 hx2 => ?_
    obtain ⟨d, hd, e⟩ := atI_of hx1 hx2
    simp only [k_ok, k_exc, kS_ok, kS_exc, kq_next, kq_ret, kq_brk, kq_cont, kq_exc, kq_retF, go_ok, go_exc, go_next, go_ret, go_brk, go_cont, go_excS, go_retF, go_some, go_v, getV_fz, go_c, go_bin, go_bin1, go_bin2, go_un, go_un1, go_tru, go_tru1, go_bl, go_bl1, go_and, go_andT, go_andF, go_or, go_orT, go_orF, go_not, go_not1, go_andV, go_orV, go_andV1, go_orV1, go_andVT, go_andVF, go_orVT, go_orVF, go_notV, go_notV1, go_notV2, go_if, go_ifT, go_ifF, go_nil, go_cons, go_cons1, go_cons2, go_chk, go_lst, go_tup, go_lst1, go_tup1, go_cal, go_cal1, go_isi, go_isi1, go_seq, go_sRet, go_ret1, go_sExpr, go_ex1, go_sIf, go_sifT, go_sifF, go_optS, go_sAsg, go_asg1, go_sSet, go_set1, go_sPar, go_par1, go_sAug, go_augV, kN_eq, kNil_eq, kCons_eq, kT_eq, rdE_eq, rdO_fz, rdO_ol, ownE_eq, owO_ol, go_binL, go_binL1, go_binL2, oSw_eq, go_binR, go_binR1, go_sPut, go_put1, go_putO, go_put2, go_putP, go_putN, go_retF1, go_fLst, go_fl1, go_sOwn, go_own1, go_call, go_call1, kFR_ok, kFR_exc, go_callIo, go_io0, go_io1, go_io2, kIo_ok, kIo_exc, go_callN, go_calln1, go_calln2, go_okF, go_excF, kRun_next, kRun_ret, kRun_exc, finF_none, finF_some, finS_ol, go_finO, go_finX, go_items, go_items_lst, go_items_tup, go_rng1, go_rng1_ok, go_rng2, go_rng2_ok, go_zip, go_zip_l, go_zip_t, go_enum, go_enum_l, go_sFor, go_for1, kLoop_next, kLoop_cont, kLoop_brk, kLoop_ret, kLoop_exc, turn_next, turn_cont, go_lc, go_lc1, kLc_ok, elem_ok, go_yes, go_sl, go_sl1, go_sl2, go_sl3, go_noP, go_p, go_p1, go_rev, go_rev1, go_chain, go_ch1, go_ch2, go_ch3T, go_ch3F, go_ch4, go_dic, go_dic1, go_prs_nil, go_prs, go_prs1, go_prs2, go_prs3, go_prs4, kW_ok, go_fcall, go_fcall1, kRunW_ok, go_okW, go_cf, go_cf1, oAdd_int, oAdd_bl, atI_0, atI_1, atI_2, atI_3, ixN_0, ixN_1, ixN_2, sz_lit, List.getElem?_cons_zero, List.getElem?_cons_succ, List.set_cons_zero, List.set_cons_succ, List.nil_append, List.cons_append, List.append_nil, List.length_cons, List.length_nil, Nat.reduceSub, Nat.reduceLeDiff, Nat.zero_add, Option.bind_some, Option.map_some, reduceCtorEq, Int.reduceLT, Int.reduceLE, Int.reduceNeg, Int.reducePow, Int.reduceToNat, and_true, true_and, and_self, ite_true, ite_false, if_true, if_false, Bool.not_true, Bool.not_false, Bool.true_and, Bool.false_and, Bool.and_true, Bool.and_false, Bool.true_or, Bool.false_or, oSub, oNeg, oLt, oLe, oGt, oGe, oIs, oIsNot, Vs.isNon, oTru, oBl, oIx, oLen, oAbs, oIntC, oMax2, oMin2, oTupC, oLstC, oSl, keyD, decide_true, decide_false, plainE, fzE, gIx, List.filterMap_cons, List.filterMap_nil, wipeE, restE, List.all_cons, List.all_nil, List.getD_eq_getElem?_getD, Option.getD_some, e]
    exact hK _ _ hw hd
  · simp only [k_ok, k_exc, kS_ok, kS_exc, kq_next, kq_ret, kq_brk, kq_cont, kq_exc, kq_retF, go_ok, go_exc, go_next, go_ret, go_brk, go_cont, go_excS, go_retF, go_some, go_v, getV_fz, go_c, go_bin, go_bin1, go_bin2, go_un, go_un1, go_tru, go_tru1, go_bl, go_bl1, go_and, go_andT, go_andF, go_or, go_orT, go_orF, go_not, go_not1, go_andV, go_orV, go_andV1, go_orV1, go_andVT, go_andVF, go_orVT, go_orVF, go_notV, go_notV1, go_notV2, go_if, go_ifT, go_ifF, go_nil, go_cons, go_cons1, go_cons2, go_chk, go_lst, go_tup, go_lst1, go_tup1, go_cal, go_cal1, go_isi, go_isi1, go_seq, go_sRet, go_ret1, go_sExpr, go_ex1, go_sIf, go_sifT, go_sifF, go_optS, go_sAsg, go_asg1, go_sSet, go_set1, go_sPar, go_par1, go_sAug, go_augV, kN_eq, kNil_eq, kCons_eq, kT_eq, rdE_eq, rdO_fz, rdO_ol, ownE_eq, owO_ol, go_binL, go_binL1, go_binL2, oSw_eq, go_binR, go_binR1, go_sPut, go_put1, go_putO, go_put2, go_putP, go_putN, go_retF1, go_fLst, go_fl1, go_sOwn, go_own1, go_call, go_call1, kFR_ok, kFR_exc, go_callIo, go_io0, go_io1, go_io2, kIo_ok, kIo_exc, go_callN, go_calln1, go_calln2, go_okF, go_excF, kRun_next, kRun_ret, kRun_exc, finF_none, finF_some, finS_ol, go_finO, go_finX, go_items, go_items_lst, go_items_tup, go_rng1, go_rng1_ok, go_rng2, go_rng2_ok, go_zip, go_zip_l, go_zip_t, go_enum, go_enum_l, go_sFor, go_for1, kLoop_next, kLoop_cont, kLoop_brk, kLoop_ret, kLoop_exc, turn_next, turn_cont, go_lc, go_lc1, kLc_ok, elem_ok, go_yes, go_sl, go_sl1, go_sl2, go_sl3, go_noP, go_p, go_p1, go_rev, go_rev1, go_chain, go_ch1, go_ch2, go_ch3T, go_ch3F, go_ch4, go_dic, go_dic1, go_prs_nil, go_prs, go_prs1, go_prs2, go_prs3, go_prs4, kW_ok, go_fcall, go_fcall1, kRunW_ok, go_okW, go_cf, go_cf1, oAdd_int, oAdd_bl, atI_0, atI_1, atI_2, atI_3, ixN_0, ixN_1, ixN_2, sz_lit, List.getElem?_cons_zero, List.getElem?_cons_succ, List.set_cons_zero, List.set_cons_succ, List.nil_append, List.cons_append, List.append_nil, List.length_cons, List.length_nil, Nat.reduceSub, Nat.reduceLeDiff, Nat.zero_add, Option.bind_some, Option.map_some, reduceCtorEq, Int.reduceLT, Int.reduceLE, Int.reduceNeg, Int.reducePow, Int.reduceToNat, and_true, true_and, and_self, ite_true, ite_false, if_true, if_false, Bool.not_true, Bool.not_false, Bool.true_and, Bool.false_and, Bool.and_true, Bool.and_false, Bool.true_or, Bool.false_or, oSub, oNeg, oLt, oLe, oGt, oGe, oIs, oIsNot, Vs.isNon, oTru, oBl, oIx, oLen, oAbs, oIntC, oMax2, oMin2, oTupC, oLstC, oSl, keyD, decide_true, decide_false, plainE, fzE, gIx, List.filterMap_cons, List.filterMap_nil, wipeE, restE, List.all_cons, List.all_nil, List.getD_eq_getElem?_getD, Option.getD_some]
    refine hF _ n W _ h hn (by omega) (by omega) fun W' x hw hx1 hx2 => ?_
    obtain ⟨d, hd, e⟩ := atI_of hx1 hx2
    simp only [k_ok, k_exc, kS_ok, kS_exc, kq_next, kq_ret, kq_brk, kq_cont, kq_exc, kq_retF, go_ok, go_exc, go_next, go_ret, go_brk, go_cont, go_excS, go_retF, go_some, go_v, getV_fz, go_c, go_bin, go_bin1, go_bin2, go_un, go_un1, go_tru, go_tru1, go_bl, go_bl1, go_and, go_andT, go_andF, go_or, go_orT, go_orF, go_not, go_not1, go_andV, go_orV, go_andV1, go_orV1, go_andVT, go_andVF, go_orVT, go_orVF, go_notV, go_notV1, go_notV2, go_if, go_ifT, go_ifF, go_nil, go_cons, go_cons1, go_cons2, go_chk, go_lst, go_tup, go_lst1, go_tup1, go_cal, go_cal1, go_isi, go_isi1, go_seq, go_sRet, go_ret1, go_sExpr, go_ex1, go_sIf, go_sifT, go_sifF, go_optS, go_sAsg, go_asg1, go_sSet, go_set1, go_sPar, go_par1, go_sAug, go_augV, kN_eq, kNil_eq, kCons_eq, kT_eq, rdE_eq, rdO_fz, rdO_ol, ownE_eq, owO_ol, go_binL, go_binL1, go_binL2, oSw_eq, go_binR, go_binR1, go_sPut, go_put1, go_putO, go_put2, go_putP, go_putN, go_retF1, go_fLst, go_fl1, go_sOwn, go_own1, go_call, go_call1, kFR_ok, kFR_exc, go_callIo, go_io0, go_io1, go_io2, kIo_ok, kIo_exc, go_callN, go_calln1, go_calln2, go_okF, go_excF, kRun_next, kRun_ret, kRun_exc, finF_none, finF_some, finS_ol, go_finO, go_finX, go_items, go_items_lst, go_items_tup, go_rng1, go_rng1_ok, go_rng2, go_rng2_ok, go_zip, go_zip_l, go_zip_t, go_enum, go_enum_l, go_sFor, go_for1, kLoop_next, kLoop_cont, kLoop_brk, kLoop_ret, kLoop_exc, turn_next, turn_cont, go_lc, go_lc1, kLc_ok, elem_ok, go_yes, go_sl, go_sl1, go_sl2, go_sl3, go_noP, go_p, go_p1, go_rev, go_rev1, go_chain, go_ch1, go_ch2, go_ch3T, go_ch3F, go_ch4, go_dic, go_dic1, go_prs_nil, go_prs, go_prs1, go_prs2, go_prs3, go_prs4, kW_ok, go_fcall, go_fcall1, kRunW_ok, go_okW, go_cf, go_cf1, oAdd_int, oAdd_bl, atI_0, atI_1, atI_2, atI_3, ixN_0, ixN_1, ixN_2, sz_lit, List.getElem?_cons_zero, List.getElem?_cons_succ, List.set_cons_zero, List.set_cons_succ, List.nil_append, List.cons_append, List.append_nil, List.length_cons, List.length_nil, Nat.reduceSub, Nat.reduceLeDiff, Nat.zero_add, Option.bind_some, Option.map_some, reduceCtorEq, Int.reduceLT, Int.reduceLE, Int.reduceNeg, Int.reducePow, Int.reduceToNat, and_true, true_and, and_self, ite_true, ite_false, if_true, if_false, Bool.not_true, Bool.not_false, Bool.true_and, Bool.false_and, Bool.and_true, Bool.and_false, Bool.true_or, Bool.false_or, oSub, oNeg, oLt, oLe, oGt, oGe, oIs, oIsNot, Vs.isNon, oTru, oBl, oIx, oLen, oAbs, oIntC, oMax2, oMin2, oTupC, oLstC, oSl, keyD, decide_true, decide_false, plainE, fzE, gIx, List.filterMap_cons, List.filterMap_nil, wipeE, restE, List.all_cons, List.all_nil, List.getD_eq_getElem?_getD, Option.getD_some, e]
    exact hK _ _ hw hd
def wellA : MS :=
  (sRetF (fLst (eCons (eLc [1] (eItems (eSl (eV 0) eNoP (eP (eC (.int 63))))) (kN 1) eYes (eCal oIntC (eCons (eV 1) eNil))) (eCons (eC (.int 0)) (eCons (eC (.int 0)) eNil)))))
theorem cutD_len {α : Type} (xs : List α) (lo hi : Option Int) : (cutD xs lo hi).length ≤ xs.length := by
  unfold cutD
  rw [List.length_take, List.length_drop]; omega
theorem loopC_map {v : Nat} {el : M D} (f : D → D) (e0 : Vs.Env) (ds : List D) (hv : e0.set v none = e0)
    (h : ∀ d ∈ ds, el (e0.set v (some (.fz d))) = .ok (f d) (e0.set v (some (.fz d)))) : loopC [v] (kN v) eYes el ds e0 = .ok (ds.map f) e0 := by
  have := loopC_pure (vs := [v]) (k := kN v) (t := eYes) (el := el) (fun _ => true) f (fun d => e0.set v (some (.fz d))) e0 ds (fun d hd => ⟨rfl, by
    show (e0.set v (some (.fz d))).set v none = e0
    rw [List.set_set]; exact hv, rfl, fun _ => h d hd⟩)
  rw [List.filter_eq_self.mpr (fun _ _ => rfl)] at this
  exact this
theorem loopC_filter {v : Nat} {t : M Bool} (p : D → Bool) (e0 : Vs.Env) (ds : List D) (hv : e0.set v none = e0) (hl : v < e0.length)
    (h : ∀ d ∈ ds, t (e0.set v (some (.fz d))) = .ok (p d) (e0.set v (some (.fz d)))) : loopC [v] (kN v) t (eV v) ds e0 = .ok (ds.filter p) e0 := by
  have := loopC_pure (vs := [v]) (k := kN v) (t := t) (el := eV v) p id (fun d => e0.set v (some (.fz d))) e0 ds (fun d hd => ⟨rfl, by
    show (e0.set v (some (.fz d))).set v none = e0
    rw [List.set_set]; exact hv, h d hd, fun _ => by
      unfold eV
      rw [List.getElem?_set_self (by simpa using hl)]; rfl⟩)
  simpa using this
theorem well_go {K : WR → Prop} {ns : List Int} (hl : ns.length ≤ sizeLine) (hK : ∀ W, Wl 0 W → K (.ok W)) : Go K (runW 2 wellA [.scr ns]) := by
  rw [go_runW]
  show Go _ (wellA [some (.fz (.scr ns)), none])
  unfold wellA
  have hc := cutD_len ns none (some 63)
  have hp : plainE [some (T.fz (D.scr ns)), none] [1] = true := rfl
  simp only [k_ok, k_exc, kS_ok, kS_exc, kq_next, kq_ret, kq_brk, kq_cont, kq_exc, kq_retF, go_ok, go_exc, go_next, go_ret, go_brk, go_cont, go_excS, go_retF, go_some, go_v, getV_fz, go_c, go_bin, go_bin1, go_bin2, go_un, go_un1, go_tru, go_tru1, go_bl, go_bl1, go_and, go_andT, go_andF, go_or, go_orT, go_orF, go_not, go_not1, go_andV, go_orV, go_andV1, go_orV1, go_andVT, go_andVF, go_orVT, go_orVF, go_notV, go_notV1, go_notV2, go_if, go_ifT, go_ifF, go_nil, go_cons, go_cons1, go_cons2, go_chk, go_lst, go_tup, go_lst1, go_tup1, go_cal, go_cal1, go_isi, go_isi1, go_seq, go_sRet, go_ret1, go_sExpr, go_ex1, go_sIf, go_sifT, go_sifF, go_optS, go_sAsg, go_asg1, go_sSet, go_set1, go_sPar, go_par1, go_sAug, go_augV, kN_eq, kNil_eq, kCons_eq, kT_eq, rdE_eq, rdO_fz, rdO_ol, ownE_eq, owO_ol, go_binL, go_binL1, go_binL2, oSw_eq, go_binR, go_binR1, go_sPut, go_put1, go_putO, go_put2, go_putP, go_putN, go_retF1, go_fLst, go_fl1, go_sOwn, go_own1, go_call, go_call1, kFR_ok, kFR_exc, go_callIo, go_io0, go_io1, go_io2, kIo_ok, kIo_exc, go_callN, go_calln1, go_calln2, go_okF, go_excF, kRun_next, kRun_ret, kRun_exc, finF_none, finF_some, finS_ol, go_finO, go_finX, go_items, go_items_lst, go_items_tup, go_rng1, go_rng1_ok, go_rng2, go_rng2_ok, go_zip, go_zip_l, go_zip_t, go_enum, go_enum_l, go_sFor, go_for1, kLoop_next, kLoop_cont, kLoop_brk, kLoop_ret, kLoop_exc, turn_next, turn_cont, go_lc, go_lc1, kLc_ok, elem_ok, go_yes, go_sl, go_sl1, go_sl2, go_sl3, go_noP, go_p, go_p1, go_rev, go_rev1, go_chain, go_ch1, go_ch2, go_ch3T, go_ch3F, go_ch4, go_dic, go_dic1, go_prs_nil, go_prs, go_prs1, go_prs2, go_prs3, go_prs4, kW_ok, go_fcall, go_fcall1, kRunW_ok, go_okW, go_cf, go_cf1, oAdd_int, oAdd_bl, atI_0, atI_1, atI_2, atI_3, ixN_0, ixN_1, ixN_2, sz_lit, List.getElem?_cons_zero, List.getElem?_cons_succ, List.set_cons_zero, List.set_cons_succ, List.nil_append, List.cons_append, List.append_nil, List.length_cons, List.length_nil, Nat.reduceSub, Nat.reduceLeDiff, Nat.zero_add, Option.bind_some, Option.map_some, reduceCtorEq, Int.reduceLT, Int.reduceLE, Int.reduceNeg, Int.reducePow, Int.reduceToNat, and_true, true_and, and_self, ite_true, ite_false, if_true, if_false, Bool.not_true, Bool.not_false, Bool.true_and, Bool.false_and, Bool.and_true, Bool.and_false, Bool.true_or, Bool.false_or, oSub, oNeg, oLt, oLe, oGt, oGe, oIs, oIsNot, Vs.isNon, oTru, oBl, oIx, oLen, oAbs, oIntC, oMax2, oMin2, oTupC, oLstC, oSl, keyD, decide_true, decide_false, plainE, fzE, gIx, List.filterMap_cons, List.filterMap_nil, wipeE, restE, List.all_cons, List.all_nil, List.getD_eq_getElem?_getD, Option.getD_some, hp]
  show Go _ (loopC [1] (kN 1) eYes (eCal oIntC (eCons (eV 1) eNil)) (List.map D.int (cutD ns none (some 63))) [some (.fz (.scr ns)), none])
  rw [go_of (loopC_map id [some (.fz (.scr ns)), none] _ rfl fun d hd => by
    obtain ⟨n, _, rfl⟩ := List.mem_map.mp hd
    rfl)]
  rw [kLc_ok (by simp only [List.length_map]; omega)]
  simp only [k_ok, k_exc, kS_ok, kS_exc, kq_next, kq_ret, kq_brk, kq_cont, kq_exc, kq_retF, go_ok, go_exc, go_next, go_ret, go_brk, go_cont, go_excS, go_retF, go_some, go_v, getV_fz, go_c, go_bin, go_bin1, go_bin2, go_un, go_un1, go_tru, go_tru1, go_bl, go_bl1, go_and, go_andT, go_andF, go_or, go_orT, go_orF, go_not, go_not1, go_andV, go_orV, go_andV1, go_orV1, go_andVT, go_andVF, go_orVT, go_orVF, go_notV, go_notV1, go_notV2, go_if, go_ifT, go_ifF, go_nil, go_cons, go_cons1, go_cons2, go_chk, go_lst, go_tup, go_lst1, go_tup1, go_cal, go_cal1, go_isi, go_isi1, go_seq, go_sRet, go_ret1, go_sExpr, go_ex1, go_sIf, go_sifT, go_sifF, go_optS, go_sAsg, go_asg1, go_sSet, go_set1, go_sPar, go_par1, go_sAug, go_augV, kN_eq, kNil_eq, kCons_eq, kT_eq, rdE_eq, rdO_fz, rdO_ol, ownE_eq, owO_ol, go_binL, go_binL1, go_binL2, oSw_eq, go_binR, go_binR1, go_sPut, go_put1, go_putO, go_put2, go_putP, go_putN, go_retF1, go_fLst, go_fl1, go_sOwn, go_own1, go_call, go_call1, kFR_ok, kFR_exc, go_callIo, go_io0, go_io1, go_io2, kIo_ok, kIo_exc, go_callN, go_calln1, go_calln2, go_okF, go_excF, kRun_next, kRun_ret, kRun_exc, finF_none, finF_some, finS_ol, go_finO, go_finX, go_items, go_items_lst, go_items_tup, go_rng1, go_rng1_ok, go_rng2, go_rng2_ok, go_zip, go_zip_l, go_zip_t, go_enum, go_enum_l, go_sFor, go_for1, kLoop_next, kLoop_cont, kLoop_brk, kLoop_ret, kLoop_exc, turn_next, turn_cont, go_lc, go_lc1, kLc_ok, elem_ok, go_yes, go_sl, go_sl1, go_sl2, go_sl3, go_noP, go_p, go_p1, go_rev, go_rev1, go_chain, go_ch1, go_ch2, go_ch3T, go_ch3F, go_ch4, go_dic, go_dic1, go_prs_nil, go_prs, go_prs1, go_prs2, go_prs3, go_prs4, kW_ok, go_fcall, go_fcall1, kRunW_ok, go_okW, go_cf, go_cf1, oAdd_int, oAdd_bl, atI_0, atI_1, atI_2, atI_3, ixN_0, ixN_1, ixN_2, sz_lit, List.getElem?_cons_zero, List.getElem?_cons_succ, List.set_cons_zero, List.set_cons_succ, List.nil_append, List.cons_append, List.append_nil, List.length_cons, List.length_nil, Nat.reduceSub, Nat.reduceLeDiff, Nat.zero_add, Option.bind_some, Option.map_some, reduceCtorEq, Int.reduceLT, Int.reduceLE, Int.reduceNeg, Int.reducePow, Int.reduceToNat, and_true, true_and, and_self, ite_true, ite_false, if_true, if_false, Bool.not_true, Bool.not_false, Bool.true_and, Bool.false_and, Bool.and_true, Bool.and_false, Bool.true_or, Bool.false_or, oSub, oNeg, oLt, oLe, oGt, oGe, oIs, oIsNot, Vs.isNon, oTru, oBl, oIx, oLen, oAbs, oIntC, oMax2, oMin2, oTupC, oLstC, oSl, keyD, decide_true, decide_false, plainE, fzE, gIx, List.filterMap_cons, List.filterMap_nil, wipeE, restE, List.all_cons, List.all_nil, List.getD_eq_getElem?_getD, Option.getD_some, List.map_id]
  exact hK _ ⟨_, 0, 0, rfl, by omega, by omega⟩
theorem oRepr_bl (b : Bool) : oRepr [.bl b] = some (.str (PyData.bool b).shown) := by
  cases b <;> rfl
theorem oEq_str (x y : Str) : oEq (.str x) (.str y) = some (.bl (decide (x = y))) := rfl
theorem oNe_str (x y : Str) : oNe (.str x) (.str y) = some (.bl (!decide (x = y))) := rfl
theorem oEq_int (x y : Int) : oEq (.int x) (.int y) = some (.bl (decide (x = y))) := rfl
theorem oNe_int (x y : Int) : oNe (.int x) (.int y) = some (.bl (!decide (x = y))) := rfl
theorem oEq_bl (x y : Bool) : oEq (.bl x) (.bl y) = some (.bl (decide (x = y))) := rfl
theorem oNe_bl (x y : Bool) : oNe (.bl x) (.bl y) = some (.bl (!decide (x = y))) := rfl
theorem oEq_nil (xs : List D) : oEq (.lst xs) (.lst []) = some (.bl xs.isEmpty) := by
  cases xs with
  | nil => rfl
  | cons x xs => rfl
theorem oNe_nil (xs : List D) : oNe (.lst xs) (.lst []) = some (.bl (!xs.isEmpty)) := by
  cases xs with
  | nil => rfl
  | cons x xs => rfl
def isI : D → Bool
  | .int _ => true
  | _ => false
def isL : D → Bool
  | .lst _ => true
  | .tup _ => true
  | .scr _ => true
  | _ => false
def isIB : D → Bool
  | .int _ => true
  | .bl _ => true
  | _ => false
def isB : D → Bool
  | .bl _ => true
  | _ => false
theorem oIsi_int (d : D) : oIsi ["int"] d = some (.bl (isIB d)) := by cases d <;> rfl
theorem oIsi_bool (d : D) : oIsi ["bool"] d = some (.bl (isB d)) := by cases d <;> rfl
theorem oIsi_listed (d : D) : oIsi ["list", "tuple"] d = some (.bl (isL d)) := by cases d <;> rfl
theorem str_beq (x : Str) : decide (x = x) = true := by simp
theorem blsOf_map (p : D → Bool) : ∀ xs : List D, blsOf (xs.map fun d => .bl (p d)) = some (xs.map p)
  | [] => rfl
  | x :: xs => by
    show (blsOf (xs.map fun d => .bl (p d))).map (p x :: ·) = _
    rw [blsOf_map p xs]; rfl
theorem oAll_map (p : D → Bool) (xs : List D) : oAll [.lst (xs.map fun d => .bl (p d))] = some (.bl (xs.all p)) := by
  show (blsOf _).map _ = _
  rw [blsOf_map]
  simp [List.all_map]
theorem oAny_map (p : D → Bool) (xs : List D) : oAny [.lst (xs.map fun d => .bl (p d))] = some (.bl (xs.any p)) := by
  show (blsOf _).map _ = _
  rw [blsOf_map]
  simp [List.any_map]
theorem go_mapC {K : R (List D) → Prop} {v : Nat} {el : M D} {e0 : Vs.Env} {ds : List D} (f : D → D) (hv : e0.set v none = e0)
    (h : ∀ d ∈ ds, Go (fun r => r = R.ok (f d) (e0.set v (some (.fz d)))) (el (e0.set v (some (.fz d))))) (hK : K (.ok (ds.map f) e0)) : Go K (loopC [v] (kN v) eYes el ds e0) := by
  rw [go_of (loopC_map f e0 ds hv fun d hd => of_go (h d hd))]
  exact hK
theorem go_filterC {K : R (List D) → Prop} {v : Nat} {t : M Bool} {e0 : Vs.Env} {ds : List D} (p : D → Bool) (hv : e0.set v none = e0) (hl : v < e0.length)
    (h : ∀ d ∈ ds, Go (fun r => r = R.ok (p d) (e0.set v (some (.fz d)))) (t (e0.set v (some (.fz d))))) (hK : K (.ok (ds.filter p) e0)) : Go K (loopC [v] (kN v) t (eV v) ds e0) := by
  rw [go_of (loopC_filter p e0 ds hv hl fun d hd => of_go (h d hd))]
  exact hK
theorem filter_len {p : D → Bool} {xs : List D} (h : xs.length ≤ 1000) : (xs.filter p).length ≤ sizeLine := Nat.le_trans (List.length_filter_le p xs) (Nat.le_trans h (by decide))
theorem isEmpty_filter_not (p : D → Bool) : ∀ xs : List D, (xs.filter fun d => !p d).isEmpty = xs.all p
  | [] => rfl
  | x :: xs => by
    cases h : p x with
    | true => simpa [List.filter_cons, h] using isEmpty_filter_not p xs
    | false => simp [List.filter_cons, h]
def pairF (f : D → D → D) : D → D
  | .tup [a, b] => f a b
  | d => d
theorem go_pairC {K : R (List D) → Prop} {v1 v2 : Nat} {el : M D} {e0 : Vs.Env} {ds : List D} (f : D → D → D) (hv : ∀ a b, wipeE ((e0.set v1 (some (.fz a))).set v2 (some (.fz b))) [v1, v2] = e0)
    (h : ∀ d ∈ ds, ∃ a b, d = .tup [a, b] ∧ Go (fun r => r = R.ok (f a b) ((e0.set v1 (some (.fz a))).set v2 (some (.fz b)))) (el ((e0.set v1 (some (.fz a))).set v2 (some (.fz b))))) (hK : K (.ok (ds.map (pairF f)) e0)) :
    Go K (loopC [v1, v2] (kT 2 (kCons (kN v1) (kCons (kN v2) kNil))) eYes el ds e0) := by
  have := loopC_pure (vs := [v1, v2]) (k := kT 2 (kCons (kN v1) (kCons (kN v2) kNil))) (t := eYes) (el := el) (fun _ => true) (pairF f)
    (fun d => match d with
      | .tup [a, b] => (e0.set v1 (some (.fz a))).set v2 (some (.fz b))
      | _ => e0) e0 ds (fun d hd => by
      obtain ⟨a, b, rfl, h1⟩ := h d hd
      exact ⟨rfl, hv a b, rfl, fun _ => h1⟩)
  rw [List.filter_eq_self.mpr (fun _ _ => rfl)] at this
  rw [go_of this]
  exact hK
theorem cutD_tail {α : Type} (xs : List α) : cutD xs (some 1) none = xs.drop 1 := by
  cases xs with
  | nil => rfl
  | cons x xs =>
    unfold cutD
    have e1 : HT.sIx (x :: xs).length 0 (some 1) = 1 := by
      have := HT.sIx_nat (x :: xs).length 0 1
      rw [show ((1 : Nat) : Int) = 1 from rfl] at this
      rw [this, List.length_cons]; omega
    rw [e1, HT.sIx_none]
    simp
theorem atI_last {α : Type} {xs : List α} (h : xs ≠ []) : ∃ d, atI xs (-1) = some d := by
  have hl := List.length_pos_iff.mpr h
  unfold atI ixN
  rw [if_neg (by omega), if_pos (by omega)]
  simp only [Option.bind_some]
  rw [List.getElem?_eq_getElem (by omega)]
  exact ⟨_, rfl⟩
theorem mem_rng {lo : Int} {n : Nat} {d : D} (h : d ∈ rngD lo n) : ∃ i : Nat, i < n ∧ d = .int (lo + i) := by
  unfold rngD at h
  obtain ⟨i, h1, rfl⟩ := List.mem_map.mp h
  exact ⟨i, List.mem_range.mp h1, rfl⟩
theorem rng_len (lo : Int) (n : Nat) : (rngD lo n).length = n := by simp [rngD]
theorem atI_intsN {ns : List Int} {i : Nat} (h : i < ns.length) : atI (ns.map D.int) (i : Int) = some (.int (ns.getD i 0)) := by
  unfold atI ixN
  rw [if_pos (by omega), List.length_map, if_pos (by omega)]
  simp only [Option.bind_some, List.getElem?_map, Int.toNat_natCast]
  rw [List.getElem?_eq_getElem h]
  simp [List.getD_eq_getElem?_getD, List.getElem?_eq_getElem h]
/-- ascending -/
def ascI : List Int → Bool
  | a :: b :: r => decide (a < b) && ascI (b :: r)
  | _ => true
theorem ascI_iff : ∀ ns : List Int, ascI ns = true ↔ ∀ i, i + 1 < ns.length → ns.getD i 0 < ns.getD (i + 1) 0
  | [] => by simp [ascI]
  | [a] => by simp [ascI]
  | a :: b :: r => by
    unfold ascI
    rw [Bool.and_eq_true, decide_eq_true_eq, ascI_iff (b :: r)]
    constructor
    · rintro ⟨h1, h2⟩ i hi
      cases i with
      | zero => simpa using h1
      | succ i => simpa using h2 i (by simpa using hi)
    · intro h
      refine ⟨by simpa using h 0 (by simp), fun i hi => ?_⟩
      simpa using h (i + 1) (by simpa using hi)
end Vs

set_option Elab.async false
set_option linter.all false
set_option maxRecDepth 100000
set_option maxHeartbeats 4000000
namespace Lk00
open PySem PySem.Spec PyProof.Rows L2 Evl Vs
def top (i : Nat) : Stmt := PySem.Challenge.pw_roundsheld_k00_errors_keep_their_fields.main.body.getD i (.Pass ⟨0, 0, 0, 0⟩)
/-- the classes over each class -/
def anc0 : List (Str × List Str) := [("RoundError", ["RoundError", "ValueError"]), ("BadNumber", ["BadNumber", "RoundError", "ValueError"]), ("BadValue", ["BadValue", "RoundError", "ValueError"]), ("BadYard", ["BadYard", "RoundError", "ValueError"]), ("BadCalendar", ["BadCalendar", "RoundError", "ValueError"]), ("BadRow", ["BadRow", "RoundError", "ValueError"]), ("BadStock", ["BadStock", "RoundError", "ValueError"]), ("BadMixture", ["BadMixture", "RoundError", "ValueError"]), ("Misfit", ["Misfit", "RoundError", "ValueError"]), ("TooMany", ["TooMany", "RoundError", "ValueError"]), ("Unkept", ["Unkept", "RoundError", "ValueError"]), ("Over", ["Over", "RoundError", "ValueError"]), ("Nothing", ["Nothing", "RoundError", "ValueError"]), ("BadText", ["BadText", "RoundError", "ValueError"]), ("BadLine", ["BadLine", "RoundError", "ValueError"])]
def sub0 (c t : Str) : Bool := ((anc0.lookup c).getD []).contains t
abbrev cm0 (K : PySem.W.Frag) : Cm := cmOf K [] ["RoundError", "BadNumber", "BadValue", "BadYard", "BadCalendar", "BadRow", "BadStock", "BadMixture", "Misfit", "TooMany", "Unkept", "Over", "Nothing", "BadText", "BadLine"] sub0
abbrev ls_part : List Str := ["BadNumber", "BadValue", "BadYard", "BadCalendar", "BadRow", "BadStock", "BadMixture", "Misfit", "Nothing"]
abbrev ls_most : List Str := ["TooMany"]
abbrev ls_what : List Str := ["TooMany"]
abbrev ls_paper : List Str := ["Unkept"]
abbrev ls_day : List Str := ["Over"]
abbrev ls_item : List Str := ["BadText"]
abbrev ls_word : List Str := ["BadLine"]
abbrev s_BadNumber : Stmt := clsMeth (top 2) 0
theorem ss_BadNumber : SupScope ["self", "part"] ["self", "part"] (defScope s_BadNumber) := ⟨rfl, rfl, rfl, by decide +kernel, rfl, by decide +kernel, by decide +kernel, by decide +kernel, rfl, rfl⟩
theorem i_BadNumber {P : Program} {w : World} {K : PySem.W.Frag} {mg : Str → Option Value} {base : Heap} {C f cda cc : Addr} {oc kV doc pm ct : Value} {od an : Option Addr} {osl : Array (Option Value)} (G : SupG P K C C f cda cc "BadNumber.__init__") (O : OexC K C)
    (l : K.lookup f = some ⟨oc, od, .func (PySem.W.ksFn "__init__" "BadNumber.__init__" (defArgs s_BadNumber) (defBody s_BadNumber) (defScope s_BadNumber) .none kV doc pm an (.ref cda) ct cc), osl⟩) (hg : mg "super" = none) (h0 : PySem.W.findIn K (.ref C) "part" = some none) :
    FnOk P w K mg base (L2.CX P w) 1 f (PySem.W.ksFn "__init__" "BadNumber.__init__" (defArgs s_BadNumber) (defBody s_BadNumber) (defScope s_BadNumber) .none kV doc pm an (.ref cda) ct cc) ["self", "part"] (spInit C ["part"]) :=
  exc_init1 (k := 0) (G.f l ⟨_, rfl, rfl⟩ hg) G.cd ss_BadNumber O G.sup G.sub rfl (fun _ => rfl) (fun _ => rfl) (fun _ => rfl) h0 (by decide) (by decide) (by decide) (by decide)
abbrev s_BadValue : Stmt := clsMeth (top 3) 0
theorem ss_BadValue : SupScope ["self", "part"] ["self", "part"] (defScope s_BadValue) := ⟨rfl, rfl, rfl, by decide +kernel, rfl, by decide +kernel, by decide +kernel, by decide +kernel, rfl, rfl⟩
theorem i_BadValue {P : Program} {w : World} {K : PySem.W.Frag} {mg : Str → Option Value} {base : Heap} {C f cda cc : Addr} {oc kV doc pm ct : Value} {od an : Option Addr} {osl : Array (Option Value)} (G : SupG P K C C f cda cc "BadValue.__init__") (O : OexC K C)
    (l : K.lookup f = some ⟨oc, od, .func (PySem.W.ksFn "__init__" "BadValue.__init__" (defArgs s_BadValue) (defBody s_BadValue) (defScope s_BadValue) .none kV doc pm an (.ref cda) ct cc), osl⟩) (hg : mg "super" = none) (h0 : PySem.W.findIn K (.ref C) "part" = some none) :
    FnOk P w K mg base (L2.CX P w) 1 f (PySem.W.ksFn "__init__" "BadValue.__init__" (defArgs s_BadValue) (defBody s_BadValue) (defScope s_BadValue) .none kV doc pm an (.ref cda) ct cc) ["self", "part"] (spInit C ["part"]) :=
  exc_init1 (k := 0) (G.f l ⟨_, rfl, rfl⟩ hg) G.cd ss_BadValue O G.sup G.sub rfl (fun _ => rfl) (fun _ => rfl) (fun _ => rfl) h0 (by decide) (by decide) (by decide) (by decide)
abbrev s_BadYard : Stmt := clsMeth (top 4) 0
theorem ss_BadYard : SupScope ["self", "part"] ["self", "part"] (defScope s_BadYard) := ⟨rfl, rfl, rfl, by decide +kernel, rfl, by decide +kernel, by decide +kernel, by decide +kernel, rfl, rfl⟩
theorem i_BadYard {P : Program} {w : World} {K : PySem.W.Frag} {mg : Str → Option Value} {base : Heap} {C f cda cc : Addr} {oc kV doc pm ct : Value} {od an : Option Addr} {osl : Array (Option Value)} (G : SupG P K C C f cda cc "BadYard.__init__") (O : OexC K C)
    (l : K.lookup f = some ⟨oc, od, .func (PySem.W.ksFn "__init__" "BadYard.__init__" (defArgs s_BadYard) (defBody s_BadYard) (defScope s_BadYard) .none kV doc pm an (.ref cda) ct cc), osl⟩) (hg : mg "super" = none) (h0 : PySem.W.findIn K (.ref C) "part" = some none) :
    FnOk P w K mg base (L2.CX P w) 1 f (PySem.W.ksFn "__init__" "BadYard.__init__" (defArgs s_BadYard) (defBody s_BadYard) (defScope s_BadYard) .none kV doc pm an (.ref cda) ct cc) ["self", "part"] (spInit C ["part"]) :=
  exc_init1 (k := 0) (G.f l ⟨_, rfl, rfl⟩ hg) G.cd ss_BadYard O G.sup G.sub rfl (fun _ => rfl) (fun _ => rfl) (fun _ => rfl) h0 (by decide) (by decide) (by decide) (by decide)
abbrev s_BadCalendar : Stmt := clsMeth (top 5) 0
theorem ss_BadCalendar : SupScope ["self", "part"] ["self", "part"] (defScope s_BadCalendar) := ⟨rfl, rfl, rfl, by decide +kernel, rfl, by decide +kernel, by decide +kernel, by decide +kernel, rfl, rfl⟩
theorem i_BadCalendar {P : Program} {w : World} {K : PySem.W.Frag} {mg : Str → Option Value} {base : Heap} {C f cda cc : Addr} {oc kV doc pm ct : Value} {od an : Option Addr} {osl : Array (Option Value)} (G : SupG P K C C f cda cc "BadCalendar.__init__") (O : OexC K C)
    (l : K.lookup f = some ⟨oc, od, .func (PySem.W.ksFn "__init__" "BadCalendar.__init__" (defArgs s_BadCalendar) (defBody s_BadCalendar) (defScope s_BadCalendar) .none kV doc pm an (.ref cda) ct cc), osl⟩) (hg : mg "super" = none) (h0 : PySem.W.findIn K (.ref C) "part" = some none) :
    FnOk P w K mg base (L2.CX P w) 1 f (PySem.W.ksFn "__init__" "BadCalendar.__init__" (defArgs s_BadCalendar) (defBody s_BadCalendar) (defScope s_BadCalendar) .none kV doc pm an (.ref cda) ct cc) ["self", "part"] (spInit C ["part"]) :=
  exc_init1 (k := 0) (G.f l ⟨_, rfl, rfl⟩ hg) G.cd ss_BadCalendar O G.sup G.sub rfl (fun _ => rfl) (fun _ => rfl) (fun _ => rfl) h0 (by decide) (by decide) (by decide) (by decide)
abbrev s_BadRow : Stmt := clsMeth (top 6) 0
theorem ss_BadRow : SupScope ["self", "part"] ["self", "part"] (defScope s_BadRow) := ⟨rfl, rfl, rfl, by decide +kernel, rfl, by decide +kernel, by decide +kernel, by decide +kernel, rfl, rfl⟩
theorem i_BadRow {P : Program} {w : World} {K : PySem.W.Frag} {mg : Str → Option Value} {base : Heap} {C f cda cc : Addr} {oc kV doc pm ct : Value} {od an : Option Addr} {osl : Array (Option Value)} (G : SupG P K C C f cda cc "BadRow.__init__") (O : OexC K C)
    (l : K.lookup f = some ⟨oc, od, .func (PySem.W.ksFn "__init__" "BadRow.__init__" (defArgs s_BadRow) (defBody s_BadRow) (defScope s_BadRow) .none kV doc pm an (.ref cda) ct cc), osl⟩) (hg : mg "super" = none) (h0 : PySem.W.findIn K (.ref C) "part" = some none) :
    FnOk P w K mg base (L2.CX P w) 1 f (PySem.W.ksFn "__init__" "BadRow.__init__" (defArgs s_BadRow) (defBody s_BadRow) (defScope s_BadRow) .none kV doc pm an (.ref cda) ct cc) ["self", "part"] (spInit C ["part"]) :=
  exc_init1 (k := 0) (G.f l ⟨_, rfl, rfl⟩ hg) G.cd ss_BadRow O G.sup G.sub rfl (fun _ => rfl) (fun _ => rfl) (fun _ => rfl) h0 (by decide) (by decide) (by decide) (by decide)
abbrev s_BadStock : Stmt := clsMeth (top 7) 0
theorem ss_BadStock : SupScope ["self", "part"] ["self", "part"] (defScope s_BadStock) := ⟨rfl, rfl, rfl, by decide +kernel, rfl, by decide +kernel, by decide +kernel, by decide +kernel, rfl, rfl⟩
theorem i_BadStock {P : Program} {w : World} {K : PySem.W.Frag} {mg : Str → Option Value} {base : Heap} {C f cda cc : Addr} {oc kV doc pm ct : Value} {od an : Option Addr} {osl : Array (Option Value)} (G : SupG P K C C f cda cc "BadStock.__init__") (O : OexC K C)
    (l : K.lookup f = some ⟨oc, od, .func (PySem.W.ksFn "__init__" "BadStock.__init__" (defArgs s_BadStock) (defBody s_BadStock) (defScope s_BadStock) .none kV doc pm an (.ref cda) ct cc), osl⟩) (hg : mg "super" = none) (h0 : PySem.W.findIn K (.ref C) "part" = some none) :
    FnOk P w K mg base (L2.CX P w) 1 f (PySem.W.ksFn "__init__" "BadStock.__init__" (defArgs s_BadStock) (defBody s_BadStock) (defScope s_BadStock) .none kV doc pm an (.ref cda) ct cc) ["self", "part"] (spInit C ["part"]) :=
  exc_init1 (k := 0) (G.f l ⟨_, rfl, rfl⟩ hg) G.cd ss_BadStock O G.sup G.sub rfl (fun _ => rfl) (fun _ => rfl) (fun _ => rfl) h0 (by decide) (by decide) (by decide) (by decide)
abbrev s_BadMixture : Stmt := clsMeth (top 8) 0
theorem ss_BadMixture : SupScope ["self", "part"] ["self", "part"] (defScope s_BadMixture) := ⟨rfl, rfl, rfl, by decide +kernel, rfl, by decide +kernel, by decide +kernel, by decide +kernel, rfl, rfl⟩
theorem i_BadMixture {P : Program} {w : World} {K : PySem.W.Frag} {mg : Str → Option Value} {base : Heap} {C f cda cc : Addr} {oc kV doc pm ct : Value} {od an : Option Addr} {osl : Array (Option Value)} (G : SupG P K C C f cda cc "BadMixture.__init__") (O : OexC K C)
    (l : K.lookup f = some ⟨oc, od, .func (PySem.W.ksFn "__init__" "BadMixture.__init__" (defArgs s_BadMixture) (defBody s_BadMixture) (defScope s_BadMixture) .none kV doc pm an (.ref cda) ct cc), osl⟩) (hg : mg "super" = none) (h0 : PySem.W.findIn K (.ref C) "part" = some none) :
    FnOk P w K mg base (L2.CX P w) 1 f (PySem.W.ksFn "__init__" "BadMixture.__init__" (defArgs s_BadMixture) (defBody s_BadMixture) (defScope s_BadMixture) .none kV doc pm an (.ref cda) ct cc) ["self", "part"] (spInit C ["part"]) :=
  exc_init1 (k := 0) (G.f l ⟨_, rfl, rfl⟩ hg) G.cd ss_BadMixture O G.sup G.sub rfl (fun _ => rfl) (fun _ => rfl) (fun _ => rfl) h0 (by decide) (by decide) (by decide) (by decide)
abbrev s_Misfit : Stmt := clsMeth (top 9) 0
theorem ss_Misfit : SupScope ["self", "part"] ["self", "part"] (defScope s_Misfit) := ⟨rfl, rfl, rfl, by decide +kernel, rfl, by decide +kernel, by decide +kernel, by decide +kernel, rfl, rfl⟩
theorem i_Misfit {P : Program} {w : World} {K : PySem.W.Frag} {mg : Str → Option Value} {base : Heap} {C f cda cc : Addr} {oc kV doc pm ct : Value} {od an : Option Addr} {osl : Array (Option Value)} (G : SupG P K C C f cda cc "Misfit.__init__") (O : OexC K C)
    (l : K.lookup f = some ⟨oc, od, .func (PySem.W.ksFn "__init__" "Misfit.__init__" (defArgs s_Misfit) (defBody s_Misfit) (defScope s_Misfit) .none kV doc pm an (.ref cda) ct cc), osl⟩) (hg : mg "super" = none) (h0 : PySem.W.findIn K (.ref C) "part" = some none) :
    FnOk P w K mg base (L2.CX P w) 1 f (PySem.W.ksFn "__init__" "Misfit.__init__" (defArgs s_Misfit) (defBody s_Misfit) (defScope s_Misfit) .none kV doc pm an (.ref cda) ct cc) ["self", "part"] (spInit C ["part"]) :=
  exc_init1 (k := 0) (G.f l ⟨_, rfl, rfl⟩ hg) G.cd ss_Misfit O G.sup G.sub rfl (fun _ => rfl) (fun _ => rfl) (fun _ => rfl) h0 (by decide) (by decide) (by decide) (by decide)
abbrev s_TooMany : Stmt := clsMeth (top 10) 0
theorem ss_TooMany : SupScope ["self", "what", "most"] ["self", "what", "most"] (defScope s_TooMany) := ⟨rfl, rfl, rfl, by decide +kernel, rfl, by decide +kernel, by decide +kernel, by decide +kernel, rfl, rfl⟩
theorem i_TooMany {P : Program} {w : World} {K : PySem.W.Frag} {mg : Str → Option Value} {base : Heap} {C f cda cc : Addr} {oc kV doc pm ct : Value} {od an : Option Addr} {osl : Array (Option Value)} (G : SupG P K C C f cda cc "TooMany.__init__") (O : OexC K C)
    (l : K.lookup f = some ⟨oc, od, .func (PySem.W.ksFn "__init__" "TooMany.__init__" (defArgs s_TooMany) (defBody s_TooMany) (defScope s_TooMany) .none kV doc pm an (.ref cda) ct cc), osl⟩) (hg : mg "super" = none) (h0 : PySem.W.findIn K (.ref C) "what" = some none) (h1 : PySem.W.findIn K (.ref C) "most" = some none) :
    FnOk P w K mg base (L2.CX P w) 1 f (PySem.W.ksFn "__init__" "TooMany.__init__" (defArgs s_TooMany) (defBody s_TooMany) (defScope s_TooMany) .none kV doc pm an (.ref cda) ct cc) ["self", "what", "most"] (spInit C ["what", "most"]) :=
  exc_init2 (k := 0) (G.f l ⟨_, rfl, rfl⟩ hg) G.cd ss_TooMany O G.sup G.sub rfl (fun _ => rfl) (fun _ => rfl) (fun _ => rfl) (fun _ => rfl) h0 h1 (by decide) (by decide) (by decide) (by decide) (by decide) (by decide)
abbrev s_Unkept : Stmt := clsMeth (top 11) 0
theorem ss_Unkept : SupScope ["self", "paper"] ["self", "paper"] (defScope s_Unkept) := ⟨rfl, rfl, rfl, by decide +kernel, rfl, by decide +kernel, by decide +kernel, by decide +kernel, rfl, rfl⟩
theorem i_Unkept {P : Program} {w : World} {K : PySem.W.Frag} {mg : Str → Option Value} {base : Heap} {C f cda cc : Addr} {oc kV doc pm ct : Value} {od an : Option Addr} {osl : Array (Option Value)} (G : SupG P K C C f cda cc "Unkept.__init__") (O : OexC K C)
    (l : K.lookup f = some ⟨oc, od, .func (PySem.W.ksFn "__init__" "Unkept.__init__" (defArgs s_Unkept) (defBody s_Unkept) (defScope s_Unkept) .none kV doc pm an (.ref cda) ct cc), osl⟩) (hg : mg "super" = none) (h0 : PySem.W.findIn K (.ref C) "paper" = some none) :
    FnOk P w K mg base (L2.CX P w) 1 f (PySem.W.ksFn "__init__" "Unkept.__init__" (defArgs s_Unkept) (defBody s_Unkept) (defScope s_Unkept) .none kV doc pm an (.ref cda) ct cc) ["self", "paper"] (spInit C ["paper"]) :=
  exc_init1 (k := 0) (G.f l ⟨_, rfl, rfl⟩ hg) G.cd ss_Unkept O G.sup G.sub rfl (fun _ => rfl) (fun _ => rfl) (fun _ => rfl) h0 (by decide) (by decide) (by decide) (by decide)
abbrev s_Over : Stmt := clsMeth (top 12) 0
theorem ss_Over : SupScope ["self", "day"] ["self", "day"] (defScope s_Over) := ⟨rfl, rfl, rfl, by decide +kernel, rfl, by decide +kernel, by decide +kernel, by decide +kernel, rfl, rfl⟩
theorem i_Over {P : Program} {w : World} {K : PySem.W.Frag} {mg : Str → Option Value} {base : Heap} {C f cda cc : Addr} {oc kV doc pm ct : Value} {od an : Option Addr} {osl : Array (Option Value)} (G : SupG P K C C f cda cc "Over.__init__") (O : OexC K C)
    (l : K.lookup f = some ⟨oc, od, .func (PySem.W.ksFn "__init__" "Over.__init__" (defArgs s_Over) (defBody s_Over) (defScope s_Over) .none kV doc pm an (.ref cda) ct cc), osl⟩) (hg : mg "super" = none) (h0 : PySem.W.findIn K (.ref C) "day" = some none) :
    FnOk P w K mg base (L2.CX P w) 1 f (PySem.W.ksFn "__init__" "Over.__init__" (defArgs s_Over) (defBody s_Over) (defScope s_Over) .none kV doc pm an (.ref cda) ct cc) ["self", "day"] (spInit C ["day"]) :=
  exc_init1 (k := 0) (G.f l ⟨_, rfl, rfl⟩ hg) G.cd ss_Over O G.sup G.sub rfl (fun _ => rfl) (fun _ => rfl) (fun _ => rfl) h0 (by decide) (by decide) (by decide) (by decide)
abbrev s_Nothing : Stmt := clsMeth (top 13) 0
theorem ss_Nothing : SupScope ["self", "part"] ["self", "part"] (defScope s_Nothing) := ⟨rfl, rfl, rfl, by decide +kernel, rfl, by decide +kernel, by decide +kernel, by decide +kernel, rfl, rfl⟩
theorem i_Nothing {P : Program} {w : World} {K : PySem.W.Frag} {mg : Str → Option Value} {base : Heap} {C f cda cc : Addr} {oc kV doc pm ct : Value} {od an : Option Addr} {osl : Array (Option Value)} (G : SupG P K C C f cda cc "Nothing.__init__") (O : OexC K C)
    (l : K.lookup f = some ⟨oc, od, .func (PySem.W.ksFn "__init__" "Nothing.__init__" (defArgs s_Nothing) (defBody s_Nothing) (defScope s_Nothing) .none kV doc pm an (.ref cda) ct cc), osl⟩) (hg : mg "super" = none) (h0 : PySem.W.findIn K (.ref C) "part" = some none) :
    FnOk P w K mg base (L2.CX P w) 1 f (PySem.W.ksFn "__init__" "Nothing.__init__" (defArgs s_Nothing) (defBody s_Nothing) (defScope s_Nothing) .none kV doc pm an (.ref cda) ct cc) ["self", "part"] (spInit C ["part"]) :=
  exc_init1 (k := 0) (G.f l ⟨_, rfl, rfl⟩ hg) G.cd ss_Nothing O G.sup G.sub rfl (fun _ => rfl) (fun _ => rfl) (fun _ => rfl) h0 (by decide) (by decide) (by decide) (by decide)
abbrev s_BadText : Stmt := clsMeth (top 14) 0
theorem ss_BadText : SupScope ["self", "item"] ["self", "item"] (defScope s_BadText) := ⟨rfl, rfl, rfl, by decide +kernel, rfl, by decide +kernel, by decide +kernel, by decide +kernel, rfl, rfl⟩
theorem i_BadText {P : Program} {w : World} {K : PySem.W.Frag} {mg : Str → Option Value} {base : Heap} {C f cda cc : Addr} {oc kV doc pm ct : Value} {od an : Option Addr} {osl : Array (Option Value)} (G : SupG P K C C f cda cc "BadText.__init__") (O : OexC K C)
    (l : K.lookup f = some ⟨oc, od, .func (PySem.W.ksFn "__init__" "BadText.__init__" (defArgs s_BadText) (defBody s_BadText) (defScope s_BadText) .none kV doc pm an (.ref cda) ct cc), osl⟩) (hg : mg "super" = none) (h0 : PySem.W.findIn K (.ref C) "item" = some none) :
    FnOk P w K mg base (L2.CX P w) 1 f (PySem.W.ksFn "__init__" "BadText.__init__" (defArgs s_BadText) (defBody s_BadText) (defScope s_BadText) .none kV doc pm an (.ref cda) ct cc) ["self", "item"] (spInit C ["item"]) :=
  exc_init1 (k := 0) (G.f l ⟨_, rfl, rfl⟩ hg) G.cd ss_BadText O G.sup G.sub rfl (fun _ => rfl) (fun _ => rfl) (fun _ => rfl) h0 (by decide) (by decide) (by decide) (by decide)
abbrev s_BadLine : Stmt := clsMeth (top 15) 0
theorem ss_BadLine : SupScope ["self", "word"] ["self", "word"] (defScope s_BadLine) := ⟨rfl, rfl, rfl, by decide +kernel, rfl, by decide +kernel, by decide +kernel, by decide +kernel, rfl, rfl⟩
theorem i_BadLine {P : Program} {w : World} {K : PySem.W.Frag} {mg : Str → Option Value} {base : Heap} {C f cda cc : Addr} {oc kV doc pm ct : Value} {od an : Option Addr} {osl : Array (Option Value)} (G : SupG P K C C f cda cc "BadLine.__init__") (O : OexC K C)
    (l : K.lookup f = some ⟨oc, od, .func (PySem.W.ksFn "__init__" "BadLine.__init__" (defArgs s_BadLine) (defBody s_BadLine) (defScope s_BadLine) .none kV doc pm an (.ref cda) ct cc), osl⟩) (hg : mg "super" = none) (h0 : PySem.W.findIn K (.ref C) "word" = some none) :
    FnOk P w K mg base (L2.CX P w) 1 f (PySem.W.ksFn "__init__" "BadLine.__init__" (defArgs s_BadLine) (defBody s_BadLine) (defScope s_BadLine) .none kV doc pm an (.ref cda) ct cc) ["self", "word"] (spInit C ["word"]) :=
  exc_init1 (k := 0) (G.f l ⟨_, rfl, rfl⟩ hg) G.cd ss_BadLine O G.sup G.sub rfl (fun _ => rfl) (fun _ => rfl) (fun _ => rfl) h0 (by decide) (by decide) (by decide) (by decide)
abbrev s__law_well : Stmt := top 17
abbrev N__law_well : List Str := ["script", "cell"]
theorem sc__law_well : FnScope N__law_well ["script"] (defScope s__law_well) := ⟨rfl, rfl, rfl, by decide +kernel, rfl, by decide +kernel, by decide +kernel⟩
def b__law_well : MS :=
  (sRetF (fLst (eCons (eLc [1] (eItems (eSl (eV 0) eNoP (eP (eC (.int 63))))) (kN 1) eYes (eCal oIntC (eCons (eV 1) eNil))) (eCons (eC (.int 0)) (eCons (eC (.int 0)) eNil)))))
def F__law_well : List D → WR := runW N__law_well.length b__law_well
abbrev s__law_draw : Stmt := top 18
abbrev N__law_draw : List Str := ["well", "many", "at", "cell", "mixed", "rest"]
theorem sc__law_draw : FnScope N__law_draw ["well", "many"] (defScope s__law_draw) := ⟨rfl, rfl, rfl, by decide +kernel, rfl, by decide +kernel, by decide +kernel⟩
def b__law_draw_8 : MS :=
  (sRet (eBin oMod (eCal oIntC (eCons (eBin oFdiv (eV 4) (eC (.int 64))) eNil)) (eV 1)))
def b__law_draw_7 : MS :=
  (sSeq (sSet 4 (eBin oMod (eCal oIntC (eCons (eBin oPow (eBin oAdd (eBin oAdd (eBin oMul (eV 4) (eBin oAdd (eBin oMul (eC (.int 2)) (eV 2)) (eC (.int 7219)))) (eBin oMul (eBin oMul (eC (.int 48179)) (eV 2)) (eV 2))) (eC (.int 61057))) (eC (.int 3))) eNil)) (eC (.int 2147483587))))
  b__law_draw_8)
def b__law_draw_6 : MS :=
  (sSeq (sSet 4 (eBin oMod (eCal oIntC (eCons (eBin oPow (eBin oAdd (eBin oAdd (eBin oMod (eCal oIntC (eCons (eV 3) eNil)) (eC (.int 2147483549))) (eBin oMul (eC (.int 61057)) (eV 2))) (eC (.int 7219))) (eC (.int 5))) eNil)) (eC (.int 2147483563))))
  b__law_draw_7)
def b__law_draw_5 : MS :=
  (sSeq (sIf (eAnd (eBl (eBin oLt (eV 2) (eCal oLen (eCons (eBinL 0 oIx (eC (.int 0))) eNil)))) (eBl (eBin oGe (eCal oAbs (eCons (eV 3) eNil)) (eBin oPow (eC (.int 10)) (eC (.int 18)))))) (sSeq (sSet 5 (eBin oAdd (eBin oMul (eC (.int 2)) (eBin oSub (eCal oAbs (eCons (eV 3) eNil)) (eBin oPow (eC (.int 10)) (eC (.int 18))))) (eCal oIntC (eCons (eBin oLt (eV 3) (eC (.int 0))) eNil))))
  (sSeq (sPut 0 (eC (.int 2)) (eBin oFdiv (eCal oIntC (eCons (eV 5) eNil)) (eV 1)))
  (sRet (eBin oMod (eCal oIntC (eCons (eV 5) eNil)) (eV 1))))) (fun env => .next env))
  b__law_draw_6)
def b__law_draw_4 : MS :=
  (sSeq (sIf (eBl (eBin oNe (eBinL 0 oIx (eC (.int 0))) (eLst eNil))) (sSet 3 (eBin oIx (eBinL 0 oIx (eC (.int 0))) (eBin oMod (eCal oIntC (eCons (eV 2) eNil)) (eCal oLen (eCons (eBinL 0 oIx (eC (.int 0))) eNil))))) (fun env => .next env))
  b__law_draw_5)
def b__law_draw_3 : MS :=
  (sSeq (sSet 3 (eBin oAdd (eBin oMul (eC (.int 48179)) (eV 2)) (eC (.int 7219))))
  b__law_draw_4)
def b__law_draw_2 : MS :=
  (sSeq (sPut 0 (eC (.int 1)) (eBin oAdd (eV 2) (eC (.int 1))))
  b__law_draw_3)
def b__law_draw_1 : MS :=
  (sSeq (sSet 2 (eBinL 0 oIx (eC (.int 1))))
  b__law_draw_2)
def b__law_draw : MS :=
  (sSeq (sIf (eBl (eBin oGt (eBinL 0 oIx (eC (.int 2))) (eC (.int 0)))) (sSeq (sSet 5 (eCal oIntC (eCons (eBinL 0 oIx (eC (.int 2))) eNil)))
  (sSeq (sPut 0 (eC (.int 2)) (eBin oFdiv (eV 5) (eV 1)))
  (sRet (eBin oMod (eCal oIntC (eCons (eV 5) eNil)) (eV 1))))) (fun env => .next env))
  b__law_draw_1)
def F__law_draw : Fs := runF N__law_draw.length b__law_draw
abbrev s__law_pick : Stmt := top 19
abbrev N__law_pick : List Str := ["well", "some"]
theorem sc__law_pick : FnScope N__law_pick ["well", "some"] (defScope s__law_pick) := ⟨rfl, rfl, rfl, by decide +kernel, rfl, by decide +kernel, by decide +kernel⟩
def b__law_pick : MS :=
  (sRet (eBin oIx (eV 1) (eCallIo 2 F__law_draw 0 [] (eCons (eCal oLen (eCons (eV 1) eNil)) eNil))))
def F__law_pick : Fs := runF N__law_pick.length b__law_pick
abbrev s__law_value : Stmt := top 20
abbrev N__law_value : List Str := ["well", "some"]
theorem sc__law_value : FnScope N__law_value ["well"] (defScope s__law_value) := ⟨rfl, rfl, rfl, by decide +kernel, rfl, by decide +kernel, by decide +kernel⟩
def b__law_value_1 : MS :=
  (sRet (eCallIo 2 F__law_pick 0 [] (eCons (eV 1) eNil)))
def b__law_value : MS :=
  (sSeq (sSet 1 (eLst (eCons (eC .non) (eCons (eC (.bl true)) (eCons (eC (.int 0)) (eCons (eUn oNeg (eC (.int 7))) (eCons (eBin oPow (eC (.int 10)) (eC (.int 40))) (eCons (eC (.str ("" : Str))) (eCons (eC (.str ("yards" : Str))) (eCons (eTup (eCons (eC (.int 1)) (eCons (eC (.int 2)) eNil))) (eCons (eLst (eCons (eC (.int 1)) (eCons (eLst (eCons (eC (.int 2)) eNil)) eNil))) (eCons (eDic [((eC (.str ("a" : Str))), (eC (.int 1)))]) (eCons (eC (.str ("x y" : Str))) (eCons (eTup eNil) (eCons (eC (.bl false)) eNil)))))))))))))))
  b__law_value_1)
def F__law_value : Fs := runF N__law_value.length b__law_value
abbrev s__law_kinds : Stmt := top 21
abbrev N__law_kinds : List Str := ["error", "found"]
theorem sc__law_kinds : FnScope N__law_kinds ["error"] (defScope s__law_kinds) := ⟨rfl, rfl, rfl, by decide +kernel, rfl, by decide +kernel, by decide +kernel⟩
def b__law_kinds_3 : MS :=
  (sRet (eBin oAdd (eV 1) (eLst (eCons (eIsC sub0 "BadText" (eV 0)) (eCons (eIsC sub0 "BadLine" (eV 0)) eNil)))))
def b__law_kinds_2 : MS :=
  (sSeq (sSet 1 (eBin oAdd (eV 1) (eLst (eCons (eIsC sub0 "Nothing" (eV 0)) (eCons (eIsC sub0 "TooMany" (eV 0)) (eCons (eIsC sub0 "Unkept" (eV 0)) (eCons (eIsC sub0 "Over" (eV 0)) eNil)))))))
  b__law_kinds_3)
def b__law_kinds_1 : MS :=
  (sSeq (sSet 1 (eBin oAdd (eV 1) (eLst (eCons (eIsC sub0 "BadStock" (eV 0)) (eCons (eIsC sub0 "BadRow" (eV 0)) (eCons (eIsC sub0 "BadMixture" (eV 0)) (eCons (eIsC sub0 "Misfit" (eV 0)) eNil)))))))
  b__law_kinds_2)
def b__law_kinds : MS :=
  (sSeq (sSet 1 (eLst (eCons (eIsC sub0 "BadNumber" (eV 0)) (eCons (eIsC sub0 "BadValue" (eV 0)) (eCons (eIsC sub0 "BadYard" (eV 0)) (eCons (eIsC sub0 "BadCalendar" (eV 0)) eNil))))))
  b__law_kinds_1)
def F__law_kinds : Fs := runF N__law_kinds.length b__law_kinds
abbrev s__law_raised : Stmt := top 22
abbrev N__law_raised : List Str := ["way", "value", "more"]
theorem sc__law_raised : FnScope N__law_raised ["way", "value", "more"] (defScope s__law_raised) := ⟨rfl, rfl, rfl, by decide +kernel, rfl, by decide +kernel, by decide +kernel⟩
def b__law_raised_13 : MS :=
  (sRaise "BadLine" ["word"] (eCons (eV 1) eNil))
def b__law_raised_12 : MS :=
  (sSeq (sIf (eBl (eBin oEq (eV 0) (eC (.int 12)))) (sRaiseN "BadText" ["item"] 1 (fun es => gIx [.k 0] [] es []) (eCons (eV 1) eNil)) (fun env => .next env))
  b__law_raised_13)
def b__law_raised_11 : MS :=
  (sSeq (sIf (eBl (eBin oEq (eV 0) (eC (.int 11)))) (sRaise "Over" ["day"] (eCons (eV 1) eNil)) (fun env => .next env))
  b__law_raised_12)
def b__law_raised_10 : MS :=
  (sSeq (sIf (eBl (eBin oEq (eV 0) (eC (.int 10)))) (sRaiseN "Unkept" ["paper"] 1 (fun es => gIx [.k 0] [] es []) (eCons (eV 1) eNil)) (fun env => .next env))
  b__law_raised_11)
def b__law_raised_9 : MS :=
  (sSeq (sIf (eBl (eBin oEq (eV 0) (eC (.int 9)))) (sRaise "TooMany" ["what", "most"] (eCons (eV 1) (eCons (eV 2) eNil))) (fun env => .next env))
  b__law_raised_10)
def b__law_raised_8 : MS :=
  (sSeq (sIf (eBl (eBin oEq (eV 0) (eC (.int 8)))) (sRaise "Nothing" ["part"] (eCons (eV 1) eNil)) (fun env => .next env))
  b__law_raised_9)
def b__law_raised_7 : MS :=
  (sSeq (sIf (eBl (eBin oEq (eV 0) (eC (.int 7)))) (sRaiseN "Misfit" ["part"] 1 (fun es => gIx [.k 0] [] es []) (eCons (eV 1) eNil)) (fun env => .next env))
  b__law_raised_8)
def b__law_raised_6 : MS :=
  (sSeq (sIf (eBl (eBin oEq (eV 0) (eC (.int 6)))) (sRaise "BadMixture" ["part"] (eCons (eV 1) eNil)) (fun env => .next env))
  b__law_raised_7)
def b__law_raised_5 : MS :=
  (sSeq (sIf (eBl (eBin oEq (eV 0) (eC (.int 5)))) (sRaise "BadRow" ["part"] (eCons (eV 1) eNil)) (fun env => .next env))
  b__law_raised_6)
def b__law_raised_4 : MS :=
  (sSeq (sIf (eBl (eBin oEq (eV 0) (eC (.int 4)))) (sRaiseN "BadStock" ["part"] 1 (fun es => gIx [.k 0] [] es []) (eCons (eV 1) eNil)) (fun env => .next env))
  b__law_raised_5)
def b__law_raised_3 : MS :=
  (sSeq (sIf (eBl (eBin oEq (eV 0) (eC (.int 3)))) (sRaise "BadCalendar" ["part"] (eCons (eV 1) eNil)) (fun env => .next env))
  b__law_raised_4)
def b__law_raised_2 : MS :=
  (sSeq (sIf (eBl (eBin oEq (eV 0) (eC (.int 2)))) (sRaise "BadYard" ["part"] (eCons (eV 1) eNil)) (fun env => .next env))
  b__law_raised_3)
def b__law_raised_1 : MS :=
  (sSeq (sIf (eBl (eBin oEq (eV 0) (eC (.int 1)))) (sRaiseN "BadValue" ["part"] 1 (fun es => gIx [.k 0] [] es []) (eCons (eV 1) eNil)) (fun env => .next env))
  b__law_raised_2)
def b__law_raised : MS :=
  (sSeq (sIf (eBl (eBin oEq (eV 0) (eC (.int 0)))) (sRaise "BadNumber" ["part"] (eCons (eV 1) eNil)) (fun env => .next env))
  b__law_raised_1)
def F__law_raised : Fs := runF N__law_raised.length b__law_raised
abbrev s__law_caught : Stmt := top 23
abbrev N__law_caught : List Str := ["way", "value", "more", "caught", "error"]
theorem sc__law_caught : FnScope N__law_caught ["way", "value", "more"] (defScope s__law_caught) := ⟨rfl, rfl, rfl, by decide +kernel, rfl, by decide +kernel, by decide +kernel⟩
def b__law_caught_2 : MS :=
  (sRet (eV 3))
def b__law_caught_1 : MS :=
  (sSeq (sTry sub0 "RoundError" (sExpr (eCall 3 F__law_raised [] (eCons (eV 0) (eCons (eV 1) (eCons (eV 2) eNil))))) 4 (sSet 3 (eV 4)))
  b__law_caught_2)
def b__law_caught : MS :=
  (sSeq (sSet 3 (eC .non))
  b__law_caught_1)
def F__law_caught : Fs := runF N__law_caught.length b__law_caught
abbrev s__law_field : Stmt := top 24
abbrev N__law_field : List Str := ["way", "error"]
theorem sc__law_field : FnScope N__law_field ["way", "error"] (defScope s__law_field) := ⟨rfl, rfl, rfl, by decide +kernel, rfl, by decide +kernel, by decide +kernel⟩
def b__law_field_4 : MS :=
  (sRet (eIf (eBl (eBin oEq (eV 0) (eC (.int 12)))) (eLst (eCons (eFld ls_item "item" (eV 1)) eNil)) (eLst (eCons (eFld ls_word "word" (eV 1)) eNil))))
def b__law_field_3 : MS :=
  (sSeq (sIf (eBl (eBin oEq (eV 0) (eC (.int 11)))) (sRet (eLst (eCons (eFld ls_day "day" (eV 1)) eNil))) (fun env => .next env))
  b__law_field_4)
def b__law_field_2 : MS :=
  (sSeq (sIf (eBl (eBin oEq (eV 0) (eC (.int 10)))) (sRet (eLst (eCons (eFld ls_paper "paper" (eV 1)) eNil))) (fun env => .next env))
  b__law_field_3)
def b__law_field_1 : MS :=
  (sSeq (sIf (eBl (eBin oEq (eV 0) (eC (.int 9)))) (sRet (eLst (eCons (eFld ls_what "what" (eV 1)) (eCons (eFld ls_most "most" (eV 1)) eNil)))) (fun env => .next env))
  b__law_field_2)
def b__law_field : MS :=
  (sSeq (sIf (eBl (eBin oLt (eV 0) (eC (.int 9)))) (sRet (eLst (eCons (eFld ls_part "part" (eV 1)) eNil))) (fun env => .next env))
  b__law_field_1)
def F__law_field : Fs := runF N__law_field.length b__law_field
abbrev s__law_by_name : Stmt := top 25
abbrev N__law_by_name : List Str := ["way", "value", "more"]
theorem sc__law_by_name : FnScope N__law_by_name ["way", "value", "more"] (defScope s__law_by_name) := ⟨rfl, rfl, rfl, by decide +kernel, rfl, by decide +kernel, by decide +kernel⟩
def b__law_by_name_7 : MS :=
  (sRet (eIf (eBl (eBin oEq (eV 0) (eC (.int 13)))) (eXN "BadLine" ["word"] 1 (fun es => gIx [.k 0] [] es []) (eCons (eV 1) eNil)) (eXN "BadNumber" ["part"] 1 (fun es => gIx [.k 0] [] es []) (eCons (eV 1) eNil))))
def b__law_by_name_6 : MS :=
  (sSeq (sIf (eBl (eBin oEq (eV 0) (eC (.int 11)))) (sRet (eXN "Over" ["day"] 1 (fun es => gIx [.k 0] [] es []) (eCons (eV 1) eNil))) (fun env => .next env))
  b__law_by_name_7)
def b__law_by_name_5 : MS :=
  (sSeq (sIf (eBl (eBin oEq (eV 0) (eC (.int 8)))) (sRet (eXN "Nothing" ["part"] 1 (fun es => gIx [.k 0] [] es []) (eCons (eV 1) eNil))) (fun env => .next env))
  b__law_by_name_6)
def b__law_by_name_4 : MS :=
  (sSeq (sIf (eBl (eBin oEq (eV 0) (eC (.int 6)))) (sRet (eXN "BadMixture" ["part"] 1 (fun es => gIx [.k 0] [] es []) (eCons (eV 1) eNil))) (fun env => .next env))
  b__law_by_name_5)
def b__law_by_name_3 : MS :=
  (sSeq (sIf (eBl (eBin oEq (eV 0) (eC (.int 5)))) (sRet (eXN "BadRow" ["part"] 1 (fun es => gIx [.k 0] [] es []) (eCons (eV 1) eNil))) (fun env => .next env))
  b__law_by_name_4)
def b__law_by_name_2 : MS :=
  (sSeq (sIf (eBl (eBin oEq (eV 0) (eC (.int 3)))) (sRet (eXN "BadCalendar" ["part"] 1 (fun es => gIx [.k 0] [] es []) (eCons (eV 1) eNil))) (fun env => .next env))
  b__law_by_name_3)
def b__law_by_name_1 : MS :=
  (sSeq (sIf (eBl (eBin oEq (eV 0) (eC (.int 2)))) (sRet (eXN "BadYard" ["part"] 1 (fun es => gIx [.k 0] [] es []) (eCons (eV 1) eNil))) (fun env => .next env))
  b__law_by_name_2)
def b__law_by_name : MS :=
  (sSeq (sIf (eBl (eBin oEq (eV 0) (eC (.int 9)))) (sRet (eXN "TooMany" ["what", "most"] 2 (fun es => gIx [.k 1, .k 0] [] es []) (eCons (eV 2) (eCons (eV 1) eNil)))) (fun env => .next env))
  b__law_by_name_1)
def F__law_by_name : Fs := runF N__law_by_name.length b__law_by_name
abbrev s_law : Stmt := top 26
abbrev N_law : List Str := ["script", "well", "way", "bare", "value", "more", "error", "at"]
theorem sc_law : FnScope N_law ["script"] (defScope s_law) := ⟨rfl, rfl, rfl, by decide +kernel, rfl, by decide +kernel, by decide +kernel⟩
def l1_law_4 : MS :=
  (sIf (eAnd (eBl (eBin (oIn false) (eV 2) (eLst (eCons (eC (.int 2)) (eCons (eC (.int 3)) (eCons (eC (.int 5)) (eCons (eC (.int 6)) (eCons (eC (.int 8)) (eCons (eC (.int 9)) (eCons (eC (.int 11)) (eCons (eC (.int 13)) eNil))))))))))) (eBl (eBin oNe (eCal oReprD (eCons (eCall 2 F__law_field [] (eCons (eV 2) (eCons (eCall 3 F__law_by_name [] (eCons (eV 2) (eCons (eV 4) (eCons (eV 5) eNil)))) eNil))) eNil)) (eCal oReprD (eCons (eBin oAdd (eLst (eCons (eV 4) eNil)) (eBin oMul (eLst (eCons (eV 5) eNil)) (eCal oIntC (eCons (eBin oEq (eV 2) (eC (.int 9))) eNil)))) eNil))))) (sRet (eC (.bl false))) (fun env => .next env))
def l1_law_3 : MS :=
  (sSeq (sIf (eBl (eBin oNe (eCal oReprD (eCons (eCall 2 F__law_field [] (eCons (eV 2) (eCons (eV 6) eNil))) eNil)) (eCal oReprD (eCons (eBin oAdd (eLst (eCons (eV 4) eNil)) (eBin oMul (eLst (eCons (eV 5) eNil)) (eCal oIntC (eCons (eBin oEq (eV 2) (eC (.int 9))) eNil)))) eNil)))) (sRet (eC (.bl false))) (fun env => .next env))
  l1_law_4)
def l1_law_2 : MS :=
  (sSeq (sIf (eOr (eBl (eBin oIs (eV 6) (eC .non))) (eOr (eNot (eTru (eIsC sub0 "ValueError" (eV 6)))) (eBl (eBin oNe (eCal oReprD (eCons (eCall 1 F__law_kinds [] (eCons (eV 6) eNil)) eNil)) (eCal oReprD (eCons (eLc [7] (eRng1 (eCons (eC (.int 14)) eNil)) (kN 7) eYes (eBin oEq (eV 7) (eV 2))) eNil)))))) (sRet (eC (.bl false))) (fun env => .next env))
  l1_law_3)
def l1_law_1 : MS :=
  (sSeq (sSet 6 (eCall 3 F__law_caught [] (eCons (eV 2) (eCons (eV 4) (eCons (eV 5) eNil)))))
  l1_law_2)
def l1_law : MS :=
  (sSeq (sPar 4 5 (eCons (eCallIo 1 F__law_value 1 [] eNil) (eCons (eCallIo 1 F__law_value 1 [] eNil) eNil)))
  l1_law_1)
def b_law_3 : MS :=
  (sRet (eAndV (eIsC sub0 "ValueError" (eV 3)) (eBin (oIn true) (eC (.bl true)) (eCall 1 F__law_kinds [] (eCons (eV 3) eNil)))))
def b_law_2 : MS :=
  (sSeq (sSet 3 (eX0 "RoundError" (eCons (eC (.str ("any" : Str))) (eCons (eC (.int 3)) eNil))))
  b_law_3)
def b_law_1 : MS :=
  (sSeq (sFor (eRng1 (eCons (eC (.int 14)) eNil)) (kN 2) l1_law)
  b_law_2)
def b_law : MS :=
  (sSeq (sOwn 1 (fCall 1 F__law_well [] (eCons (eV 0) eNil)))
  b_law_1)
def F_law : Fs := runF N_law.length b_law
section
variable {KF : FR → Prop} {KW : WR → Prop}
theorem run__law_well {d0 : D} : Go KW (F__law_well [d0]) = Go (kRunW KW) (b__law_well [some (.fz d0), none]) := go_runW
theorem run__law_draw {cs : List D} {d1 : D} : Go KF (F__law_draw (some cs) [d1]) = Go (kRun (some cs) KF) (b__law_draw [some (.ol (some 0) cs), some (.fz d1), none, none, none, none]) := go_runF
theorem run__law_pick {cs : List D} {d1 : D} : Go KF (F__law_pick (some cs) [d1]) = Go (kRun (some cs) KF) (b__law_pick [some (.ol (some 0) cs), some (.fz d1)]) := go_runF
theorem run__law_value {cs : List D} : Go KF (F__law_value (some cs) []) = Go (kRun (some cs) KF) (b__law_value [some (.ol (some 0) cs), none]) := go_runF
theorem run__law_kinds {d0 : D} : Go KF (F__law_kinds none [d0]) = Go (kRun none KF) (b__law_kinds [some (.fz d0), none]) := go_runF
theorem run__law_raised {d0 d1 d2 : D} : Go KF (F__law_raised none [d0, d1, d2]) = Go (kRun none KF) (b__law_raised [some (.fz d0), some (.fz d1), some (.fz d2)]) := go_runF
theorem run__law_caught {d0 d1 d2 : D} : Go KF (F__law_caught none [d0, d1, d2]) = Go (kRun none KF) (b__law_caught [some (.fz d0), some (.fz d1), some (.fz d2), none, none]) := go_runF
theorem run__law_field {d0 d1 : D} : Go KF (F__law_field none [d0, d1]) = Go (kRun none KF) (b__law_field [some (.fz d0), some (.fz d1)]) := go_runF
theorem run__law_by_name {d0 d1 d2 : D} : Go KF (F__law_by_name none [d0, d1, d2]) = Go (kRun none KF) (b__law_by_name [some (.fz d0), some (.fz d1), some (.fz d2)]) := go_runF
theorem run_law {d0 : D} : Go KF (F_law none [d0]) = Go (kRun none KF) (b_law [some (.fz d0), none, none, none, none, none, none, none]) := go_runF
end
/-- what the top has left -/
structure Tx (P : Program) (K : PySem.W.Frag) (mg : Str → Option Value) where
  a__law_well : Addr
  d__law_well : FuncData
  F__law_well : FunD K "_law_well" "_law_well" (defArgs s__law_well) (defBody s__law_well) (defScope s__law_well) [] [] a__law_well d__law_well
  g__law_well : mg "_law_well" = some (.ref a__law_well)
  a__law_draw : Addr
  d__law_draw : FuncData
  F__law_draw : FunD K "_law_draw" "_law_draw" (defArgs s__law_draw) (defBody s__law_draw) (defScope s__law_draw) [] [] a__law_draw d__law_draw
  g__law_draw : mg "_law_draw" = some (.ref a__law_draw)
  a__law_pick : Addr
  d__law_pick : FuncData
  F__law_pick : FunD K "_law_pick" "_law_pick" (defArgs s__law_pick) (defBody s__law_pick) (defScope s__law_pick) [] [] a__law_pick d__law_pick
  g__law_pick : mg "_law_pick" = some (.ref a__law_pick)
  a__law_value : Addr
  d__law_value : FuncData
  F__law_value : FunD K "_law_value" "_law_value" (defArgs s__law_value) (defBody s__law_value) (defScope s__law_value) [] [] a__law_value d__law_value
  g__law_value : mg "_law_value" = some (.ref a__law_value)
  a__law_kinds : Addr
  d__law_kinds : FuncData
  F__law_kinds : FunD K "_law_kinds" "_law_kinds" (defArgs s__law_kinds) (defBody s__law_kinds) (defScope s__law_kinds) [] [] a__law_kinds d__law_kinds
  g__law_kinds : mg "_law_kinds" = some (.ref a__law_kinds)
  a__law_raised : Addr
  d__law_raised : FuncData
  F__law_raised : FunD K "_law_raised" "_law_raised" (defArgs s__law_raised) (defBody s__law_raised) (defScope s__law_raised) [] [] a__law_raised d__law_raised
  g__law_raised : mg "_law_raised" = some (.ref a__law_raised)
  a__law_caught : Addr
  d__law_caught : FuncData
  F__law_caught : FunD K "_law_caught" "_law_caught" (defArgs s__law_caught) (defBody s__law_caught) (defScope s__law_caught) [] [] a__law_caught d__law_caught
  g__law_caught : mg "_law_caught" = some (.ref a__law_caught)
  a__law_field : Addr
  d__law_field : FuncData
  F__law_field : FunD K "_law_field" "_law_field" (defArgs s__law_field) (defBody s__law_field) (defScope s__law_field) [] [] a__law_field d__law_field
  g__law_field : mg "_law_field" = some (.ref a__law_field)
  a__law_by_name : Addr
  d__law_by_name : FuncData
  F__law_by_name : FunD K "_law_by_name" "_law_by_name" (defArgs s__law_by_name) (defBody s__law_by_name) (defScope s__law_by_name) [] [] a__law_by_name d__law_by_name
  g__law_by_name : mg "_law_by_name" = some (.ref a__law_by_name)
  a_law : Addr
  d_law : FuncData
  F_law : FunD K "law" "law" (defArgs s_law) (defBody s_law) (defScope s_law) [] [] a_law d_law
  g_law : mg "law" = some (.ref a_law)
  z_ValueError : mg "ValueError" = none
  z_abs : mg "abs" = none
  z_int : mg "int" = none
  z_isinstance : mg "isinstance" = none
  z_len : mg "len" = none
  z_range : mg "range" = none
  z_repr : mg "repr" = none
  C_RoundError : Addr
  g_RoundError : mg "RoundError" = some (.ref C_RoundError)
  m_RoundError : (cm0 K).x "RoundError" = some C_RoundError
  k_RoundError : PySem.W.keepIn K (.ref C_RoundError) = true
  q0_RoundError : PySem.W.excIn K C_RoundError [.type "ValueError", .type "Exception", .type "BaseException", .type "object"] "ValueError.__new__" = true
  e_RoundError : exmB K ["RoundError", "BadNumber", "BadValue", "BadYard", "BadCalendar", "BadRow", "BadStock", "BadMixture", "Misfit", "TooMany", "Unkept", "Over", "Nothing", "BadText", "BadLine"] sub0 "RoundError" C_RoundError = true
  C_BadNumber : Addr
  g_BadNumber : mg "BadNumber" = some (.ref C_BadNumber)
  m_BadNumber : (cm0 K).x "BadNumber" = some C_BadNumber
  f_BadNumber : Addr
  d_BadNumber : FuncData
  O_BadNumber : OexC K C_BadNumber
  N_BadNumber : PySem.W.findIn K (.ref C_BadNumber) "__init__" = some (some (.ref f_BadNumber))
  Y_BadNumber : PySem.W.typeIn K (.ref f_BadNumber) = some (.type "function")
  I_BadNumber : ∀ (w : World) (base : Heap), FnOk P w K mg base (L2.CX P w) 1 f_BadNumber d_BadNumber ["self", "part"] (spInit C_BadNumber ["part"])
  b_BadNumber : Binds K d_BadNumber ["self", "part"] []
  s_BadNumber : isvB K [] ["RoundError", "BadNumber", "BadValue", "BadYard", "BadCalendar", "BadRow", "BadStock", "BadMixture", "Misfit", "TooMany", "Unkept", "Over", "Nothing", "BadText", "BadLine"] sub0 "BadNumber" (.ref C_BadNumber) = true
  C_BadValue : Addr
  g_BadValue : mg "BadValue" = some (.ref C_BadValue)
  m_BadValue : (cm0 K).x "BadValue" = some C_BadValue
  f_BadValue : Addr
  d_BadValue : FuncData
  O_BadValue : OexC K C_BadValue
  N_BadValue : PySem.W.findIn K (.ref C_BadValue) "__init__" = some (some (.ref f_BadValue))
  Y_BadValue : PySem.W.typeIn K (.ref f_BadValue) = some (.type "function")
  I_BadValue : ∀ (w : World) (base : Heap), FnOk P w K mg base (L2.CX P w) 1 f_BadValue d_BadValue ["self", "part"] (spInit C_BadValue ["part"])
  b_BadValue : Binds K d_BadValue ["self", "part"] []
  s_BadValue : isvB K [] ["RoundError", "BadNumber", "BadValue", "BadYard", "BadCalendar", "BadRow", "BadStock", "BadMixture", "Misfit", "TooMany", "Unkept", "Over", "Nothing", "BadText", "BadLine"] sub0 "BadValue" (.ref C_BadValue) = true
  C_BadYard : Addr
  g_BadYard : mg "BadYard" = some (.ref C_BadYard)
  m_BadYard : (cm0 K).x "BadYard" = some C_BadYard
  f_BadYard : Addr
  d_BadYard : FuncData
  O_BadYard : OexC K C_BadYard
  N_BadYard : PySem.W.findIn K (.ref C_BadYard) "__init__" = some (some (.ref f_BadYard))
  Y_BadYard : PySem.W.typeIn K (.ref f_BadYard) = some (.type "function")
  I_BadYard : ∀ (w : World) (base : Heap), FnOk P w K mg base (L2.CX P w) 1 f_BadYard d_BadYard ["self", "part"] (spInit C_BadYard ["part"])
  b_BadYard : Binds K d_BadYard ["self", "part"] []
  s_BadYard : isvB K [] ["RoundError", "BadNumber", "BadValue", "BadYard", "BadCalendar", "BadRow", "BadStock", "BadMixture", "Misfit", "TooMany", "Unkept", "Over", "Nothing", "BadText", "BadLine"] sub0 "BadYard" (.ref C_BadYard) = true
  C_BadCalendar : Addr
  g_BadCalendar : mg "BadCalendar" = some (.ref C_BadCalendar)
  m_BadCalendar : (cm0 K).x "BadCalendar" = some C_BadCalendar
  f_BadCalendar : Addr
  d_BadCalendar : FuncData
  O_BadCalendar : OexC K C_BadCalendar
  N_BadCalendar : PySem.W.findIn K (.ref C_BadCalendar) "__init__" = some (some (.ref f_BadCalendar))
  Y_BadCalendar : PySem.W.typeIn K (.ref f_BadCalendar) = some (.type "function")
  I_BadCalendar : ∀ (w : World) (base : Heap), FnOk P w K mg base (L2.CX P w) 1 f_BadCalendar d_BadCalendar ["self", "part"] (spInit C_BadCalendar ["part"])
  b_BadCalendar : Binds K d_BadCalendar ["self", "part"] []
  s_BadCalendar : isvB K [] ["RoundError", "BadNumber", "BadValue", "BadYard", "BadCalendar", "BadRow", "BadStock", "BadMixture", "Misfit", "TooMany", "Unkept", "Over", "Nothing", "BadText", "BadLine"] sub0 "BadCalendar" (.ref C_BadCalendar) = true
  C_BadRow : Addr
  g_BadRow : mg "BadRow" = some (.ref C_BadRow)
  m_BadRow : (cm0 K).x "BadRow" = some C_BadRow
  f_BadRow : Addr
  d_BadRow : FuncData
  O_BadRow : OexC K C_BadRow
  N_BadRow : PySem.W.findIn K (.ref C_BadRow) "__init__" = some (some (.ref f_BadRow))
  Y_BadRow : PySem.W.typeIn K (.ref f_BadRow) = some (.type "function")
  I_BadRow : ∀ (w : World) (base : Heap), FnOk P w K mg base (L2.CX P w) 1 f_BadRow d_BadRow ["self", "part"] (spInit C_BadRow ["part"])
  b_BadRow : Binds K d_BadRow ["self", "part"] []
  s_BadRow : isvB K [] ["RoundError", "BadNumber", "BadValue", "BadYard", "BadCalendar", "BadRow", "BadStock", "BadMixture", "Misfit", "TooMany", "Unkept", "Over", "Nothing", "BadText", "BadLine"] sub0 "BadRow" (.ref C_BadRow) = true
  C_BadStock : Addr
  g_BadStock : mg "BadStock" = some (.ref C_BadStock)
  m_BadStock : (cm0 K).x "BadStock" = some C_BadStock
  f_BadStock : Addr
  d_BadStock : FuncData
  O_BadStock : OexC K C_BadStock
  N_BadStock : PySem.W.findIn K (.ref C_BadStock) "__init__" = some (some (.ref f_BadStock))
  Y_BadStock : PySem.W.typeIn K (.ref f_BadStock) = some (.type "function")
  I_BadStock : ∀ (w : World) (base : Heap), FnOk P w K mg base (L2.CX P w) 1 f_BadStock d_BadStock ["self", "part"] (spInit C_BadStock ["part"])
  b_BadStock : Binds K d_BadStock ["self", "part"] []
  s_BadStock : isvB K [] ["RoundError", "BadNumber", "BadValue", "BadYard", "BadCalendar", "BadRow", "BadStock", "BadMixture", "Misfit", "TooMany", "Unkept", "Over", "Nothing", "BadText", "BadLine"] sub0 "BadStock" (.ref C_BadStock) = true
  C_BadMixture : Addr
  g_BadMixture : mg "BadMixture" = some (.ref C_BadMixture)
  m_BadMixture : (cm0 K).x "BadMixture" = some C_BadMixture
  f_BadMixture : Addr
  d_BadMixture : FuncData
  O_BadMixture : OexC K C_BadMixture
  N_BadMixture : PySem.W.findIn K (.ref C_BadMixture) "__init__" = some (some (.ref f_BadMixture))
  Y_BadMixture : PySem.W.typeIn K (.ref f_BadMixture) = some (.type "function")
  I_BadMixture : ∀ (w : World) (base : Heap), FnOk P w K mg base (L2.CX P w) 1 f_BadMixture d_BadMixture ["self", "part"] (spInit C_BadMixture ["part"])
  b_BadMixture : Binds K d_BadMixture ["self", "part"] []
  s_BadMixture : isvB K [] ["RoundError", "BadNumber", "BadValue", "BadYard", "BadCalendar", "BadRow", "BadStock", "BadMixture", "Misfit", "TooMany", "Unkept", "Over", "Nothing", "BadText", "BadLine"] sub0 "BadMixture" (.ref C_BadMixture) = true
  C_Misfit : Addr
  g_Misfit : mg "Misfit" = some (.ref C_Misfit)
  m_Misfit : (cm0 K).x "Misfit" = some C_Misfit
  f_Misfit : Addr
  d_Misfit : FuncData
  O_Misfit : OexC K C_Misfit
  N_Misfit : PySem.W.findIn K (.ref C_Misfit) "__init__" = some (some (.ref f_Misfit))
  Y_Misfit : PySem.W.typeIn K (.ref f_Misfit) = some (.type "function")
  I_Misfit : ∀ (w : World) (base : Heap), FnOk P w K mg base (L2.CX P w) 1 f_Misfit d_Misfit ["self", "part"] (spInit C_Misfit ["part"])
  b_Misfit : Binds K d_Misfit ["self", "part"] []
  s_Misfit : isvB K [] ["RoundError", "BadNumber", "BadValue", "BadYard", "BadCalendar", "BadRow", "BadStock", "BadMixture", "Misfit", "TooMany", "Unkept", "Over", "Nothing", "BadText", "BadLine"] sub0 "Misfit" (.ref C_Misfit) = true
  C_TooMany : Addr
  g_TooMany : mg "TooMany" = some (.ref C_TooMany)
  m_TooMany : (cm0 K).x "TooMany" = some C_TooMany
  f_TooMany : Addr
  d_TooMany : FuncData
  O_TooMany : OexC K C_TooMany
  N_TooMany : PySem.W.findIn K (.ref C_TooMany) "__init__" = some (some (.ref f_TooMany))
  Y_TooMany : PySem.W.typeIn K (.ref f_TooMany) = some (.type "function")
  I_TooMany : ∀ (w : World) (base : Heap), FnOk P w K mg base (L2.CX P w) 1 f_TooMany d_TooMany ["self", "what", "most"] (spInit C_TooMany ["what", "most"])
  b_TooMany : Binds K d_TooMany ["self", "what", "most"] []
  s_TooMany : isvB K [] ["RoundError", "BadNumber", "BadValue", "BadYard", "BadCalendar", "BadRow", "BadStock", "BadMixture", "Misfit", "TooMany", "Unkept", "Over", "Nothing", "BadText", "BadLine"] sub0 "TooMany" (.ref C_TooMany) = true
  C_Unkept : Addr
  g_Unkept : mg "Unkept" = some (.ref C_Unkept)
  m_Unkept : (cm0 K).x "Unkept" = some C_Unkept
  f_Unkept : Addr
  d_Unkept : FuncData
  O_Unkept : OexC K C_Unkept
  N_Unkept : PySem.W.findIn K (.ref C_Unkept) "__init__" = some (some (.ref f_Unkept))
  Y_Unkept : PySem.W.typeIn K (.ref f_Unkept) = some (.type "function")
  I_Unkept : ∀ (w : World) (base : Heap), FnOk P w K mg base (L2.CX P w) 1 f_Unkept d_Unkept ["self", "paper"] (spInit C_Unkept ["paper"])
  b_Unkept : Binds K d_Unkept ["self", "paper"] []
  s_Unkept : isvB K [] ["RoundError", "BadNumber", "BadValue", "BadYard", "BadCalendar", "BadRow", "BadStock", "BadMixture", "Misfit", "TooMany", "Unkept", "Over", "Nothing", "BadText", "BadLine"] sub0 "Unkept" (.ref C_Unkept) = true
  C_Over : Addr
  g_Over : mg "Over" = some (.ref C_Over)
  m_Over : (cm0 K).x "Over" = some C_Over
  f_Over : Addr
  d_Over : FuncData
  O_Over : OexC K C_Over
  N_Over : PySem.W.findIn K (.ref C_Over) "__init__" = some (some (.ref f_Over))
  Y_Over : PySem.W.typeIn K (.ref f_Over) = some (.type "function")
  I_Over : ∀ (w : World) (base : Heap), FnOk P w K mg base (L2.CX P w) 1 f_Over d_Over ["self", "day"] (spInit C_Over ["day"])
  b_Over : Binds K d_Over ["self", "day"] []
  s_Over : isvB K [] ["RoundError", "BadNumber", "BadValue", "BadYard", "BadCalendar", "BadRow", "BadStock", "BadMixture", "Misfit", "TooMany", "Unkept", "Over", "Nothing", "BadText", "BadLine"] sub0 "Over" (.ref C_Over) = true
  C_Nothing : Addr
  g_Nothing : mg "Nothing" = some (.ref C_Nothing)
  m_Nothing : (cm0 K).x "Nothing" = some C_Nothing
  f_Nothing : Addr
  d_Nothing : FuncData
  O_Nothing : OexC K C_Nothing
  N_Nothing : PySem.W.findIn K (.ref C_Nothing) "__init__" = some (some (.ref f_Nothing))
  Y_Nothing : PySem.W.typeIn K (.ref f_Nothing) = some (.type "function")
  I_Nothing : ∀ (w : World) (base : Heap), FnOk P w K mg base (L2.CX P w) 1 f_Nothing d_Nothing ["self", "part"] (spInit C_Nothing ["part"])
  b_Nothing : Binds K d_Nothing ["self", "part"] []
  s_Nothing : isvB K [] ["RoundError", "BadNumber", "BadValue", "BadYard", "BadCalendar", "BadRow", "BadStock", "BadMixture", "Misfit", "TooMany", "Unkept", "Over", "Nothing", "BadText", "BadLine"] sub0 "Nothing" (.ref C_Nothing) = true
  C_BadText : Addr
  g_BadText : mg "BadText" = some (.ref C_BadText)
  m_BadText : (cm0 K).x "BadText" = some C_BadText
  f_BadText : Addr
  d_BadText : FuncData
  O_BadText : OexC K C_BadText
  N_BadText : PySem.W.findIn K (.ref C_BadText) "__init__" = some (some (.ref f_BadText))
  Y_BadText : PySem.W.typeIn K (.ref f_BadText) = some (.type "function")
  I_BadText : ∀ (w : World) (base : Heap), FnOk P w K mg base (L2.CX P w) 1 f_BadText d_BadText ["self", "item"] (spInit C_BadText ["item"])
  b_BadText : Binds K d_BadText ["self", "item"] []
  s_BadText : isvB K [] ["RoundError", "BadNumber", "BadValue", "BadYard", "BadCalendar", "BadRow", "BadStock", "BadMixture", "Misfit", "TooMany", "Unkept", "Over", "Nothing", "BadText", "BadLine"] sub0 "BadText" (.ref C_BadText) = true
  C_BadLine : Addr
  g_BadLine : mg "BadLine" = some (.ref C_BadLine)
  m_BadLine : (cm0 K).x "BadLine" = some C_BadLine
  f_BadLine : Addr
  d_BadLine : FuncData
  O_BadLine : OexC K C_BadLine
  N_BadLine : PySem.W.findIn K (.ref C_BadLine) "__init__" = some (some (.ref f_BadLine))
  Y_BadLine : PySem.W.typeIn K (.ref f_BadLine) = some (.type "function")
  I_BadLine : ∀ (w : World) (base : Heap), FnOk P w K mg base (L2.CX P w) 1 f_BadLine d_BadLine ["self", "word"] (spInit C_BadLine ["word"])
  b_BadLine : Binds K d_BadLine ["self", "word"] []
  s_BadLine : isvB K [] ["RoundError", "BadNumber", "BadValue", "BadYard", "BadCalendar", "BadRow", "BadStock", "BadMixture", "Misfit", "TooMany", "Unkept", "Over", "Nothing", "BadText", "BadLine"] sub0 "BadLine" (.ref C_BadLine) = true
  s_ValueError : isvB K [] ["RoundError", "BadNumber", "BadValue", "BadYard", "BadCalendar", "BadRow", "BadStock", "BadMixture", "Misfit", "TooMany", "Unkept", "Over", "Nothing", "BadText", "BadLine"] sub0 "ValueError" (.type "ValueError") = true
  q_part : fldB K [] ["RoundError", "BadNumber", "BadValue", "BadYard", "BadCalendar", "BadRow", "BadStock", "BadMixture", "Misfit", "TooMany", "Unkept", "Over", "Nothing", "BadText", "BadLine"] ls_part "part" = true
  q_most : fldB K [] ["RoundError", "BadNumber", "BadValue", "BadYard", "BadCalendar", "BadRow", "BadStock", "BadMixture", "Misfit", "TooMany", "Unkept", "Over", "Nothing", "BadText", "BadLine"] ls_most "most" = true
  q_what : fldB K [] ["RoundError", "BadNumber", "BadValue", "BadYard", "BadCalendar", "BadRow", "BadStock", "BadMixture", "Misfit", "TooMany", "Unkept", "Over", "Nothing", "BadText", "BadLine"] ls_what "what" = true
  q_paper : fldB K [] ["RoundError", "BadNumber", "BadValue", "BadYard", "BadCalendar", "BadRow", "BadStock", "BadMixture", "Misfit", "TooMany", "Unkept", "Over", "Nothing", "BadText", "BadLine"] ls_paper "paper" = true
  q_day : fldB K [] ["RoundError", "BadNumber", "BadValue", "BadYard", "BadCalendar", "BadRow", "BadStock", "BadMixture", "Misfit", "TooMany", "Unkept", "Over", "Nothing", "BadText", "BadLine"] ls_day "day" = true
  q_item : fldB K [] ["RoundError", "BadNumber", "BadValue", "BadYard", "BadCalendar", "BadRow", "BadStock", "BadMixture", "Misfit", "TooMany", "Unkept", "Over", "Nothing", "BadText", "BadLine"] ls_item "item" = true
  q_word : fldB K [] ["RoundError", "BadNumber", "BadValue", "BadYard", "BadCalendar", "BadRow", "BadStock", "BadMixture", "Misfit", "TooMany", "Unkept", "Over", "Nothing", "BadText", "BadLine"] ls_word "word" = true
  kb_BadValue_part : KBn K d_BadValue ["self", "part"] 1 ["part"] (fun us ws => gIx [.p 0, .k 0] us ws []) (fun vs zs => gIx [.p 0, .k 0] vs zs [])
  kb_BadStock_part : KBn K d_BadStock ["self", "part"] 1 ["part"] (fun us ws => gIx [.p 0, .k 0] us ws []) (fun vs zs => gIx [.p 0, .k 0] vs zs [])
  kb_Misfit_part : KBn K d_Misfit ["self", "part"] 1 ["part"] (fun us ws => gIx [.p 0, .k 0] us ws []) (fun vs zs => gIx [.p 0, .k 0] vs zs [])
  kb_Unkept_paper : KBn K d_Unkept ["self", "paper"] 1 ["paper"] (fun us ws => gIx [.p 0, .k 0] us ws []) (fun vs zs => gIx [.p 0, .k 0] vs zs [])
  kb_BadText_item : KBn K d_BadText ["self", "item"] 1 ["item"] (fun us ws => gIx [.p 0, .k 0] us ws []) (fun vs zs => gIx [.p 0, .k 0] vs zs [])
  kb_TooMany_most_what : KBn K d_TooMany ["self", "what", "most"] 1 ["most", "what"] (fun us ws => gIx [.p 0, .k 1, .k 0] us ws []) (fun vs zs => gIx [.p 0, .k 1, .k 0] vs zs [])
  kb_BadYard_part : KBn K d_BadYard ["self", "part"] 1 ["part"] (fun us ws => gIx [.p 0, .k 0] us ws []) (fun vs zs => gIx [.p 0, .k 0] vs zs [])
  kb_BadCalendar_part : KBn K d_BadCalendar ["self", "part"] 1 ["part"] (fun us ws => gIx [.p 0, .k 0] us ws []) (fun vs zs => gIx [.p 0, .k 0] vs zs [])
  kb_BadRow_part : KBn K d_BadRow ["self", "part"] 1 ["part"] (fun us ws => gIx [.p 0, .k 0] us ws []) (fun vs zs => gIx [.p 0, .k 0] vs zs [])
  kb_BadMixture_part : KBn K d_BadMixture ["self", "part"] 1 ["part"] (fun us ws => gIx [.p 0, .k 0] us ws []) (fun vs zs => gIx [.p 0, .k 0] vs zs [])
  kb_Nothing_part : KBn K d_Nothing ["self", "part"] 1 ["part"] (fun us ws => gIx [.p 0, .k 0] us ws []) (fun vs zs => gIx [.p 0, .k 0] vs zs [])
  kb_Over_day : KBn K d_Over ["self", "day"] 1 ["day"] (fun us ws => gIx [.p 0, .k 0] us ws []) (fun vs zs => gIx [.p 0, .k 0] vs zs [])
  kb_BadLine_word : KBn K d_BadLine ["self", "word"] 1 ["word"] (fun us ws => gIx [.p 0, .k 0] us ws []) (fun vs zs => gIx [.p 0, .k 0] vs zs [])
  kb_BadNumber_part : KBn K d_BadNumber ["self", "part"] 1 ["part"] (fun us ws => gIx [.p 0, .k 0] us ws []) (fun vs zs => gIx [.p 0, .k 0] vs zs [])
section
variable {P : Program} {w : World} {K : PySem.W.Frag} {mg : Str → Option Value} {base : Heap}
theorem x_BadNumber (T : Tx P K mg) : XmF P w K mg base (cm0 K) 1 "BadNumber" T.C_BadNumber T.f_BadNumber T.d_BadNumber ["self", "part"] ["part"] := ⟨T.O_BadNumber, T.N_BadNumber, T.Y_BadNumber, T.I_BadNumber w base, T.g_BadNumber, T.m_BadNumber, by decide⟩
theorem x_BadValue (T : Tx P K mg) : XmF P w K mg base (cm0 K) 1 "BadValue" T.C_BadValue T.f_BadValue T.d_BadValue ["self", "part"] ["part"] := ⟨T.O_BadValue, T.N_BadValue, T.Y_BadValue, T.I_BadValue w base, T.g_BadValue, T.m_BadValue, by decide⟩
theorem x_BadYard (T : Tx P K mg) : XmF P w K mg base (cm0 K) 1 "BadYard" T.C_BadYard T.f_BadYard T.d_BadYard ["self", "part"] ["part"] := ⟨T.O_BadYard, T.N_BadYard, T.Y_BadYard, T.I_BadYard w base, T.g_BadYard, T.m_BadYard, by decide⟩
theorem x_BadCalendar (T : Tx P K mg) : XmF P w K mg base (cm0 K) 1 "BadCalendar" T.C_BadCalendar T.f_BadCalendar T.d_BadCalendar ["self", "part"] ["part"] := ⟨T.O_BadCalendar, T.N_BadCalendar, T.Y_BadCalendar, T.I_BadCalendar w base, T.g_BadCalendar, T.m_BadCalendar, by decide⟩
theorem x_BadRow (T : Tx P K mg) : XmF P w K mg base (cm0 K) 1 "BadRow" T.C_BadRow T.f_BadRow T.d_BadRow ["self", "part"] ["part"] := ⟨T.O_BadRow, T.N_BadRow, T.Y_BadRow, T.I_BadRow w base, T.g_BadRow, T.m_BadRow, by decide⟩
theorem x_BadStock (T : Tx P K mg) : XmF P w K mg base (cm0 K) 1 "BadStock" T.C_BadStock T.f_BadStock T.d_BadStock ["self", "part"] ["part"] := ⟨T.O_BadStock, T.N_BadStock, T.Y_BadStock, T.I_BadStock w base, T.g_BadStock, T.m_BadStock, by decide⟩
theorem x_BadMixture (T : Tx P K mg) : XmF P w K mg base (cm0 K) 1 "BadMixture" T.C_BadMixture T.f_BadMixture T.d_BadMixture ["self", "part"] ["part"] := ⟨T.O_BadMixture, T.N_BadMixture, T.Y_BadMixture, T.I_BadMixture w base, T.g_BadMixture, T.m_BadMixture, by decide⟩
theorem x_Misfit (T : Tx P K mg) : XmF P w K mg base (cm0 K) 1 "Misfit" T.C_Misfit T.f_Misfit T.d_Misfit ["self", "part"] ["part"] := ⟨T.O_Misfit, T.N_Misfit, T.Y_Misfit, T.I_Misfit w base, T.g_Misfit, T.m_Misfit, by decide⟩
theorem x_TooMany (T : Tx P K mg) : XmF P w K mg base (cm0 K) 1 "TooMany" T.C_TooMany T.f_TooMany T.d_TooMany ["self", "what", "most"] ["what", "most"] := ⟨T.O_TooMany, T.N_TooMany, T.Y_TooMany, T.I_TooMany w base, T.g_TooMany, T.m_TooMany, by decide⟩
theorem x_Unkept (T : Tx P K mg) : XmF P w K mg base (cm0 K) 1 "Unkept" T.C_Unkept T.f_Unkept T.d_Unkept ["self", "paper"] ["paper"] := ⟨T.O_Unkept, T.N_Unkept, T.Y_Unkept, T.I_Unkept w base, T.g_Unkept, T.m_Unkept, by decide⟩
theorem x_Over (T : Tx P K mg) : XmF P w K mg base (cm0 K) 1 "Over" T.C_Over T.f_Over T.d_Over ["self", "day"] ["day"] := ⟨T.O_Over, T.N_Over, T.Y_Over, T.I_Over w base, T.g_Over, T.m_Over, by decide⟩
theorem x_Nothing (T : Tx P K mg) : XmF P w K mg base (cm0 K) 1 "Nothing" T.C_Nothing T.f_Nothing T.d_Nothing ["self", "part"] ["part"] := ⟨T.O_Nothing, T.N_Nothing, T.Y_Nothing, T.I_Nothing w base, T.g_Nothing, T.m_Nothing, by decide⟩
theorem x_BadText (T : Tx P K mg) : XmF P w K mg base (cm0 K) 1 "BadText" T.C_BadText T.f_BadText T.d_BadText ["self", "item"] ["item"] := ⟨T.O_BadText, T.N_BadText, T.Y_BadText, T.I_BadText w base, T.g_BadText, T.m_BadText, by decide⟩
theorem x_BadLine (T : Tx P K mg) : XmF P w K mg base (cm0 K) 1 "BadLine" T.C_BadLine T.f_BadLine T.d_BadLine ["self", "word"] ["word"] := ⟨T.O_BadLine, T.N_BadLine, T.Y_BadLine, T.I_BadLine w base, T.g_BadLine, T.m_BadLine, by decide⟩
theorem bd__law_well (T : Tx P K mg) : Binds K T.d__law_well ["script"] [] := bind0 T.F__law_well (fun kV doc pm an cdv ct us hl => match us, hl with | [_], _ => rfl)
theorem bd__law_draw (T : Tx P K mg) : Binds K T.d__law_draw ["well", "many"] [] := bind0 T.F__law_draw (fun kV doc pm an cdv ct us hl => match us, hl with | [_, _], _ => rfl)
theorem bd__law_pick (T : Tx P K mg) : Binds K T.d__law_pick ["well", "some"] [] := bind0 T.F__law_pick (fun kV doc pm an cdv ct us hl => match us, hl with | [_, _], _ => rfl)
theorem bd__law_value (T : Tx P K mg) : Binds K T.d__law_value ["well"] [] := bind0 T.F__law_value (fun kV doc pm an cdv ct us hl => match us, hl with | [_], _ => rfl)
theorem bd__law_kinds (T : Tx P K mg) : Binds K T.d__law_kinds ["error"] [] := bind0 T.F__law_kinds (fun kV doc pm an cdv ct us hl => match us, hl with | [_], _ => rfl)
theorem bd__law_raised (T : Tx P K mg) : Binds K T.d__law_raised ["way", "value", "more"] [] := bind0 T.F__law_raised (fun kV doc pm an cdv ct us hl => match us, hl with | [_, _, _], _ => rfl)
theorem bd__law_caught (T : Tx P K mg) : Binds K T.d__law_caught ["way", "value", "more"] [] := bind0 T.F__law_caught (fun kV doc pm an cdv ct us hl => match us, hl with | [_, _, _], _ => rfl)
theorem bd__law_field (T : Tx P K mg) : Binds K T.d__law_field ["way", "error"] [] := bind0 T.F__law_field (fun kV doc pm an cdv ct us hl => match us, hl with | [_, _], _ => rfl)
theorem bd__law_by_name (T : Tx P K mg) : Binds K T.d__law_by_name ["way", "value", "more"] [] := bind0 T.F__law_by_name (fun kV doc pm an cdv ct us hl => match us, hl with | [_, _, _], _ => rfl)
theorem bd_law (T : Tx P K mg) : Binds K T.d_law ["script"] [] := bind0 T.F_law (fun kV doc pm an cdv ct us hl => match us, hl with | [_], _ => rfl)
theorem ok__law_well (T : Tx P K mg) : FnG P w K mg base 1 T.a__law_well T.d__law_well ["script"] (spW K (cm0 K) 1 F__law_well) := by
  exact fnOkW T.F__law_well sc__law_well (fun cdv A outer s H E hr hgd => (css_one (cs_retF (cf_lst (cd_cons (ce_lc (own := [("cell", 1)]) rfl sc__law_well.nd (ci_seq (ce_sl (ce_v 0) co_none (co_some ce_int))) (blkOk_by (own := [("cell", 1)]) (N := N__law_well) (sc := defScope s__law_well) (by decide +kernel)) (by decide) (fun _ _ _ _ _ => (cg_n 1 sc__law_well.nd)) (fun _ _ _ _ _ => cts_nil) (fun _ _ _ _ _ => (ce_calT (call_int1) cad_int rfl T.z_int (show bootBuiltins "int" = some (.type "int") by decide +kernel) (cd_cons (ce_v 1) cd_nil)))) (cd_cons ce_int (cd_cons ce_int cd_nil)))))))
theorem ok__law_draw (T : Tx P K mg) : FnG P w K mg base 1 T.a__law_draw T.d__law_draw ["well", "many"] (spF K (cm0 K) 2 F__law_draw) := by
  exact fnOk T.F__law_draw sc__law_draw (fun cdv A outer s H E hr hgd => (css_cons (cs_if (ct_cmp op_gt opd_gt (ce_ixN 0 ix_seq opl_ix ce_int (fun _ _ => rfl)) ce_int (nomark _)) (css_cons (cs_set 5 (ce_calT (call_int1) cad_int rfl T.z_int (show bootBuiltins "int" = some (.type "int") by decide +kernel) (cd_cons (ce_ixN 0 ix_seq opl_ix ce_int (fun _ _ => rfl)) cd_nil)) sc__law_draw.nd)
  (css_cons (cs_put 0 ce_int (ce_bin op_fdiv opd_fdiv (ce_v 5) (ce_v 1)))
  (css_one (cs_ret (ce_bin op_mod opd_mod (ce_calT (call_int1) cad_int rfl T.z_int (show bootBuiltins "int" = some (.type "int") by decide +kernel) (cd_cons (ce_v 5) cd_nil)) (ce_v 1)))))) css_nil)
  (css_cons (cs_set 2 (ce_ixN 0 ix_seq opl_ix ce_int (fun _ _ => rfl)) sc__law_draw.nd)
  (css_cons (cs_put 0 ce_int (ce_bin op_addU opd_add (ce_v 2) ce_int))
  (css_cons (cs_set 3 (ce_bin op_addU opd_add (ce_bin op_mulU opd_mul ce_int (ce_v 2)) ce_int) sc__law_draw.nd)
  (css_cons (cs_if (ct_cmp (op_neU (by exact hu_r hr)) opd_ne (ce_ixN 0 ix_seq opl_ix ce_int (fun _ _ => rfl)) (ce_lst cd_nil) (nomark _)) (css_one (cs_set 3 (ce_ix ix_seq opd_ix (ce_ixN 0 ix_seq opl_ix ce_int (fun _ _ => rfl)) (ce_bin op_mod opd_mod (ce_calT (call_int1) cad_int rfl T.z_int (show bootBuiltins "int" = some (.type "int") by decide +kernel) (cd_cons (ce_v 2) cd_nil)) (ce_calB (call_lenU) cad_len rfl T.z_len (show bootBuiltins "len" = some (.builtin "len") by decide +kernel) (cd_cons (ce_ixN 0 ix_seq opl_ix ce_int (fun _ _ => rfl)) cd_nil))) (fun _ _ => rfl)) sc__law_draw.nd)) css_nil)
  (css_cons (cs_if (ct_w (cw_and (ct_cmp op_lt opd_lt (ce_v 2) (ce_calB (call_lenU) cad_len rfl T.z_len (show bootBuiltins "len" = some (.builtin "len") by decide +kernel) (cd_cons (ce_ixN 0 ix_seq opl_ix ce_int (fun _ _ => rfl)) cd_nil)) (nomark _)) (cw_and1 (ct_cmp op_ge opd_ge (ce_calB (call_abs) cad_abs rfl T.z_abs (show bootBuiltins "abs" = some (.builtin "abs") by decide +kernel) (cd_cons (ce_v 3) cd_nil)) (ce_bin op_pow opd_pow ce_int ce_int) (nomark _))))) (css_cons (cs_set 5 (ce_bin op_addU opd_add (ce_bin op_mulU opd_mul ce_int (ce_bin op_sub opd_sub (ce_calB (call_abs) cad_abs rfl T.z_abs (show bootBuiltins "abs" = some (.builtin "abs") by decide +kernel) (cd_cons (ce_v 3) cd_nil)) (ce_bin op_pow opd_pow ce_int ce_int))) (ce_calT (call_int1) cad_int rfl T.z_int (show bootBuiltins "int" = some (.type "int") by decide +kernel) (cd_cons (ce_cmp op_lt opd_lt (ce_v 3) ce_int (nomark _)) cd_nil))) sc__law_draw.nd)
  (css_cons (cs_put 0 ce_int (ce_bin op_fdiv opd_fdiv (ce_calT (call_int1) cad_int rfl T.z_int (show bootBuiltins "int" = some (.type "int") by decide +kernel) (cd_cons (ce_v 5) cd_nil)) (ce_v 1)))
  (css_one (cs_ret (ce_bin op_mod opd_mod (ce_calT (call_int1) cad_int rfl T.z_int (show bootBuiltins "int" = some (.type "int") by decide +kernel) (cd_cons (ce_v 5) cd_nil)) (ce_v 1)))))) css_nil)
  (css_cons (cs_set 4 (ce_bin op_mod opd_mod (ce_calT (call_int1) cad_int rfl T.z_int (show bootBuiltins "int" = some (.type "int") by decide +kernel) (cd_cons (ce_bin op_pow opd_pow (ce_bin op_addU opd_add (ce_bin op_addU opd_add (ce_bin op_mod opd_mod (ce_calT (call_int1) cad_int rfl T.z_int (show bootBuiltins "int" = some (.type "int") by decide +kernel) (cd_cons (ce_v 3) cd_nil)) ce_int) (ce_bin op_mulU opd_mul ce_int (ce_v 2))) ce_int) ce_int) cd_nil)) ce_int) sc__law_draw.nd)
  (css_cons (cs_set 4 (ce_bin op_mod opd_mod (ce_calT (call_int1) cad_int rfl T.z_int (show bootBuiltins "int" = some (.type "int") by decide +kernel) (cd_cons (ce_bin op_pow opd_pow (ce_bin op_addU opd_add (ce_bin op_addU opd_add (ce_bin op_mulU opd_mul (ce_v 4) (ce_bin op_addU opd_add (ce_bin op_mulU opd_mul ce_int (ce_v 2)) ce_int)) (ce_bin op_mulU opd_mul (ce_bin op_mulU opd_mul ce_int (ce_v 2)) (ce_v 2))) ce_int) ce_int) cd_nil)) ce_int) sc__law_draw.nd)
  (css_one (cs_ret (ce_bin op_mod opd_mod (ce_calT (call_int1) cad_int rfl T.z_int (show bootBuiltins "int" = some (.type "int") by decide +kernel) (cd_cons (ce_bin op_fdiv opd_fdiv (ce_v 4) ce_int) cd_nil)) (ce_v 1)))))))))))))
theorem ok__law_pick (T : Tx P K mg) : FnG P w K mg base 2 T.a__law_pick T.d__law_pick ["well", "some"] (spF K (cm0 K) 2 F__law_pick) := by
  exact fnOk T.F__law_pick sc__law_pick (fun cdv A outer s H E hr hgd => (css_one (cs_ret (ce_ix ix_seq opd_ix (ce_v 1) (ce_callIo 0 (ok__law_draw T) (hr.mono (by decide)) hgd rfl T.g__law_draw T.F__law_draw.kp (bd__law_draw T) .nil (fun _ => .nil) (cd_cons (ce_calB (call_lenU) cad_len rfl T.z_len (show bootBuiltins "len" = some (.builtin "len") by decide +kernel) (cd_cons (ce_v 1) cd_nil)) cd_nil)) (fun _ _ => rfl)))))
theorem ok__law_value (T : Tx P K mg) : FnG P w K mg base 3 T.a__law_value T.d__law_value ["well"] (spF K (cm0 K) 1 F__law_value) := by
  exact fnOk T.F__law_value sc__law_value (fun cdv A outer s H E hr hgd => (css_cons (cs_set 1 (ce_lst (cd_cons ce_non (cd_cons ce_bl (cd_cons ce_int (cd_cons (ce_un un_neg und_neg ce_int) (cd_cons (ce_bin op_pow opd_pow ce_int ce_int) (cd_cons ce_str (cd_cons ce_str (cd_cons (ce_tup (cd_cons ce_int (cd_cons ce_int cd_nil))) (cd_cons (ce_lst (cd_cons ce_int (cd_cons (ce_lst (cd_cons ce_int cd_nil)) cd_nil))) (cd_cons (ce_dic (CPs.cons ce_str ce_int CPs.nil) (by rfl) (by rfl) (fun z => by cases z) (by decide)) (cd_cons ce_str (cd_cons (ce_tup cd_nil) (cd_cons ce_bl cd_nil)))))))))))))) sc__law_value.nd)
  (css_one (cs_ret (ce_callIo 0 (ok__law_pick T) (hr.mono (by decide)) hgd rfl T.g__law_pick T.F__law_pick.kp (bd__law_pick T) .nil (fun _ => .nil) (cd_cons (ce_v 1) cd_nil))))))
theorem ok__law_kinds (T : Tx P K mg) : FnG P w K mg base 1 T.a__law_kinds T.d__law_kinds ["error"] (spF K (cm0 K) 1 F__law_kinds) := by
  exact fnOk T.F__law_kinds sc__law_kinds (fun cdv A outer s H E hr hgd => (css_cons (cs_set 1 (ce_lst (cd_cons (ce_isC rfl T.z_isinstance (isvB_ok T.s_BadNumber) (ce_v 0) rfl T.g_BadNumber) (cd_cons (ce_isC rfl T.z_isinstance (isvB_ok T.s_BadValue) (ce_v 0) rfl T.g_BadValue) (cd_cons (ce_isC rfl T.z_isinstance (isvB_ok T.s_BadYard) (ce_v 0) rfl T.g_BadYard) (cd_cons (ce_isC rfl T.z_isinstance (isvB_ok T.s_BadCalendar) (ce_v 0) rfl T.g_BadCalendar) cd_nil))))) sc__law_kinds.nd)
  (css_cons (cs_set 1 (ce_bin op_addU opd_add (ce_v 1) (ce_lst (cd_cons (ce_isC rfl T.z_isinstance (isvB_ok T.s_BadStock) (ce_v 0) rfl T.g_BadStock) (cd_cons (ce_isC rfl T.z_isinstance (isvB_ok T.s_BadRow) (ce_v 0) rfl T.g_BadRow) (cd_cons (ce_isC rfl T.z_isinstance (isvB_ok T.s_BadMixture) (ce_v 0) rfl T.g_BadMixture) (cd_cons (ce_isC rfl T.z_isinstance (isvB_ok T.s_Misfit) (ce_v 0) rfl T.g_Misfit) cd_nil)))))) sc__law_kinds.nd)
  (css_cons (cs_set 1 (ce_bin op_addU opd_add (ce_v 1) (ce_lst (cd_cons (ce_isC rfl T.z_isinstance (isvB_ok T.s_Nothing) (ce_v 0) rfl T.g_Nothing) (cd_cons (ce_isC rfl T.z_isinstance (isvB_ok T.s_TooMany) (ce_v 0) rfl T.g_TooMany) (cd_cons (ce_isC rfl T.z_isinstance (isvB_ok T.s_Unkept) (ce_v 0) rfl T.g_Unkept) (cd_cons (ce_isC rfl T.z_isinstance (isvB_ok T.s_Over) (ce_v 0) rfl T.g_Over) cd_nil)))))) sc__law_kinds.nd)
  (css_one (cs_ret (ce_bin op_addU opd_add (ce_v 1) (ce_lst (cd_cons (ce_isC rfl T.z_isinstance (isvB_ok T.s_BadText) (ce_v 0) rfl T.g_BadText) (cd_cons (ce_isC rfl T.z_isinstance (isvB_ok T.s_BadLine) (ce_v 0) rfl T.g_BadLine) cd_nil))))))))))
theorem ok__law_raised (T : Tx P K mg) : FnG P w K mg base 3 T.a__law_raised T.d__law_raised ["way", "value", "more"] (spF K (cm0 K) 3 F__law_raised) := by
  exact fnOk T.F__law_raised sc__law_raised (fun cdv A outer s H E hr hgd => (css_cons (cs_if (ct_cmp (op_eqU (by exact hu_r hr)) opd_eq (ce_v 0) ce_int (nomark _)) (css_one (cs_raiseX (x_BadNumber T) T.b_BadNumber (hr.mono (by decide)) rfl rfl (cd_cons (ce_v 1) cd_nil))) css_nil)
  (css_cons (cs_if (ct_cmp (op_eqU (by exact hu_r hr)) opd_eq (ce_v 0) ce_int (nomark _)) (css_one (cs_raiseN (x_BadValue T) T.kb_BadValue_part (gg' := (fun ws => gIx [.k 0] [] ws [])) (gV' := (fun ws => gIx [.k 0] [] ws [])) (fun _ _ => rfl) (fun _ _ => rfl) (fun _ _ _ h => Rps.nil.gIx h .nil [.k 0]) (hr.mono (by decide)) rfl rfl (ck_cons (ce_v 1) ck_nil) rfl rfl (by decide) rfl rfl)) css_nil)
  (css_cons (cs_if (ct_cmp (op_eqU (by exact hu_r hr)) opd_eq (ce_v 0) ce_int (nomark _)) (css_one (cs_raiseX (x_BadYard T) T.b_BadYard (hr.mono (by decide)) rfl rfl (cd_cons (ce_v 1) cd_nil))) css_nil)
  (css_cons (cs_if (ct_cmp (op_eqU (by exact hu_r hr)) opd_eq (ce_v 0) ce_int (nomark _)) (css_one (cs_raiseX (x_BadCalendar T) T.b_BadCalendar (hr.mono (by decide)) rfl rfl (cd_cons (ce_v 1) cd_nil))) css_nil)
  (css_cons (cs_if (ct_cmp (op_eqU (by exact hu_r hr)) opd_eq (ce_v 0) ce_int (nomark _)) (css_one (cs_raiseN (x_BadStock T) T.kb_BadStock_part (gg' := (fun ws => gIx [.k 0] [] ws [])) (gV' := (fun ws => gIx [.k 0] [] ws [])) (fun _ _ => rfl) (fun _ _ => rfl) (fun _ _ _ h => Rps.nil.gIx h .nil [.k 0]) (hr.mono (by decide)) rfl rfl (ck_cons (ce_v 1) ck_nil) rfl rfl (by decide) rfl rfl)) css_nil)
  (css_cons (cs_if (ct_cmp (op_eqU (by exact hu_r hr)) opd_eq (ce_v 0) ce_int (nomark _)) (css_one (cs_raiseX (x_BadRow T) T.b_BadRow (hr.mono (by decide)) rfl rfl (cd_cons (ce_v 1) cd_nil))) css_nil)
  (css_cons (cs_if (ct_cmp (op_eqU (by exact hu_r hr)) opd_eq (ce_v 0) ce_int (nomark _)) (css_one (cs_raiseX (x_BadMixture T) T.b_BadMixture (hr.mono (by decide)) rfl rfl (cd_cons (ce_v 1) cd_nil))) css_nil)
  (css_cons (cs_if (ct_cmp (op_eqU (by exact hu_r hr)) opd_eq (ce_v 0) ce_int (nomark _)) (css_one (cs_raiseN (x_Misfit T) T.kb_Misfit_part (gg' := (fun ws => gIx [.k 0] [] ws [])) (gV' := (fun ws => gIx [.k 0] [] ws [])) (fun _ _ => rfl) (fun _ _ => rfl) (fun _ _ _ h => Rps.nil.gIx h .nil [.k 0]) (hr.mono (by decide)) rfl rfl (ck_cons (ce_v 1) ck_nil) rfl rfl (by decide) rfl rfl)) css_nil)
  (css_cons (cs_if (ct_cmp (op_eqU (by exact hu_r hr)) opd_eq (ce_v 0) ce_int (nomark _)) (css_one (cs_raiseX (x_Nothing T) T.b_Nothing (hr.mono (by decide)) rfl rfl (cd_cons (ce_v 1) cd_nil))) css_nil)
  (css_cons (cs_if (ct_cmp (op_eqU (by exact hu_r hr)) opd_eq (ce_v 0) ce_int (nomark _)) (css_one (cs_raiseX (x_TooMany T) T.b_TooMany (hr.mono (by decide)) rfl rfl (cd_cons (ce_v 1) (cd_cons (ce_v 2) cd_nil)))) css_nil)
  (css_cons (cs_if (ct_cmp (op_eqU (by exact hu_r hr)) opd_eq (ce_v 0) ce_int (nomark _)) (css_one (cs_raiseN (x_Unkept T) T.kb_Unkept_paper (gg' := (fun ws => gIx [.k 0] [] ws [])) (gV' := (fun ws => gIx [.k 0] [] ws [])) (fun _ _ => rfl) (fun _ _ => rfl) (fun _ _ _ h => Rps.nil.gIx h .nil [.k 0]) (hr.mono (by decide)) rfl rfl (ck_cons (ce_v 1) ck_nil) rfl rfl (by decide) rfl rfl)) css_nil)
  (css_cons (cs_if (ct_cmp (op_eqU (by exact hu_r hr)) opd_eq (ce_v 0) ce_int (nomark _)) (css_one (cs_raiseX (x_Over T) T.b_Over (hr.mono (by decide)) rfl rfl (cd_cons (ce_v 1) cd_nil))) css_nil)
  (css_cons (cs_if (ct_cmp (op_eqU (by exact hu_r hr)) opd_eq (ce_v 0) ce_int (nomark _)) (css_one (cs_raiseN (x_BadText T) T.kb_BadText_item (gg' := (fun ws => gIx [.k 0] [] ws [])) (gV' := (fun ws => gIx [.k 0] [] ws [])) (fun _ _ => rfl) (fun _ _ => rfl) (fun _ _ _ h => Rps.nil.gIx h .nil [.k 0]) (hr.mono (by decide)) rfl rfl (ck_cons (ce_v 1) ck_nil) rfl rfl (by decide) rfl rfl)) css_nil)
  (css_one (cs_raiseX (x_BadLine T) T.b_BadLine (hr.mono (by decide)) rfl rfl (cd_cons (ce_v 1) cd_nil)))))))))))))))))
theorem ok__law_caught (T : Tx P K mg) : FnG P w K mg base 4 T.a__law_caught T.d__law_caught ["way", "value", "more"] (spF K (cm0 K) 3 F__law_caught) := by
  exact fnOk T.F__law_caught sc__law_caught (fun cdv A outer s H E hr hgd => (css_cons (cs_set 3 ce_non sc__law_caught.nd)
  (css_cons (cs_try 4 rfl rfl sc__law_caught.nd rfl T.g_RoundError (exmB_ok T.e_RoundError) (fun _ _ => (css_one (cs_expr (ce_call (ok__law_raised T) (hr.mono (by decide)) hgd rfl T.g__law_raised T.F__law_raised.kp (bd__law_raised T) .nil (fun _ => .nil) (cd_cons (ce_v 0) (cd_cons (ce_v 1) (cd_cons (ce_v 2) cd_nil))))))) (fun _ _ => (css_one (cs_set 3 (ce_v 4) sc__law_caught.nd))))
  (css_one (cs_ret (ce_v 3))))))
theorem ok__law_field (T : Tx P K mg) : FnG P w K mg base 1 T.a__law_field T.d__law_field ["way", "error"] (spF K (cm0 K) 2 F__law_field) := by
  exact fnOk T.F__law_field sc__law_field (fun cdv A outer s H E hr hgd => (css_cons (cs_if (ct_cmp op_lt opd_lt (ce_v 0) ce_int (nomark _)) (css_one (cs_ret (ce_lst (cd_cons (ce_fld (fldB_ok T.q_part) (ce_v 1)) cd_nil)))) css_nil)
  (css_cons (cs_if (ct_cmp (op_eqU (by exact hu_r hr)) opd_eq (ce_v 0) ce_int (nomark _)) (css_one (cs_ret (ce_lst (cd_cons (ce_fld (fldB_ok T.q_what) (ce_v 1)) (cd_cons (ce_fld (fldB_ok T.q_most) (ce_v 1)) cd_nil))))) css_nil)
  (css_cons (cs_if (ct_cmp (op_eqU (by exact hu_r hr)) opd_eq (ce_v 0) ce_int (nomark _)) (css_one (cs_ret (ce_lst (cd_cons (ce_fld (fldB_ok T.q_paper) (ce_v 1)) cd_nil)))) css_nil)
  (css_cons (cs_if (ct_cmp (op_eqU (by exact hu_r hr)) opd_eq (ce_v 0) ce_int (nomark _)) (css_one (cs_ret (ce_lst (cd_cons (ce_fld (fldB_ok T.q_day) (ce_v 1)) cd_nil)))) css_nil)
  (css_one (cs_ret (ce_if (ct_cmp (op_eqU (by exact hu_r hr)) opd_eq (ce_v 0) ce_int (nomark _)) (ce_lst (cd_cons (ce_fld (fldB_ok T.q_item) (ce_v 1)) cd_nil)) (ce_lst (cd_cons (ce_fld (fldB_ok T.q_word) (ce_v 1)) cd_nil))))))))))
theorem ok__law_by_name (T : Tx P K mg) : FnG P w K mg base 3 T.a__law_by_name T.d__law_by_name ["way", "value", "more"] (spF K (cm0 K) 3 F__law_by_name) := by
  exact fnOk T.F__law_by_name sc__law_by_name (fun cdv A outer s H E hr hgd => (css_cons (cs_if (ct_cmp (op_eqU (by exact hu_r hr)) opd_eq (ce_v 0) ce_int (nomark _)) (css_one (cs_ret (ce_excN (x_TooMany T) T.kb_TooMany_most_what (gg' := (fun ws => gIx [.k 1, .k 0] [] ws [])) (gV' := (fun ws => gIx [.k 1, .k 0] [] ws [])) (fun _ _ => rfl) (fun _ _ => rfl) (fun _ _ _ h => Rps.nil.gIx h .nil [.k 1, .k 0]) (hr.mono (by decide)) rfl (ck_cons (ce_v 2) (ck_cons (ce_v 1) ck_nil)) rfl rfl (by decide) rfl rfl))) css_nil)
  (css_cons (cs_if (ct_cmp (op_eqU (by exact hu_r hr)) opd_eq (ce_v 0) ce_int (nomark _)) (css_one (cs_ret (ce_excN (x_BadYard T) T.kb_BadYard_part (gg' := (fun ws => gIx [.k 0] [] ws [])) (gV' := (fun ws => gIx [.k 0] [] ws [])) (fun _ _ => rfl) (fun _ _ => rfl) (fun _ _ _ h => Rps.nil.gIx h .nil [.k 0]) (hr.mono (by decide)) rfl (ck_cons (ce_v 1) ck_nil) rfl rfl (by decide) rfl rfl))) css_nil)
  (css_cons (cs_if (ct_cmp (op_eqU (by exact hu_r hr)) opd_eq (ce_v 0) ce_int (nomark _)) (css_one (cs_ret (ce_excN (x_BadCalendar T) T.kb_BadCalendar_part (gg' := (fun ws => gIx [.k 0] [] ws [])) (gV' := (fun ws => gIx [.k 0] [] ws [])) (fun _ _ => rfl) (fun _ _ => rfl) (fun _ _ _ h => Rps.nil.gIx h .nil [.k 0]) (hr.mono (by decide)) rfl (ck_cons (ce_v 1) ck_nil) rfl rfl (by decide) rfl rfl))) css_nil)
  (css_cons (cs_if (ct_cmp (op_eqU (by exact hu_r hr)) opd_eq (ce_v 0) ce_int (nomark _)) (css_one (cs_ret (ce_excN (x_BadRow T) T.kb_BadRow_part (gg' := (fun ws => gIx [.k 0] [] ws [])) (gV' := (fun ws => gIx [.k 0] [] ws [])) (fun _ _ => rfl) (fun _ _ => rfl) (fun _ _ _ h => Rps.nil.gIx h .nil [.k 0]) (hr.mono (by decide)) rfl (ck_cons (ce_v 1) ck_nil) rfl rfl (by decide) rfl rfl))) css_nil)
  (css_cons (cs_if (ct_cmp (op_eqU (by exact hu_r hr)) opd_eq (ce_v 0) ce_int (nomark _)) (css_one (cs_ret (ce_excN (x_BadMixture T) T.kb_BadMixture_part (gg' := (fun ws => gIx [.k 0] [] ws [])) (gV' := (fun ws => gIx [.k 0] [] ws [])) (fun _ _ => rfl) (fun _ _ => rfl) (fun _ _ _ h => Rps.nil.gIx h .nil [.k 0]) (hr.mono (by decide)) rfl (ck_cons (ce_v 1) ck_nil) rfl rfl (by decide) rfl rfl))) css_nil)
  (css_cons (cs_if (ct_cmp (op_eqU (by exact hu_r hr)) opd_eq (ce_v 0) ce_int (nomark _)) (css_one (cs_ret (ce_excN (x_Nothing T) T.kb_Nothing_part (gg' := (fun ws => gIx [.k 0] [] ws [])) (gV' := (fun ws => gIx [.k 0] [] ws [])) (fun _ _ => rfl) (fun _ _ => rfl) (fun _ _ _ h => Rps.nil.gIx h .nil [.k 0]) (hr.mono (by decide)) rfl (ck_cons (ce_v 1) ck_nil) rfl rfl (by decide) rfl rfl))) css_nil)
  (css_cons (cs_if (ct_cmp (op_eqU (by exact hu_r hr)) opd_eq (ce_v 0) ce_int (nomark _)) (css_one (cs_ret (ce_excN (x_Over T) T.kb_Over_day (gg' := (fun ws => gIx [.k 0] [] ws [])) (gV' := (fun ws => gIx [.k 0] [] ws [])) (fun _ _ => rfl) (fun _ _ => rfl) (fun _ _ _ h => Rps.nil.gIx h .nil [.k 0]) (hr.mono (by decide)) rfl (ck_cons (ce_v 1) ck_nil) rfl rfl (by decide) rfl rfl))) css_nil)
  (css_one (cs_ret (ce_if (ct_cmp (op_eqU (by exact hu_r hr)) opd_eq (ce_v 0) ce_int (nomark _)) (ce_excN (x_BadLine T) T.kb_BadLine_word (gg' := (fun ws => gIx [.k 0] [] ws [])) (gV' := (fun ws => gIx [.k 0] [] ws [])) (fun _ _ => rfl) (fun _ _ => rfl) (fun _ _ _ h => Rps.nil.gIx h .nil [.k 0]) (hr.mono (by decide)) rfl (ck_cons (ce_v 1) ck_nil) rfl rfl (by decide) rfl rfl) (ce_excN (x_BadNumber T) T.kb_BadNumber_part (gg' := (fun ws => gIx [.k 0] [] ws [])) (gV' := (fun ws => gIx [.k 0] [] ws [])) (fun _ _ => rfl) (fun _ _ => rfl) (fun _ _ _ h => Rps.nil.gIx h .nil [.k 0]) (hr.mono (by decide)) rfl (ck_cons (ce_v 1) ck_nil) rfl rfl (by decide) rfl rfl))))))))))))
theorem ok_law (T : Tx P K mg) : FnG P w K mg base 5 T.a_law T.d_law ["script"] (spF K (cm0 K) 1 F_law) := by
  exact fnOk T.F_law sc_law (fun cdv A outer s H E hr hgd => (css_cons (cs_own 1 (cf_call (ok__law_well T) (hr.mono (by decide)) hgd rfl T.g__law_well T.F__law_well.kp (bd__law_well T) .nil (fun _ => .nil) (cd_cons (ce_v 0) cd_nil)) sc_law.nd)
  (css_cons (cs_for rfl (ci_rng1 rfl T.z_range (cd_cons ce_int cd_nil)) (cg_n 2 sc_law.nd) (css_cons (cs_par 4 5 rfl sc_law.nd (cd_cons (ce_callIo 1 (ok__law_value T) (hr.mono (by decide)) hgd rfl T.g__law_value T.F__law_value.kp (bd__law_value T) .nil (fun _ => .nil) cd_nil) (cd_cons (ce_callIo 1 (ok__law_value T) (hr.mono (by decide)) hgd rfl T.g__law_value T.F__law_value.kp (bd__law_value T) .nil (fun _ => .nil) cd_nil) cd_nil)))
  (css_cons (cs_set 6 (ce_call (ok__law_caught T) (hr.mono (by decide)) hgd rfl T.g__law_caught T.F__law_caught.kp (bd__law_caught T) .nil (fun _ => .nil) (cd_cons (ce_v 2) (cd_cons (ce_v 4) (cd_cons (ce_v 5) cd_nil)))) sc_law.nd)
  (css_cons (cs_if (ct_w (cw_or (ct_cmp op_isU opd_is (ce_v 6) ce_non (nomark _)) (cw_or (ct_not (ct_tru (ce_isB (T := "ValueError") rfl T.z_isinstance (isvB_ok T.s_ValueError) (ce_v 6) rfl T.z_ValueError (show bootBuiltins "ValueError" = some (.type "ValueError") by decide +kernel)))) (cw_or1 (ct_cmp (op_neU (by exact hu_r hr)) opd_ne (ce_calB (call_reprD hgd (by exact hu_r hr)) cad_reprD rfl T.z_repr (show bootBuiltins "repr" = some (.builtin "repr") by decide +kernel) (cd_cons (ce_call (ok__law_kinds T) (hr.mono (by decide)) hgd rfl T.g__law_kinds T.F__law_kinds.kp (bd__law_kinds T) .nil (fun _ => .nil) (cd_cons (ce_v 6) cd_nil)) cd_nil)) (ce_calB (call_reprD hgd (by exact hu_r hr)) cad_reprD rfl T.z_repr (show bootBuiltins "repr" = some (.builtin "repr") by decide +kernel) (cd_cons (ce_lc (own := [("at", 7)]) rfl sc_law.nd (ci_rng1 rfl T.z_range (cd_cons ce_int cd_nil)) (blkOk_by (own := [("at", 7)]) (N := N_law) (sc := defScope s_law) (by decide +kernel)) (by decide) (fun _ _ _ _ _ => (cg_n 7 sc_law.nd)) (fun _ _ _ _ _ => cts_nil) (fun _ _ _ _ _ => (ce_cmp (op_eqU (by exact hu_r hr)) opd_eq (ce_v 7) (ce_v 2) (nomark _)))) cd_nil)) (nomark _)))))) (css_one (cs_ret ce_bl)) css_nil)
  (css_cons (cs_if (ct_cmp (op_neU (by exact hu_r hr)) opd_ne (ce_calB (call_reprD hgd (by exact hu_r hr)) cad_reprD rfl T.z_repr (show bootBuiltins "repr" = some (.builtin "repr") by decide +kernel) (cd_cons (ce_call (ok__law_field T) (hr.mono (by decide)) hgd rfl T.g__law_field T.F__law_field.kp (bd__law_field T) .nil (fun _ => .nil) (cd_cons (ce_v 2) (cd_cons (ce_v 6) cd_nil))) cd_nil)) (ce_calB (call_reprD hgd (by exact hu_r hr)) cad_reprD rfl T.z_repr (show bootBuiltins "repr" = some (.builtin "repr") by decide +kernel) (cd_cons (ce_bin op_addU opd_add (ce_lst (cd_cons (ce_v 4) cd_nil)) (ce_bin op_mulU opd_mul (ce_lst (cd_cons (ce_v 5) cd_nil)) (ce_calT (call_int1) cad_int rfl T.z_int (show bootBuiltins "int" = some (.type "int") by decide +kernel) (cd_cons (ce_cmp (op_eqU (by exact hu_r hr)) opd_eq (ce_v 2) ce_int (nomark _)) cd_nil)))) cd_nil)) (nomark _)) (css_one (cs_ret ce_bl)) css_nil)
  (css_one (cs_if (ct_w (cw_and (ct_cmp (op_inD (by exact hu_r hr)) (OpR'.opd opr_in) (ce_v 2) (ce_lst (cd_cons ce_int (cd_cons ce_int (cd_cons ce_int (cd_cons ce_int (cd_cons ce_int (cd_cons ce_int (cd_cons ce_int (cd_cons ce_int cd_nil))))))))) (by rfl)) (cw_and1 (ct_cmp (op_neU (by exact hu_r hr)) opd_ne (ce_calB (call_reprD hgd (by exact hu_r hr)) cad_reprD rfl T.z_repr (show bootBuiltins "repr" = some (.builtin "repr") by decide +kernel) (cd_cons (ce_call (ok__law_field T) (hr.mono (by decide)) hgd rfl T.g__law_field T.F__law_field.kp (bd__law_field T) .nil (fun _ => .nil) (cd_cons (ce_v 2) (cd_cons (ce_call (ok__law_by_name T) (hr.mono (by decide)) hgd rfl T.g__law_by_name T.F__law_by_name.kp (bd__law_by_name T) .nil (fun _ => .nil) (cd_cons (ce_v 2) (cd_cons (ce_v 4) (cd_cons (ce_v 5) cd_nil)))) cd_nil))) cd_nil)) (ce_calB (call_reprD hgd (by exact hu_r hr)) cad_reprD rfl T.z_repr (show bootBuiltins "repr" = some (.builtin "repr") by decide +kernel) (cd_cons (ce_bin op_addU opd_add (ce_lst (cd_cons (ce_v 4) cd_nil)) (ce_bin op_mulU opd_mul (ce_lst (cd_cons (ce_v 5) cd_nil)) (ce_calT (call_int1) cad_int rfl T.z_int (show bootBuiltins "int" = some (.type "int") by decide +kernel) (cd_cons (ce_cmp (op_eqU (by exact hu_r hr)) opd_eq (ce_v 2) ce_int (nomark _)) cd_nil)))) cd_nil)) (nomark _))))) (css_one (cs_ret ce_bl)) css_nil)))))))
  (css_cons (cs_set 3 (ce_exc0 PySem.F.excBase_ValueError T.q0_RoundError T.g_RoundError T.k_RoundError T.m_RoundError rfl (cd_cons ce_str (cd_cons ce_int cd_nil))) sc_law.nd)
  (css_one (cs_ret (ce_and (ce_isB (T := "ValueError") rfl T.z_isinstance (isvB_ok T.s_ValueError) (ce_v 3) rfl T.z_ValueError (show bootBuiltins "ValueError" = some (.type "ValueError") by decide +kernel)) (ce_one (ce_cmp (op_notInD (by exact hu_r hr)) (OpR'.opd opr_notIn) ce_bl (ce_call (ok__law_kinds T) (hr.mono (by decide)) hgd rfl T.g__law_kinds T.F__law_kinds.kp (bd__law_kinds T) .nil (fun _ => .nil) (cd_cons (ce_v 3) cd_nil)) (by rfl))))))))))
end
theorem all_mk {l : PySem.W.OpenLaw} {w : World} {K : PySem.W.Frag} {h : Heap} {mg : Str → Option Value} {fa : Addr} (X : K.In h) (G : h.Ns mainGlobals mg) (hfa : mg "law" = some (.ref fa))
    {f0 : Addr} {od0 an0 : Option Addr} {sl0 : Array (Option Value)} {oc0 kV0 dc0 pm0 cd0 ct0 : Value}
    (a0 : PySem.W.nsIn K mainGlobals "_law_well" = some (some (.ref f0)))
    (l0 : K.lookup f0 = some ⟨oc0, od0, .func (PySem.W.fnOf "_law_well" "_law_well" (defArgs s__law_well) (defBody s__law_well) (defScope s__law_well) .none kV0 dc0 pm0 an0 cd0 ct0), sl0⟩)
    (c0 : PySem.W.codeIn K cd0 "_law_well" = true) (k0 : PySem.W.keepIn K (.ref f0) = true)
    {f1 : Addr} {od1 an1 : Option Addr} {sl1 : Array (Option Value)} {oc1 kV1 dc1 pm1 cd1 ct1 : Value}
    (a1 : PySem.W.nsIn K mainGlobals "_law_draw" = some (some (.ref f1)))
    (l1 : K.lookup f1 = some ⟨oc1, od1, .func (PySem.W.fnOf "_law_draw" "_law_draw" (defArgs s__law_draw) (defBody s__law_draw) (defScope s__law_draw) .none kV1 dc1 pm1 an1 cd1 ct1), sl1⟩)
    (c1 : PySem.W.codeIn K cd1 "_law_draw" = true) (k1 : PySem.W.keepIn K (.ref f1) = true)
    {f2 : Addr} {od2 an2 : Option Addr} {sl2 : Array (Option Value)} {oc2 kV2 dc2 pm2 cd2 ct2 : Value}
    (a2 : PySem.W.nsIn K mainGlobals "_law_pick" = some (some (.ref f2)))
    (l2 : K.lookup f2 = some ⟨oc2, od2, .func (PySem.W.fnOf "_law_pick" "_law_pick" (defArgs s__law_pick) (defBody s__law_pick) (defScope s__law_pick) .none kV2 dc2 pm2 an2 cd2 ct2), sl2⟩)
    (c2 : PySem.W.codeIn K cd2 "_law_pick" = true) (k2 : PySem.W.keepIn K (.ref f2) = true)
    {f3 : Addr} {od3 an3 : Option Addr} {sl3 : Array (Option Value)} {oc3 kV3 dc3 pm3 cd3 ct3 : Value}
    (a3 : PySem.W.nsIn K mainGlobals "_law_value" = some (some (.ref f3)))
    (l3 : K.lookup f3 = some ⟨oc3, od3, .func (PySem.W.fnOf "_law_value" "_law_value" (defArgs s__law_value) (defBody s__law_value) (defScope s__law_value) .none kV3 dc3 pm3 an3 cd3 ct3), sl3⟩)
    (c3 : PySem.W.codeIn K cd3 "_law_value" = true) (k3 : PySem.W.keepIn K (.ref f3) = true)
    {f4 : Addr} {od4 an4 : Option Addr} {sl4 : Array (Option Value)} {oc4 kV4 dc4 pm4 cd4 ct4 : Value}
    (a4 : PySem.W.nsIn K mainGlobals "_law_kinds" = some (some (.ref f4)))
    (l4 : K.lookup f4 = some ⟨oc4, od4, .func (PySem.W.fnOf "_law_kinds" "_law_kinds" (defArgs s__law_kinds) (defBody s__law_kinds) (defScope s__law_kinds) .none kV4 dc4 pm4 an4 cd4 ct4), sl4⟩)
    (c4 : PySem.W.codeIn K cd4 "_law_kinds" = true) (k4 : PySem.W.keepIn K (.ref f4) = true)
    {f5 : Addr} {od5 an5 : Option Addr} {sl5 : Array (Option Value)} {oc5 kV5 dc5 pm5 cd5 ct5 : Value}
    (a5 : PySem.W.nsIn K mainGlobals "_law_raised" = some (some (.ref f5)))
    (l5 : K.lookup f5 = some ⟨oc5, od5, .func (PySem.W.fnOf "_law_raised" "_law_raised" (defArgs s__law_raised) (defBody s__law_raised) (defScope s__law_raised) .none kV5 dc5 pm5 an5 cd5 ct5), sl5⟩)
    (c5 : PySem.W.codeIn K cd5 "_law_raised" = true) (k5 : PySem.W.keepIn K (.ref f5) = true)
    {f6 : Addr} {od6 an6 : Option Addr} {sl6 : Array (Option Value)} {oc6 kV6 dc6 pm6 cd6 ct6 : Value}
    (a6 : PySem.W.nsIn K mainGlobals "_law_caught" = some (some (.ref f6)))
    (l6 : K.lookup f6 = some ⟨oc6, od6, .func (PySem.W.fnOf "_law_caught" "_law_caught" (defArgs s__law_caught) (defBody s__law_caught) (defScope s__law_caught) .none kV6 dc6 pm6 an6 cd6 ct6), sl6⟩)
    (c6 : PySem.W.codeIn K cd6 "_law_caught" = true) (k6 : PySem.W.keepIn K (.ref f6) = true)
    {f7 : Addr} {od7 an7 : Option Addr} {sl7 : Array (Option Value)} {oc7 kV7 dc7 pm7 cd7 ct7 : Value}
    (a7 : PySem.W.nsIn K mainGlobals "_law_field" = some (some (.ref f7)))
    (l7 : K.lookup f7 = some ⟨oc7, od7, .func (PySem.W.fnOf "_law_field" "_law_field" (defArgs s__law_field) (defBody s__law_field) (defScope s__law_field) .none kV7 dc7 pm7 an7 cd7 ct7), sl7⟩)
    (c7 : PySem.W.codeIn K cd7 "_law_field" = true) (k7 : PySem.W.keepIn K (.ref f7) = true)
    {f8 : Addr} {od8 an8 : Option Addr} {sl8 : Array (Option Value)} {oc8 kV8 dc8 pm8 cd8 ct8 : Value}
    (a8 : PySem.W.nsIn K mainGlobals "_law_by_name" = some (some (.ref f8)))
    (l8 : K.lookup f8 = some ⟨oc8, od8, .func (PySem.W.fnOf "_law_by_name" "_law_by_name" (defArgs s__law_by_name) (defBody s__law_by_name) (defScope s__law_by_name) .none kV8 dc8 pm8 an8 cd8 ct8), sl8⟩)
    (c8 : PySem.W.codeIn K cd8 "_law_by_name" = true) (k8 : PySem.W.keepIn K (.ref f8) = true)
    {f9 : Addr} {od9 an9 : Option Addr} {sl9 : Array (Option Value)} {oc9 kV9 dc9 pm9 cd9 ct9 : Value}
    (a9 : PySem.W.nsIn K mainGlobals "law" = some (some (.ref f9)))
    (l9 : K.lookup f9 = some ⟨oc9, od9, .func (PySem.W.fnOf "law" "law" (defArgs s_law) (defBody s_law) (defScope s_law) .none kV9 dc9 pm9 an9 cd9 ct9), sl9⟩)
    (c9 : PySem.W.codeIn K cd9 "law" = true) (k9 : PySem.W.keepIn K (.ref f9) = true)
    (z_ValueError : PySem.W.nsIn K mainGlobals "ValueError" = some none)
    (z_abs : PySem.W.nsIn K mainGlobals "abs" = some none)
    (z_int : PySem.W.nsIn K mainGlobals "int" = some none)
    (z_isinstance : PySem.W.nsIn K mainGlobals "isinstance" = some none)
    (z_len : PySem.W.nsIn K mainGlobals "len" = some none)
    (z_range : PySem.W.nsIn K mainGlobals "range" = some none)
    (z_repr : PySem.W.nsIn K mainGlobals "repr" = some none)
    (z_super : PySem.W.nsIn K mainGlobals "super" = some none)
    {C0 : Addr}
    (A0 : PySem.W.nsIn K mainGlobals "RoundError" = some (some (.ref C0)))
    (K0 : PySem.W.keepIn K (.ref C0) = true) (Q0 : PySem.W.excIn K C0 [.type "ValueError", .type "Exception", .type "BaseException", .type "object"] "ValueError.__new__" = true)
    (e0 : exmB K ["RoundError", "BadNumber", "BadValue", "BadYard", "BadCalendar", "BadRow", "BadStock", "BadMixture", "Misfit", "TooMany", "Unkept", "Over", "Nothing", "BadText", "BadLine"] sub0 "RoundError" C0 = true)
    {C1 : Addr}
    (A1 : PySem.W.nsIn K mainGlobals "BadNumber" = some (some (.ref C1)))
    {nm1 qn1 : Str} {N1 : Addr} {bs1 bm1 sb1 : List Value} {sn1 : List Str} {ab1 : Bool} {cl1 : Option Bool} {ddd1 : Option Addr} {k01 k11 k21 k31 k51 : Option Value}
    (L1 : K.lookup C1 = some (excClassObj nm1 qn1 C1 N1 bs1 bm1 true sn1 sb1 ab1 cl1 ddd1 k01 k11 k21 k31 k51 "ValueError.__new__"))
    (O1 : oxB K C1 bm1 = true)
    {if1 : Addr} (I1 : PySem.W.findIn K (.ref C1) "__init__" = some (some (.ref if1)))
    {ioc1 ikV1 idc1 ipm1 ict1 : Value} {iod1 ian1 : Option Addr} {isl1 : Array (Option Value)} {ida1 icc1 : Addr}
    (M1 : K.lookup if1 = some ⟨ioc1, iod1, .func (PySem.W.ksFn "__init__" "BadNumber.__init__" (defArgs s_BadNumber) (defBody s_BadNumber) (defScope s_BadNumber) .none ikV1 idc1 ipm1 ian1 (.ref ida1) ict1 icc1), isl1⟩)
    (S1 : supB l.prog K C1 C1 if1 ida1 icc1 "BadNumber.__init__" = true)
    (h1_0 : PySem.W.findIn K (.ref C1) "part" = some none)
    (s1 : isvB K [] ["RoundError", "BadNumber", "BadValue", "BadYard", "BadCalendar", "BadRow", "BadStock", "BadMixture", "Misfit", "TooMany", "Unkept", "Over", "Nothing", "BadText", "BadLine"] sub0 "BadNumber" (.ref C1) = true)
    {C2 : Addr}
    (A2 : PySem.W.nsIn K mainGlobals "BadValue" = some (some (.ref C2)))
    {nm2 qn2 : Str} {N2 : Addr} {bs2 bm2 sb2 : List Value} {sn2 : List Str} {ab2 : Bool} {cl2 : Option Bool} {ddd2 : Option Addr} {k02 k12 k22 k32 k52 : Option Value}
    (L2 : K.lookup C2 = some (excClassObj nm2 qn2 C2 N2 bs2 bm2 true sn2 sb2 ab2 cl2 ddd2 k02 k12 k22 k32 k52 "ValueError.__new__"))
    (O2 : oxB K C2 bm2 = true)
    {if2 : Addr} (I2 : PySem.W.findIn K (.ref C2) "__init__" = some (some (.ref if2)))
    {ioc2 ikV2 idc2 ipm2 ict2 : Value} {iod2 ian2 : Option Addr} {isl2 : Array (Option Value)} {ida2 icc2 : Addr}
    (M2 : K.lookup if2 = some ⟨ioc2, iod2, .func (PySem.W.ksFn "__init__" "BadValue.__init__" (defArgs s_BadValue) (defBody s_BadValue) (defScope s_BadValue) .none ikV2 idc2 ipm2 ian2 (.ref ida2) ict2 icc2), isl2⟩)
    (S2 : supB l.prog K C2 C2 if2 ida2 icc2 "BadValue.__init__" = true)
    (h2_0 : PySem.W.findIn K (.ref C2) "part" = some none)
    (s2 : isvB K [] ["RoundError", "BadNumber", "BadValue", "BadYard", "BadCalendar", "BadRow", "BadStock", "BadMixture", "Misfit", "TooMany", "Unkept", "Over", "Nothing", "BadText", "BadLine"] sub0 "BadValue" (.ref C2) = true)
    {C3 : Addr}
    (A3 : PySem.W.nsIn K mainGlobals "BadYard" = some (some (.ref C3)))
    {nm3 qn3 : Str} {N3 : Addr} {bs3 bm3 sb3 : List Value} {sn3 : List Str} {ab3 : Bool} {cl3 : Option Bool} {ddd3 : Option Addr} {k03 k13 k23 k33 k53 : Option Value}
    (L3 : K.lookup C3 = some (excClassObj nm3 qn3 C3 N3 bs3 bm3 true sn3 sb3 ab3 cl3 ddd3 k03 k13 k23 k33 k53 "ValueError.__new__"))
    (O3 : oxB K C3 bm3 = true)
    {if3 : Addr} (I3 : PySem.W.findIn K (.ref C3) "__init__" = some (some (.ref if3)))
    {ioc3 ikV3 idc3 ipm3 ict3 : Value} {iod3 ian3 : Option Addr} {isl3 : Array (Option Value)} {ida3 icc3 : Addr}
    (M3 : K.lookup if3 = some ⟨ioc3, iod3, .func (PySem.W.ksFn "__init__" "BadYard.__init__" (defArgs s_BadYard) (defBody s_BadYard) (defScope s_BadYard) .none ikV3 idc3 ipm3 ian3 (.ref ida3) ict3 icc3), isl3⟩)
    (S3 : supB l.prog K C3 C3 if3 ida3 icc3 "BadYard.__init__" = true)
    (h3_0 : PySem.W.findIn K (.ref C3) "part" = some none)
    (s3 : isvB K [] ["RoundError", "BadNumber", "BadValue", "BadYard", "BadCalendar", "BadRow", "BadStock", "BadMixture", "Misfit", "TooMany", "Unkept", "Over", "Nothing", "BadText", "BadLine"] sub0 "BadYard" (.ref C3) = true)
    {C4 : Addr}
    (A4 : PySem.W.nsIn K mainGlobals "BadCalendar" = some (some (.ref C4)))
    {nm4 qn4 : Str} {N4 : Addr} {bs4 bm4 sb4 : List Value} {sn4 : List Str} {ab4 : Bool} {cl4 : Option Bool} {ddd4 : Option Addr} {k04 k14 k24 k34 k54 : Option Value}
    (L4 : K.lookup C4 = some (excClassObj nm4 qn4 C4 N4 bs4 bm4 true sn4 sb4 ab4 cl4 ddd4 k04 k14 k24 k34 k54 "ValueError.__new__"))
    (O4 : oxB K C4 bm4 = true)
    {if4 : Addr} (I4 : PySem.W.findIn K (.ref C4) "__init__" = some (some (.ref if4)))
    {ioc4 ikV4 idc4 ipm4 ict4 : Value} {iod4 ian4 : Option Addr} {isl4 : Array (Option Value)} {ida4 icc4 : Addr}
    (M4 : K.lookup if4 = some ⟨ioc4, iod4, .func (PySem.W.ksFn "__init__" "BadCalendar.__init__" (defArgs s_BadCalendar) (defBody s_BadCalendar) (defScope s_BadCalendar) .none ikV4 idc4 ipm4 ian4 (.ref ida4) ict4 icc4), isl4⟩)
    (S4 : supB l.prog K C4 C4 if4 ida4 icc4 "BadCalendar.__init__" = true)
    (h4_0 : PySem.W.findIn K (.ref C4) "part" = some none)
    (s4 : isvB K [] ["RoundError", "BadNumber", "BadValue", "BadYard", "BadCalendar", "BadRow", "BadStock", "BadMixture", "Misfit", "TooMany", "Unkept", "Over", "Nothing", "BadText", "BadLine"] sub0 "BadCalendar" (.ref C4) = true)
    {C5 : Addr}
    (A5 : PySem.W.nsIn K mainGlobals "BadRow" = some (some (.ref C5)))
    {nm5 qn5 : Str} {N5 : Addr} {bs5 bm5 sb5 : List Value} {sn5 : List Str} {ab5 : Bool} {cl5 : Option Bool} {ddd5 : Option Addr} {k05 k15 k25 k35 k55 : Option Value}
    (L5 : K.lookup C5 = some (excClassObj nm5 qn5 C5 N5 bs5 bm5 true sn5 sb5 ab5 cl5 ddd5 k05 k15 k25 k35 k55 "ValueError.__new__"))
    (O5 : oxB K C5 bm5 = true)
    {if5 : Addr} (I5 : PySem.W.findIn K (.ref C5) "__init__" = some (some (.ref if5)))
    {ioc5 ikV5 idc5 ipm5 ict5 : Value} {iod5 ian5 : Option Addr} {isl5 : Array (Option Value)} {ida5 icc5 : Addr}
    (M5 : K.lookup if5 = some ⟨ioc5, iod5, .func (PySem.W.ksFn "__init__" "BadRow.__init__" (defArgs s_BadRow) (defBody s_BadRow) (defScope s_BadRow) .none ikV5 idc5 ipm5 ian5 (.ref ida5) ict5 icc5), isl5⟩)
    (S5 : supB l.prog K C5 C5 if5 ida5 icc5 "BadRow.__init__" = true)
    (h5_0 : PySem.W.findIn K (.ref C5) "part" = some none)
    (s5 : isvB K [] ["RoundError", "BadNumber", "BadValue", "BadYard", "BadCalendar", "BadRow", "BadStock", "BadMixture", "Misfit", "TooMany", "Unkept", "Over", "Nothing", "BadText", "BadLine"] sub0 "BadRow" (.ref C5) = true)
    {C6 : Addr}
    (A6 : PySem.W.nsIn K mainGlobals "BadStock" = some (some (.ref C6)))
    {nm6 qn6 : Str} {N6 : Addr} {bs6 bm6 sb6 : List Value} {sn6 : List Str} {ab6 : Bool} {cl6 : Option Bool} {ddd6 : Option Addr} {k06 k16 k26 k36 k56 : Option Value}
    (L6 : K.lookup C6 = some (excClassObj nm6 qn6 C6 N6 bs6 bm6 true sn6 sb6 ab6 cl6 ddd6 k06 k16 k26 k36 k56 "ValueError.__new__"))
    (O6 : oxB K C6 bm6 = true)
    {if6 : Addr} (I6 : PySem.W.findIn K (.ref C6) "__init__" = some (some (.ref if6)))
    {ioc6 ikV6 idc6 ipm6 ict6 : Value} {iod6 ian6 : Option Addr} {isl6 : Array (Option Value)} {ida6 icc6 : Addr}
    (M6 : K.lookup if6 = some ⟨ioc6, iod6, .func (PySem.W.ksFn "__init__" "BadStock.__init__" (defArgs s_BadStock) (defBody s_BadStock) (defScope s_BadStock) .none ikV6 idc6 ipm6 ian6 (.ref ida6) ict6 icc6), isl6⟩)
    (S6 : supB l.prog K C6 C6 if6 ida6 icc6 "BadStock.__init__" = true)
    (h6_0 : PySem.W.findIn K (.ref C6) "part" = some none)
    (s6 : isvB K [] ["RoundError", "BadNumber", "BadValue", "BadYard", "BadCalendar", "BadRow", "BadStock", "BadMixture", "Misfit", "TooMany", "Unkept", "Over", "Nothing", "BadText", "BadLine"] sub0 "BadStock" (.ref C6) = true)
    {C7 : Addr}
    (A7 : PySem.W.nsIn K mainGlobals "BadMixture" = some (some (.ref C7)))
    {nm7 qn7 : Str} {N7 : Addr} {bs7 bm7 sb7 : List Value} {sn7 : List Str} {ab7 : Bool} {cl7 : Option Bool} {ddd7 : Option Addr} {k07 k17 k27 k37 k57 : Option Value}
    (L7 : K.lookup C7 = some (excClassObj nm7 qn7 C7 N7 bs7 bm7 true sn7 sb7 ab7 cl7 ddd7 k07 k17 k27 k37 k57 "ValueError.__new__"))
    (O7 : oxB K C7 bm7 = true)
    {if7 : Addr} (I7 : PySem.W.findIn K (.ref C7) "__init__" = some (some (.ref if7)))
    {ioc7 ikV7 idc7 ipm7 ict7 : Value} {iod7 ian7 : Option Addr} {isl7 : Array (Option Value)} {ida7 icc7 : Addr}
    (M7 : K.lookup if7 = some ⟨ioc7, iod7, .func (PySem.W.ksFn "__init__" "BadMixture.__init__" (defArgs s_BadMixture) (defBody s_BadMixture) (defScope s_BadMixture) .none ikV7 idc7 ipm7 ian7 (.ref ida7) ict7 icc7), isl7⟩)
    (S7 : supB l.prog K C7 C7 if7 ida7 icc7 "BadMixture.__init__" = true)
    (h7_0 : PySem.W.findIn K (.ref C7) "part" = some none)
    (s7 : isvB K [] ["RoundError", "BadNumber", "BadValue", "BadYard", "BadCalendar", "BadRow", "BadStock", "BadMixture", "Misfit", "TooMany", "Unkept", "Over", "Nothing", "BadText", "BadLine"] sub0 "BadMixture" (.ref C7) = true)
    {C8 : Addr}
    (A8 : PySem.W.nsIn K mainGlobals "Misfit" = some (some (.ref C8)))
    {nm8 qn8 : Str} {N8 : Addr} {bs8 bm8 sb8 : List Value} {sn8 : List Str} {ab8 : Bool} {cl8 : Option Bool} {ddd8 : Option Addr} {k08 k18 k28 k38 k58 : Option Value}
    (L8 : K.lookup C8 = some (excClassObj nm8 qn8 C8 N8 bs8 bm8 true sn8 sb8 ab8 cl8 ddd8 k08 k18 k28 k38 k58 "ValueError.__new__"))
    (O8 : oxB K C8 bm8 = true)
    {if8 : Addr} (I8 : PySem.W.findIn K (.ref C8) "__init__" = some (some (.ref if8)))
    {ioc8 ikV8 idc8 ipm8 ict8 : Value} {iod8 ian8 : Option Addr} {isl8 : Array (Option Value)} {ida8 icc8 : Addr}
    (M8 : K.lookup if8 = some ⟨ioc8, iod8, .func (PySem.W.ksFn "__init__" "Misfit.__init__" (defArgs s_Misfit) (defBody s_Misfit) (defScope s_Misfit) .none ikV8 idc8 ipm8 ian8 (.ref ida8) ict8 icc8), isl8⟩)
    (S8 : supB l.prog K C8 C8 if8 ida8 icc8 "Misfit.__init__" = true)
    (h8_0 : PySem.W.findIn K (.ref C8) "part" = some none)
    (s8 : isvB K [] ["RoundError", "BadNumber", "BadValue", "BadYard", "BadCalendar", "BadRow", "BadStock", "BadMixture", "Misfit", "TooMany", "Unkept", "Over", "Nothing", "BadText", "BadLine"] sub0 "Misfit" (.ref C8) = true)
    {C9 : Addr}
    (A9 : PySem.W.nsIn K mainGlobals "TooMany" = some (some (.ref C9)))
    {nm9 qn9 : Str} {N9 : Addr} {bs9 bm9 sb9 : List Value} {sn9 : List Str} {ab9 : Bool} {cl9 : Option Bool} {ddd9 : Option Addr} {k09 k19 k29 k39 k59 : Option Value}
    (L9 : K.lookup C9 = some (excClassObj nm9 qn9 C9 N9 bs9 bm9 true sn9 sb9 ab9 cl9 ddd9 k09 k19 k29 k39 k59 "ValueError.__new__"))
    (O9 : oxB K C9 bm9 = true)
    {if9 : Addr} (I9 : PySem.W.findIn K (.ref C9) "__init__" = some (some (.ref if9)))
    {ioc9 ikV9 idc9 ipm9 ict9 : Value} {iod9 ian9 : Option Addr} {isl9 : Array (Option Value)} {ida9 icc9 : Addr}
    (M9 : K.lookup if9 = some ⟨ioc9, iod9, .func (PySem.W.ksFn "__init__" "TooMany.__init__" (defArgs s_TooMany) (defBody s_TooMany) (defScope s_TooMany) .none ikV9 idc9 ipm9 ian9 (.ref ida9) ict9 icc9), isl9⟩)
    (S9 : supB l.prog K C9 C9 if9 ida9 icc9 "TooMany.__init__" = true)
    (h9_0 : PySem.W.findIn K (.ref C9) "what" = some none)
    (h9_1 : PySem.W.findIn K (.ref C9) "most" = some none)
    (s9 : isvB K [] ["RoundError", "BadNumber", "BadValue", "BadYard", "BadCalendar", "BadRow", "BadStock", "BadMixture", "Misfit", "TooMany", "Unkept", "Over", "Nothing", "BadText", "BadLine"] sub0 "TooMany" (.ref C9) = true)
    {C10 : Addr}
    (A10 : PySem.W.nsIn K mainGlobals "Unkept" = some (some (.ref C10)))
    {nm10 qn10 : Str} {N10 : Addr} {bs10 bm10 sb10 : List Value} {sn10 : List Str} {ab10 : Bool} {cl10 : Option Bool} {ddd10 : Option Addr} {k010 k110 k210 k310 k510 : Option Value}
    (L10 : K.lookup C10 = some (excClassObj nm10 qn10 C10 N10 bs10 bm10 true sn10 sb10 ab10 cl10 ddd10 k010 k110 k210 k310 k510 "ValueError.__new__"))
    (O10 : oxB K C10 bm10 = true)
    {if10 : Addr} (I10 : PySem.W.findIn K (.ref C10) "__init__" = some (some (.ref if10)))
    {ioc10 ikV10 idc10 ipm10 ict10 : Value} {iod10 ian10 : Option Addr} {isl10 : Array (Option Value)} {ida10 icc10 : Addr}
    (M10 : K.lookup if10 = some ⟨ioc10, iod10, .func (PySem.W.ksFn "__init__" "Unkept.__init__" (defArgs s_Unkept) (defBody s_Unkept) (defScope s_Unkept) .none ikV10 idc10 ipm10 ian10 (.ref ida10) ict10 icc10), isl10⟩)
    (S10 : supB l.prog K C10 C10 if10 ida10 icc10 "Unkept.__init__" = true)
    (h10_0 : PySem.W.findIn K (.ref C10) "paper" = some none)
    (s10 : isvB K [] ["RoundError", "BadNumber", "BadValue", "BadYard", "BadCalendar", "BadRow", "BadStock", "BadMixture", "Misfit", "TooMany", "Unkept", "Over", "Nothing", "BadText", "BadLine"] sub0 "Unkept" (.ref C10) = true)
    {C11 : Addr}
    (A11 : PySem.W.nsIn K mainGlobals "Over" = some (some (.ref C11)))
    {nm11 qn11 : Str} {N11 : Addr} {bs11 bm11 sb11 : List Value} {sn11 : List Str} {ab11 : Bool} {cl11 : Option Bool} {ddd11 : Option Addr} {k011 k111 k211 k311 k511 : Option Value}
    (L11 : K.lookup C11 = some (excClassObj nm11 qn11 C11 N11 bs11 bm11 true sn11 sb11 ab11 cl11 ddd11 k011 k111 k211 k311 k511 "ValueError.__new__"))
    (O11 : oxB K C11 bm11 = true)
    {if11 : Addr} (I11 : PySem.W.findIn K (.ref C11) "__init__" = some (some (.ref if11)))
    {ioc11 ikV11 idc11 ipm11 ict11 : Value} {iod11 ian11 : Option Addr} {isl11 : Array (Option Value)} {ida11 icc11 : Addr}
    (M11 : K.lookup if11 = some ⟨ioc11, iod11, .func (PySem.W.ksFn "__init__" "Over.__init__" (defArgs s_Over) (defBody s_Over) (defScope s_Over) .none ikV11 idc11 ipm11 ian11 (.ref ida11) ict11 icc11), isl11⟩)
    (S11 : supB l.prog K C11 C11 if11 ida11 icc11 "Over.__init__" = true)
    (h11_0 : PySem.W.findIn K (.ref C11) "day" = some none)
    (s11 : isvB K [] ["RoundError", "BadNumber", "BadValue", "BadYard", "BadCalendar", "BadRow", "BadStock", "BadMixture", "Misfit", "TooMany", "Unkept", "Over", "Nothing", "BadText", "BadLine"] sub0 "Over" (.ref C11) = true)
    {C12 : Addr}
    (A12 : PySem.W.nsIn K mainGlobals "Nothing" = some (some (.ref C12)))
    {nm12 qn12 : Str} {N12 : Addr} {bs12 bm12 sb12 : List Value} {sn12 : List Str} {ab12 : Bool} {cl12 : Option Bool} {ddd12 : Option Addr} {k012 k112 k212 k312 k512 : Option Value}
    (L12 : K.lookup C12 = some (excClassObj nm12 qn12 C12 N12 bs12 bm12 true sn12 sb12 ab12 cl12 ddd12 k012 k112 k212 k312 k512 "ValueError.__new__"))
    (O12 : oxB K C12 bm12 = true)
    {if12 : Addr} (I12 : PySem.W.findIn K (.ref C12) "__init__" = some (some (.ref if12)))
    {ioc12 ikV12 idc12 ipm12 ict12 : Value} {iod12 ian12 : Option Addr} {isl12 : Array (Option Value)} {ida12 icc12 : Addr}
    (M12 : K.lookup if12 = some ⟨ioc12, iod12, .func (PySem.W.ksFn "__init__" "Nothing.__init__" (defArgs s_Nothing) (defBody s_Nothing) (defScope s_Nothing) .none ikV12 idc12 ipm12 ian12 (.ref ida12) ict12 icc12), isl12⟩)
    (S12 : supB l.prog K C12 C12 if12 ida12 icc12 "Nothing.__init__" = true)
    (h12_0 : PySem.W.findIn K (.ref C12) "part" = some none)
    (s12 : isvB K [] ["RoundError", "BadNumber", "BadValue", "BadYard", "BadCalendar", "BadRow", "BadStock", "BadMixture", "Misfit", "TooMany", "Unkept", "Over", "Nothing", "BadText", "BadLine"] sub0 "Nothing" (.ref C12) = true)
    {C13 : Addr}
    (A13 : PySem.W.nsIn K mainGlobals "BadText" = some (some (.ref C13)))
    {nm13 qn13 : Str} {N13 : Addr} {bs13 bm13 sb13 : List Value} {sn13 : List Str} {ab13 : Bool} {cl13 : Option Bool} {ddd13 : Option Addr} {k013 k113 k213 k313 k513 : Option Value}
    (L13 : K.lookup C13 = some (excClassObj nm13 qn13 C13 N13 bs13 bm13 true sn13 sb13 ab13 cl13 ddd13 k013 k113 k213 k313 k513 "ValueError.__new__"))
    (O13 : oxB K C13 bm13 = true)
    {if13 : Addr} (I13 : PySem.W.findIn K (.ref C13) "__init__" = some (some (.ref if13)))
    {ioc13 ikV13 idc13 ipm13 ict13 : Value} {iod13 ian13 : Option Addr} {isl13 : Array (Option Value)} {ida13 icc13 : Addr}
    (M13 : K.lookup if13 = some ⟨ioc13, iod13, .func (PySem.W.ksFn "__init__" "BadText.__init__" (defArgs s_BadText) (defBody s_BadText) (defScope s_BadText) .none ikV13 idc13 ipm13 ian13 (.ref ida13) ict13 icc13), isl13⟩)
    (S13 : supB l.prog K C13 C13 if13 ida13 icc13 "BadText.__init__" = true)
    (h13_0 : PySem.W.findIn K (.ref C13) "item" = some none)
    (s13 : isvB K [] ["RoundError", "BadNumber", "BadValue", "BadYard", "BadCalendar", "BadRow", "BadStock", "BadMixture", "Misfit", "TooMany", "Unkept", "Over", "Nothing", "BadText", "BadLine"] sub0 "BadText" (.ref C13) = true)
    {C14 : Addr}
    (A14 : PySem.W.nsIn K mainGlobals "BadLine" = some (some (.ref C14)))
    {nm14 qn14 : Str} {N14 : Addr} {bs14 bm14 sb14 : List Value} {sn14 : List Str} {ab14 : Bool} {cl14 : Option Bool} {ddd14 : Option Addr} {k014 k114 k214 k314 k514 : Option Value}
    (L14 : K.lookup C14 = some (excClassObj nm14 qn14 C14 N14 bs14 bm14 true sn14 sb14 ab14 cl14 ddd14 k014 k114 k214 k314 k514 "ValueError.__new__"))
    (O14 : oxB K C14 bm14 = true)
    {if14 : Addr} (I14 : PySem.W.findIn K (.ref C14) "__init__" = some (some (.ref if14)))
    {ioc14 ikV14 idc14 ipm14 ict14 : Value} {iod14 ian14 : Option Addr} {isl14 : Array (Option Value)} {ida14 icc14 : Addr}
    (M14 : K.lookup if14 = some ⟨ioc14, iod14, .func (PySem.W.ksFn "__init__" "BadLine.__init__" (defArgs s_BadLine) (defBody s_BadLine) (defScope s_BadLine) .none ikV14 idc14 ipm14 ian14 (.ref ida14) ict14 icc14), isl14⟩)
    (S14 : supB l.prog K C14 C14 if14 ida14 icc14 "BadLine.__init__" = true)
    (h14_0 : PySem.W.findIn K (.ref C14) "word" = some none)
    (s14 : isvB K [] ["RoundError", "BadNumber", "BadValue", "BadYard", "BadCalendar", "BadRow", "BadStock", "BadMixture", "Misfit", "TooMany", "Unkept", "Over", "Nothing", "BadText", "BadLine"] sub0 "BadLine" (.ref C14) = true)
    (s_ValueError : isvB K [] ["RoundError", "BadNumber", "BadValue", "BadYard", "BadCalendar", "BadRow", "BadStock", "BadMixture", "Misfit", "TooMany", "Unkept", "Over", "Nothing", "BadText", "BadLine"] sub0 "ValueError" (.type "ValueError") = true)
    (q_part : fldB K [] ["RoundError", "BadNumber", "BadValue", "BadYard", "BadCalendar", "BadRow", "BadStock", "BadMixture", "Misfit", "TooMany", "Unkept", "Over", "Nothing", "BadText", "BadLine"] ls_part "part" = true)
    (q_most : fldB K [] ["RoundError", "BadNumber", "BadValue", "BadYard", "BadCalendar", "BadRow", "BadStock", "BadMixture", "Misfit", "TooMany", "Unkept", "Over", "Nothing", "BadText", "BadLine"] ls_most "most" = true)
    (q_what : fldB K [] ["RoundError", "BadNumber", "BadValue", "BadYard", "BadCalendar", "BadRow", "BadStock", "BadMixture", "Misfit", "TooMany", "Unkept", "Over", "Nothing", "BadText", "BadLine"] ls_what "what" = true)
    (q_paper : fldB K [] ["RoundError", "BadNumber", "BadValue", "BadYard", "BadCalendar", "BadRow", "BadStock", "BadMixture", "Misfit", "TooMany", "Unkept", "Over", "Nothing", "BadText", "BadLine"] ls_paper "paper" = true)
    (q_day : fldB K [] ["RoundError", "BadNumber", "BadValue", "BadYard", "BadCalendar", "BadRow", "BadStock", "BadMixture", "Misfit", "TooMany", "Unkept", "Over", "Nothing", "BadText", "BadLine"] ls_day "day" = true)
    (q_item : fldB K [] ["RoundError", "BadNumber", "BadValue", "BadYard", "BadCalendar", "BadRow", "BadStock", "BadMixture", "Misfit", "TooMany", "Unkept", "Over", "Nothing", "BadText", "BadLine"] ls_item "item" = true)
    (q_word : fldB K [] ["RoundError", "BadNumber", "BadValue", "BadYard", "BadCalendar", "BadRow", "BadStock", "BadMixture", "Misfit", "TooMany", "Unkept", "Over", "Nothing", "BadText", "BadLine"] ls_word "word" = true)
    : ∃ fd : FuncData, (∀ (s : Shared) (v : Value), BindsTo s fd ⟨[v], []⟩ [("script", v)]) ∧ ∀ base : Heap, K.In base → base.Ns mainGlobals mg → FnG l.prog w K mg base 5 fa fd ["script"] (spF K (cm0 K) 1 F_law) := by
  have e := hfa.symm.trans (PySem.W.mg_of X G a9)
  cases e
  exact ⟨_, fun s v => .of_eq rfl, fun base _ _ => ok_law ({ a__law_well := f0, d__law_well := _, F__law_well := funD0 l0 c0 k0, g__law_well := PySem.W.mg_of X G a0, a__law_draw := f1, d__law_draw := _, F__law_draw := funD0 l1 c1 k1, g__law_draw := PySem.W.mg_of X G a1, a__law_pick := f2, d__law_pick := _, F__law_pick := funD0 l2 c2 k2, g__law_pick := PySem.W.mg_of X G a2, a__law_value := f3, d__law_value := _, F__law_value := funD0 l3 c3 k3, g__law_value := PySem.W.mg_of X G a3, a__law_kinds := f4, d__law_kinds := _, F__law_kinds := funD0 l4 c4 k4, g__law_kinds := PySem.W.mg_of X G a4, a__law_raised := f5, d__law_raised := _, F__law_raised := funD0 l5 c5 k5, g__law_raised := PySem.W.mg_of X G a5, a__law_caught := f6, d__law_caught := _, F__law_caught := funD0 l6 c6 k6, g__law_caught := PySem.W.mg_of X G a6, a__law_field := f7, d__law_field := _, F__law_field := funD0 l7 c7 k7, g__law_field := PySem.W.mg_of X G a7, a__law_by_name := f8, d__law_by_name := _, F__law_by_name := funD0 l8 c8 k8, g__law_by_name := PySem.W.mg_of X G a8, a_law := fa, d_law := _, F_law := funD0 l9 c9 k9, g_law := hfa, z_ValueError := PySem.W.mg_none_of X G z_ValueError, z_abs := PySem.W.mg_none_of X G z_abs, z_int := PySem.W.mg_none_of X G z_int, z_isinstance := PySem.W.mg_none_of X G z_isinstance, z_len := PySem.W.mg_none_of X G z_len, z_range := PySem.W.mg_none_of X G z_range, z_repr := PySem.W.mg_none_of X G z_repr, C_RoundError := C0, g_RoundError := PySem.W.mg_of X G A0, m_RoundError := cmOf_x A0 (by decide), k_RoundError := K0, q0_RoundError := Q0, e_RoundError := e0, C_BadNumber := C1, g_BadNumber := PySem.W.mg_of X G A1, m_BadNumber := cmOf_x A1 (by decide), f_BadNumber := if1, d_BadNumber := _, O_BadNumber := oxB_ok L1 O1, N_BadNumber := I1, Y_BadNumber := (supB_ok S1).ty, I_BadNumber := fun _ _ => i_BadNumber (supB_ok S1) (oxB_ok L1 O1) M1 (PySem.W.mg_none_of X G z_super) h1_0, b_BadNumber := bindS (fun us hl => match us, hl with | [_, _], _ => rfl), kb_BadNumber_part := kbnS 1 ["part"] [.p 0, .k 0] (fun us ws h1 h2 => match us, ws, h1, h2 with | [_], [_], _, _ => rfl), s_BadNumber := s1, C_BadValue := C2, g_BadValue := PySem.W.mg_of X G A2, m_BadValue := cmOf_x A2 (by decide), f_BadValue := if2, d_BadValue := _, O_BadValue := oxB_ok L2 O2, N_BadValue := I2, Y_BadValue := (supB_ok S2).ty, I_BadValue := fun _ _ => i_BadValue (supB_ok S2) (oxB_ok L2 O2) M2 (PySem.W.mg_none_of X G z_super) h2_0, b_BadValue := bindS (fun us hl => match us, hl with | [_, _], _ => rfl), kb_BadValue_part := kbnS 1 ["part"] [.p 0, .k 0] (fun us ws h1 h2 => match us, ws, h1, h2 with | [_], [_], _, _ => rfl), s_BadValue := s2, C_BadYard := C3, g_BadYard := PySem.W.mg_of X G A3, m_BadYard := cmOf_x A3 (by decide), f_BadYard := if3, d_BadYard := _, O_BadYard := oxB_ok L3 O3, N_BadYard := I3, Y_BadYard := (supB_ok S3).ty, I_BadYard := fun _ _ => i_BadYard (supB_ok S3) (oxB_ok L3 O3) M3 (PySem.W.mg_none_of X G z_super) h3_0, b_BadYard := bindS (fun us hl => match us, hl with | [_, _], _ => rfl), kb_BadYard_part := kbnS 1 ["part"] [.p 0, .k 0] (fun us ws h1 h2 => match us, ws, h1, h2 with | [_], [_], _, _ => rfl), s_BadYard := s3, C_BadCalendar := C4, g_BadCalendar := PySem.W.mg_of X G A4, m_BadCalendar := cmOf_x A4 (by decide), f_BadCalendar := if4, d_BadCalendar := _, O_BadCalendar := oxB_ok L4 O4, N_BadCalendar := I4, Y_BadCalendar := (supB_ok S4).ty, I_BadCalendar := fun _ _ => i_BadCalendar (supB_ok S4) (oxB_ok L4 O4) M4 (PySem.W.mg_none_of X G z_super) h4_0, b_BadCalendar := bindS (fun us hl => match us, hl with | [_, _], _ => rfl), kb_BadCalendar_part := kbnS 1 ["part"] [.p 0, .k 0] (fun us ws h1 h2 => match us, ws, h1, h2 with | [_], [_], _, _ => rfl), s_BadCalendar := s4, C_BadRow := C5, g_BadRow := PySem.W.mg_of X G A5, m_BadRow := cmOf_x A5 (by decide), f_BadRow := if5, d_BadRow := _, O_BadRow := oxB_ok L5 O5, N_BadRow := I5, Y_BadRow := (supB_ok S5).ty, I_BadRow := fun _ _ => i_BadRow (supB_ok S5) (oxB_ok L5 O5) M5 (PySem.W.mg_none_of X G z_super) h5_0, b_BadRow := bindS (fun us hl => match us, hl with | [_, _], _ => rfl), kb_BadRow_part := kbnS 1 ["part"] [.p 0, .k 0] (fun us ws h1 h2 => match us, ws, h1, h2 with | [_], [_], _, _ => rfl), s_BadRow := s5, C_BadStock := C6, g_BadStock := PySem.W.mg_of X G A6, m_BadStock := cmOf_x A6 (by decide), f_BadStock := if6, d_BadStock := _, O_BadStock := oxB_ok L6 O6, N_BadStock := I6, Y_BadStock := (supB_ok S6).ty, I_BadStock := fun _ _ => i_BadStock (supB_ok S6) (oxB_ok L6 O6) M6 (PySem.W.mg_none_of X G z_super) h6_0, b_BadStock := bindS (fun us hl => match us, hl with | [_, _], _ => rfl), kb_BadStock_part := kbnS 1 ["part"] [.p 0, .k 0] (fun us ws h1 h2 => match us, ws, h1, h2 with | [_], [_], _, _ => rfl), s_BadStock := s6, C_BadMixture := C7, g_BadMixture := PySem.W.mg_of X G A7, m_BadMixture := cmOf_x A7 (by decide), f_BadMixture := if7, d_BadMixture := _, O_BadMixture := oxB_ok L7 O7, N_BadMixture := I7, Y_BadMixture := (supB_ok S7).ty, I_BadMixture := fun _ _ => i_BadMixture (supB_ok S7) (oxB_ok L7 O7) M7 (PySem.W.mg_none_of X G z_super) h7_0, b_BadMixture := bindS (fun us hl => match us, hl with | [_, _], _ => rfl), kb_BadMixture_part := kbnS 1 ["part"] [.p 0, .k 0] (fun us ws h1 h2 => match us, ws, h1, h2 with | [_], [_], _, _ => rfl), s_BadMixture := s7, C_Misfit := C8, g_Misfit := PySem.W.mg_of X G A8, m_Misfit := cmOf_x A8 (by decide), f_Misfit := if8, d_Misfit := _, O_Misfit := oxB_ok L8 O8, N_Misfit := I8, Y_Misfit := (supB_ok S8).ty, I_Misfit := fun _ _ => i_Misfit (supB_ok S8) (oxB_ok L8 O8) M8 (PySem.W.mg_none_of X G z_super) h8_0, b_Misfit := bindS (fun us hl => match us, hl with | [_, _], _ => rfl), kb_Misfit_part := kbnS 1 ["part"] [.p 0, .k 0] (fun us ws h1 h2 => match us, ws, h1, h2 with | [_], [_], _, _ => rfl), s_Misfit := s8, C_TooMany := C9, g_TooMany := PySem.W.mg_of X G A9, m_TooMany := cmOf_x A9 (by decide), f_TooMany := if9, d_TooMany := _, O_TooMany := oxB_ok L9 O9, N_TooMany := I9, Y_TooMany := (supB_ok S9).ty, I_TooMany := fun _ _ => i_TooMany (supB_ok S9) (oxB_ok L9 O9) M9 (PySem.W.mg_none_of X G z_super) h9_0 h9_1, b_TooMany := bindS (fun us hl => match us, hl with | [_, _, _], _ => rfl), kb_TooMany_most_what := kbnS 1 ["most", "what"] [.p 0, .k 1, .k 0] (fun us ws h1 h2 => match us, ws, h1, h2 with | [_], [_, _], _, _ => rfl), s_TooMany := s9, C_Unkept := C10, g_Unkept := PySem.W.mg_of X G A10, m_Unkept := cmOf_x A10 (by decide), f_Unkept := if10, d_Unkept := _, O_Unkept := oxB_ok L10 O10, N_Unkept := I10, Y_Unkept := (supB_ok S10).ty, I_Unkept := fun _ _ => i_Unkept (supB_ok S10) (oxB_ok L10 O10) M10 (PySem.W.mg_none_of X G z_super) h10_0, b_Unkept := bindS (fun us hl => match us, hl with | [_, _], _ => rfl), kb_Unkept_paper := kbnS 1 ["paper"] [.p 0, .k 0] (fun us ws h1 h2 => match us, ws, h1, h2 with | [_], [_], _, _ => rfl), s_Unkept := s10, C_Over := C11, g_Over := PySem.W.mg_of X G A11, m_Over := cmOf_x A11 (by decide), f_Over := if11, d_Over := _, O_Over := oxB_ok L11 O11, N_Over := I11, Y_Over := (supB_ok S11).ty, I_Over := fun _ _ => i_Over (supB_ok S11) (oxB_ok L11 O11) M11 (PySem.W.mg_none_of X G z_super) h11_0, b_Over := bindS (fun us hl => match us, hl with | [_, _], _ => rfl), kb_Over_day := kbnS 1 ["day"] [.p 0, .k 0] (fun us ws h1 h2 => match us, ws, h1, h2 with | [_], [_], _, _ => rfl), s_Over := s11, C_Nothing := C12, g_Nothing := PySem.W.mg_of X G A12, m_Nothing := cmOf_x A12 (by decide), f_Nothing := if12, d_Nothing := _, O_Nothing := oxB_ok L12 O12, N_Nothing := I12, Y_Nothing := (supB_ok S12).ty, I_Nothing := fun _ _ => i_Nothing (supB_ok S12) (oxB_ok L12 O12) M12 (PySem.W.mg_none_of X G z_super) h12_0, b_Nothing := bindS (fun us hl => match us, hl with | [_, _], _ => rfl), kb_Nothing_part := kbnS 1 ["part"] [.p 0, .k 0] (fun us ws h1 h2 => match us, ws, h1, h2 with | [_], [_], _, _ => rfl), s_Nothing := s12, C_BadText := C13, g_BadText := PySem.W.mg_of X G A13, m_BadText := cmOf_x A13 (by decide), f_BadText := if13, d_BadText := _, O_BadText := oxB_ok L13 O13, N_BadText := I13, Y_BadText := (supB_ok S13).ty, I_BadText := fun _ _ => i_BadText (supB_ok S13) (oxB_ok L13 O13) M13 (PySem.W.mg_none_of X G z_super) h13_0, b_BadText := bindS (fun us hl => match us, hl with | [_, _], _ => rfl), kb_BadText_item := kbnS 1 ["item"] [.p 0, .k 0] (fun us ws h1 h2 => match us, ws, h1, h2 with | [_], [_], _, _ => rfl), s_BadText := s13, C_BadLine := C14, g_BadLine := PySem.W.mg_of X G A14, m_BadLine := cmOf_x A14 (by decide), f_BadLine := if14, d_BadLine := _, O_BadLine := oxB_ok L14 O14, N_BadLine := I14, Y_BadLine := (supB_ok S14).ty, I_BadLine := fun _ _ => i_BadLine (supB_ok S14) (oxB_ok L14 O14) M14 (PySem.W.mg_none_of X G z_super) h14_0, b_BadLine := bindS (fun us hl => match us, hl with | [_, _], _ => rfl), kb_BadLine_word := kbnS 1 ["word"] [.p 0, .k 0] (fun us ws h1 h2 => match us, ws, h1, h2 with | [_], [_], _, _ => rfl), s_BadLine := s14, s_ValueError := s_ValueError, q_part := q_part, q_most := q_most, q_what := q_what, q_paper := q_paper, q_day := q_day, q_item := q_item, q_word := q_word } : Tx l.prog K mg)⟩
end Lk00

set_option Elab.async false
set_option linter.all false
set_option maxRecDepth 100000
set_option maxHeartbeats 4000000
namespace Lk00
open PySem PySem.Spec PyProof.Rows Vs
theorem draws : Draws F__law_draw := drawsA (c1 := 48179) (c2 := 7219) (m1 := 2147483549) (c3 := 61057) (m2 := 2147483563) (m3 := 2147483587) (by unfold smallC smallM; omega)
theorem picks : Picks F__law_pick := picksA draws
/-- the values that are drawn -/
def opts : List D := [.non, .bl true, .int 0, .int (-7), .int (10 ^ 40), .str "", .str "yards", .tup [.int 1, .int 2], .lst [.int 1, .lst [.int 2]], .dic (mergeD [] [(.inr "a", .int 1)]), .str "x y", .tup [], .bl false]
def isS : Option D → Bool
  | some (.str _) => true
  | _ => false
theorem isS_of {o : Option D} (h : isS o = true) : ∃ s, o = some (.str s) := by
  unfold isS at h
  split at h
  · exact ⟨_, rfl⟩
  · cases h
theorem shown1 : ∀ x ∈ opts, isS (oReprD [.lst [x]]) = true := by decide +kernel
theorem shown2 : ∀ x ∈ opts, ∀ y ∈ opts, isS (oReprD [.lst [x, y]]) = true := by decide +kernel
theorem value_go {K : FR → Prop} {n : Nat} {W : List D} (h : Wl n W) (hn : n < 2 ^ 20) (hK : ∀ W' x, Wl (n + 1) W' → x ∈ opts → K (.ok x (some W'))) : Go K (F__law_value (some W) []) := by
  rw [run__law_value]; unfold b__law_value
  have p40 : oPow (.int 10) (.int 40) = some (.int (10 ^ 40)) := rfl
  simp only [k_ok, k_exc, kS_ok, kS_exc, kq_next, kq_ret, kq_brk, kq_cont, kq_exc, kq_retF, go_ok, go_exc, go_next, go_ret, go_brk, go_cont, go_excS, go_retF, go_some, go_v, getV_fz, go_c, go_bin, go_bin1, go_bin2, go_un, go_un1, go_tru, go_tru1, go_bl, go_bl1, go_and, go_andT, go_andF, go_or, go_orT, go_orF, go_not, go_not1, go_andV, go_orV, go_andV1, go_orV1, go_andVT, go_andVF, go_orVT, go_orVF, go_notV, go_notV1, go_notV2, go_if, go_ifT, go_ifF, go_nil, go_cons, go_cons1, go_cons2, go_chk, go_lst, go_tup, go_lst1, go_tup1, go_cal, go_cal1, go_isi, go_isi1, go_seq, go_sRet, go_ret1, go_sExpr, go_ex1, go_sIf, go_sifT, go_sifF, go_optS, go_sAsg, go_asg1, go_sSet, go_set1, go_sPar, go_par1, go_sAug, go_augV, kN_eq, kNil_eq, kCons_eq, kT_eq, rdE_eq, rdO_fz, rdO_ol, ownE_eq, owO_ol, go_binL, go_binL1, go_binL2, oSw_eq, go_binR, go_binR1, go_sPut, go_put1, go_putO, go_put2, go_putP, go_putN, go_retF1, go_fLst, go_fl1, go_sOwn, go_own1, go_call, go_call1, kFR_ok, kFR_exc, go_callIo, go_io0, go_io1, go_io2, kIo_ok, kIo_exc, go_callN, go_calln1, go_calln2, go_okF, go_excF, kRun_next, kRun_ret, kRun_exc, finF_none, finF_some, finS_ol, go_finO, go_finX, go_items, go_items_lst, go_items_tup, go_rng1, go_rng1_ok, go_rng2, go_rng2_ok, go_zip, go_zip_l, go_zip_t, go_enum, go_enum_l, go_sFor, go_for1, kLoop_next, kLoop_cont, kLoop_brk, kLoop_ret, kLoop_exc, turn_next, turn_cont, go_lc, go_lc1, kLc_ok, elem_ok, go_yes, go_sl, go_sl1, go_sl2, go_sl3, go_noP, go_p, go_p1, go_rev, go_rev1, go_chain, go_ch1, go_ch2, go_ch3T, go_ch3F, go_ch4, go_dic, go_dic1, go_prs_nil, go_prs, go_prs1, go_prs2, go_prs3, go_prs4, kW_ok, go_fcall, go_fcall1, kRunW_ok, go_okW, go_cf, go_cf1, oAdd_int, oAdd_bl, atI_0, atI_1, atI_2, atI_3, ixN_0, ixN_1, ixN_2, sz_lit, go_isC, go_isc1, go_fld, go_fld1, go_eX0, go_ex01, go_eX, go_ex1x, go_sRaise, go_rai1, go_sTry, kTry_next, kTry_ret, kHan_next, kHan_ret, List.getElem?_cons_zero, List.getElem?_cons_succ, List.set_cons_zero, List.set_cons_succ, List.nil_append, List.cons_append, List.append_nil, List.length_cons, List.length_nil, Nat.reduceSub, Nat.reduceLeDiff, Nat.zero_add, Option.bind_some, Option.map_some, reduceCtorEq, Int.reduceLT, Int.reduceLE, Int.reduceNeg, Int.reducePow, Int.reduceToNat, and_true, true_and, and_self, ite_true, ite_false, if_true, if_false, Bool.not_true, Bool.not_false, Bool.true_and, Bool.false_and, Bool.and_true, Bool.and_false, Bool.true_or, Bool.false_or, oSub, oNeg, oLt, oLe, oGt, oGe, oIs, oIsNot, Vs.isNon, oTru, oBl, oIx, oLen, oAbs, oIntC, oMax2, oMin2, oTupC, oLstC, oSl, keyD, decide_true, decide_false, plainE, fzE, gIx, List.filterMap_cons, List.filterMap_nil, wipeE, restE, List.all_cons, List.all_nil, List.getD_eq_getElem?_getD, Option.getD_some, oMod_ok, oFdiv_ok, oPow_lit, oMul_lit, oRepr_bl, oEq_str, oNe_str, oEq_int, oNe_int, oEq_bl, oNe_bl, oEq_nil, oNe_nil, oIsi_int, oIsi_bool, oIsi_listed, str_beq, p40, b__law_value_1]
  refine picks _ n W _ _ (.inl rfl) h (by omega) (by simp) (by simp) fun W' x h1 hx => ?_
  simp only [k_ok, k_exc, kS_ok, kS_exc, kq_next, kq_ret, kq_brk, kq_cont, kq_exc, kq_retF, go_ok, go_exc, go_next, go_ret, go_brk, go_cont, go_excS, go_retF, go_some, go_v, getV_fz, go_c, go_bin, go_bin1, go_bin2, go_un, go_un1, go_tru, go_tru1, go_bl, go_bl1, go_and, go_andT, go_andF, go_or, go_orT, go_orF, go_not, go_not1, go_andV, go_orV, go_andV1, go_orV1, go_andVT, go_andVF, go_orVT, go_orVF, go_notV, go_notV1, go_notV2, go_if, go_ifT, go_ifF, go_nil, go_cons, go_cons1, go_cons2, go_chk, go_lst, go_tup, go_lst1, go_tup1, go_cal, go_cal1, go_isi, go_isi1, go_seq, go_sRet, go_ret1, go_sExpr, go_ex1, go_sIf, go_sifT, go_sifF, go_optS, go_sAsg, go_asg1, go_sSet, go_set1, go_sPar, go_par1, go_sAug, go_augV, kN_eq, kNil_eq, kCons_eq, kT_eq, rdE_eq, rdO_fz, rdO_ol, ownE_eq, owO_ol, go_binL, go_binL1, go_binL2, oSw_eq, go_binR, go_binR1, go_sPut, go_put1, go_putO, go_put2, go_putP, go_putN, go_retF1, go_fLst, go_fl1, go_sOwn, go_own1, go_call, go_call1, kFR_ok, kFR_exc, go_callIo, go_io0, go_io1, go_io2, kIo_ok, kIo_exc, go_callN, go_calln1, go_calln2, go_okF, go_excF, kRun_next, kRun_ret, kRun_exc, finF_none, finF_some, finS_ol, go_finO, go_finX, go_items, go_items_lst, go_items_tup, go_rng1, go_rng1_ok, go_rng2, go_rng2_ok, go_zip, go_zip_l, go_zip_t, go_enum, go_enum_l, go_sFor, go_for1, kLoop_next, kLoop_cont, kLoop_brk, kLoop_ret, kLoop_exc, turn_next, turn_cont, go_lc, go_lc1, kLc_ok, elem_ok, go_yes, go_sl, go_sl1, go_sl2, go_sl3, go_noP, go_p, go_p1, go_rev, go_rev1, go_chain, go_ch1, go_ch2, go_ch3T, go_ch3F, go_ch4, go_dic, go_dic1, go_prs_nil, go_prs, go_prs1, go_prs2, go_prs3, go_prs4, kW_ok, go_fcall, go_fcall1, kRunW_ok, go_okW, go_cf, go_cf1, oAdd_int, oAdd_bl, atI_0, atI_1, atI_2, atI_3, ixN_0, ixN_1, ixN_2, sz_lit, go_isC, go_isc1, go_fld, go_fld1, go_eX0, go_ex01, go_eX, go_ex1x, go_sRaise, go_rai1, go_sTry, kTry_next, kTry_ret, kHan_next, kHan_ret, List.getElem?_cons_zero, List.getElem?_cons_succ, List.set_cons_zero, List.set_cons_succ, List.nil_append, List.cons_append, List.append_nil, List.length_cons, List.length_nil, Nat.reduceSub, Nat.reduceLeDiff, Nat.zero_add, Option.bind_some, Option.map_some, reduceCtorEq, Int.reduceLT, Int.reduceLE, Int.reduceNeg, Int.reducePow, Int.reduceToNat, and_true, true_and, and_self, ite_true, ite_false, if_true, if_false, Bool.not_true, Bool.not_false, Bool.true_and, Bool.false_and, Bool.and_true, Bool.and_false, Bool.true_or, Bool.false_or, oSub, oNeg, oLt, oLe, oGt, oGe, oIs, oIsNot, Vs.isNon, oTru, oBl, oIx, oLen, oAbs, oIntC, oMax2, oMin2, oTupC, oLstC, oSl, keyD, decide_true, decide_false, plainE, fzE, gIx, List.filterMap_cons, List.filterMap_nil, wipeE, restE, List.all_cons, List.all_nil, List.getD_eq_getElem?_getD, Option.getD_some, oMod_ok, oFdiv_ok, oPow_lit, oMul_lit, oRepr_bl, oEq_str, oNe_str, oEq_int, oNe_int, oEq_bl, oNe_bl, oEq_nil, oNe_nil, oIsi_int, oIsi_bool, oIsi_listed, str_beq, finF_some, finS_ol]
  exact hK _ _ h1 hx
section
variable {ns : List Int} {W : List D} {v m : D} {o6 : Option T} {s : Str}
abbrev envK (ns : List Int) (W : List D) (k : Int) (v m : D) (o6 : Option T) : Vs.Env := [some (.fz (.scr ns)), some (.ol none W), some (.fz (.int k)), none, some (.fz v), some (.fz m), o6, none]
theorem body_0 (hr : oReprD [.lst [v]] = some (.str s)) : l1_law_1 (envK ns W 0 v m o6) = .next (envK ns W 0 v m (some (.fz (.exn "BadNumber" [("part", v)])))) := of_go (by
  have c1 : F__law_caught none [.int 0, v, m] = .ok (.exn "BadNumber" [("part", v)]) none := by kernel_rfl
  have c2 : F__law_kinds none [.exn "BadNumber" [("part", v)]] = .ok (.lst [.bl true, .bl false, .bl false, .bl false, .bl false, .bl false, .bl false, .bl false, .bl false, .bl false, .bl false, .bl false, .bl false, .bl false]) none := by kernel_rfl
  have c3 : F__law_field none [.int 0, .exn "BadNumber" [("part", v)]] = .ok (.lst [v]) none := by kernel_rfl
  have c5 : oReprD [.lst [.bl true, .bl false, .bl false, .bl false, .bl false, .bl false, .bl false, .bl false, .bl false, .bl false, .bl false, .bl false, .bl false, .bl false]] = some (.str (PyData.shown (.list [.bool true, .bool false, .bool false, .bool false, .bool false, .bool false, .bool false, .bool false, .bool false, .bool false, .bool false, .bool false, .bool false, .bool false]))) := by kernel_rfl
  have c6 : eLc [7] (eRng1 (eCons (eC (.int 14)) eNil)) (kN 7) eYes (eBin oEq (eV 7) (eV 2)) (envK ns W 0 v m (some (.fz (.exn "BadNumber" [("part", v)])))) = .ok (.lst [.bl true, .bl false, .bl false, .bl false, .bl false, .bl false, .bl false, .bl false, .bl false, .bl false, .bl false, .bl false, .bl false, .bl false]) (envK ns W 0 v m (some (.fz (.exn "BadNumber" [("part", v)])))) := by kernel_rfl
  have c7 : (eBin oAdd (eLst (eCons (eV 4) eNil)) (eBin oMul (eLst (eCons (eV 5) eNil)) (eCal oIntC (eCons (eBin oEq (eV 2) (eC (.int 9))) eNil)))) (envK ns W 0 v m (some (.fz (.exn "BadNumber" [("part", v)])))) = .ok (.lst [v]) (envK ns W 0 v m (some (.fz (.exn "BadNumber" [("part", v)])))) := by kernel_rfl
  have c8 : eBl (eBin (oIn false) (eV 2) (eLst (eCons (eC (.int 2)) (eCons (eC (.int 3)) (eCons (eC (.int 5)) (eCons (eC (.int 6)) (eCons (eC (.int 8)) (eCons (eC (.int 9)) (eCons (eC (.int 11)) (eCons (eC (.int 13)) eNil)))))))))) (envK ns W 0 v m (some (.fz (.exn "BadNumber" [("part", v)])))) = .ok false (envK ns W 0 v m (some (.fz (.exn "BadNumber" [("part", v)])))) := by kernel_rfl
  have c9 : eTru (eIsC sub0 "ValueError" (eV 6)) (envK ns W 0 v m (some (.fz (.exn "BadNumber" [("part", v)])))) = .ok true (envK ns W 0 v m (some (.fz (.exn "BadNumber" [("part", v)])))) := by kernel_rfl
  have c10 : eBl (eBin oIs (eV 6) (eC .non)) (envK ns W 0 v m (some (.fz (.exn "BadNumber" [("part", v)])))) = .ok false (envK ns W 0 v m (some (.fz (.exn "BadNumber" [("part", v)])))) := by kernel_rfl
  unfold l1_law_1 l1_law_2 l1_law_3 l1_law_4
  simp only [k_ok, k_exc, kS_ok, kS_exc, kq_next, kq_ret, kq_brk, kq_cont, kq_exc, kq_retF, go_ok, go_exc, go_next, go_ret, go_brk, go_cont, go_excS, go_retF, go_some, go_v, getV_fz, go_c, go_bin, go_bin1, go_bin2, go_un, go_un1, go_tru, go_tru1, go_bl, go_bl1, go_and, go_andT, go_andF, go_or, go_orT, go_orF, go_not, go_not1, go_andV, go_orV, go_andV1, go_orV1, go_andVT, go_andVF, go_orVT, go_orVF, go_notV, go_notV1, go_notV2, go_if, go_ifT, go_ifF, go_nil, go_cons, go_cons1, go_cons2, go_chk, go_lst, go_tup, go_lst1, go_tup1, go_cal, go_cal1, go_isi, go_isi1, go_seq, go_sRet, go_ret1, go_sExpr, go_ex1, go_sIf, go_sifT, go_sifF, go_optS, go_sAsg, go_asg1, go_sSet, go_set1, go_sPar, go_par1, go_sAug, go_augV, kN_eq, kNil_eq, kCons_eq, kT_eq, rdE_eq, rdO_fz, rdO_ol, ownE_eq, owO_ol, go_binL, go_binL1, go_binL2, oSw_eq, go_binR, go_binR1, go_sPut, go_put1, go_putO, go_put2, go_putP, go_putN, go_retF1, go_fLst, go_fl1, go_sOwn, go_own1, go_call, go_call1, kFR_ok, kFR_exc, go_callIo, go_io0, go_io1, go_io2, kIo_ok, kIo_exc, go_callN, go_calln1, go_calln2, go_okF, go_excF, kRun_next, kRun_ret, kRun_exc, finF_none, finF_some, finS_ol, go_finO, go_finX, go_items, go_items_lst, go_items_tup, go_rng1, go_rng1_ok, go_rng2, go_rng2_ok, go_zip, go_zip_l, go_zip_t, go_enum, go_enum_l, go_sFor, go_for1, kLoop_next, kLoop_cont, kLoop_brk, kLoop_ret, kLoop_exc, turn_next, turn_cont, go_lc, go_lc1, kLc_ok, elem_ok, go_yes, go_sl, go_sl1, go_sl2, go_sl3, go_noP, go_p, go_p1, go_rev, go_rev1, go_chain, go_ch1, go_ch2, go_ch3T, go_ch3F, go_ch4, go_dic, go_dic1, go_prs_nil, go_prs, go_prs1, go_prs2, go_prs3, go_prs4, kW_ok, go_fcall, go_fcall1, kRunW_ok, go_okW, go_cf, go_cf1, oAdd_int, oAdd_bl, atI_0, atI_1, atI_2, atI_3, ixN_0, ixN_1, ixN_2, sz_lit, go_isC, go_isc1, go_fld, go_fld1, go_eX0, go_ex01, go_eX, go_ex1x, go_sRaise, go_rai1, go_sTry, kTry_next, kTry_ret, kHan_next, kHan_ret, List.getElem?_cons_zero, List.getElem?_cons_succ, List.set_cons_zero, List.set_cons_succ, List.nil_append, List.cons_append, List.append_nil, List.length_cons, List.length_nil, Nat.reduceSub, Nat.reduceLeDiff, Nat.zero_add, Option.bind_some, Option.map_some, reduceCtorEq, Int.reduceLT, Int.reduceLE, Int.reduceNeg, Int.reducePow, Int.reduceToNat, and_true, true_and, and_self, ite_true, ite_false, if_true, if_false, Bool.not_true, Bool.not_false, Bool.true_and, Bool.false_and, Bool.and_true, Bool.and_false, Bool.true_or, Bool.false_or, oSub, oNeg, oLt, oLe, oGt, oGe, oIs, oIsNot, Vs.isNon, oTru, oBl, oIx, oLen, oAbs, oIntC, oMax2, oMin2, oTupC, oLstC, oSl, keyD, decide_true, decide_false, plainE, fzE, gIx, List.filterMap_cons, List.filterMap_nil, wipeE, restE, List.all_cons, List.all_nil, List.getD_eq_getElem?_getD, Option.getD_some, oMod_ok, oFdiv_ok, oPow_lit, oMul_lit, oRepr_bl, oEq_str, oNe_str, oEq_int, oNe_int, oEq_bl, oNe_bl, oEq_nil, oNe_nil, oIsi_int, oIsi_bool, oIsi_listed, str_beq, envK, c1, c2, c3, c5, c6, c7, c8, c9, c10, hr])
theorem body_1 (hr : oReprD [.lst [v]] = some (.str s)) : l1_law_1 (envK ns W 1 v m o6) = .next (envK ns W 1 v m (some (.fz (.exn "BadValue" [("part", v)])))) := of_go (by
  have c1 : F__law_caught none [.int 1, v, m] = .ok (.exn "BadValue" [("part", v)]) none := by kernel_rfl
  have c2 : F__law_kinds none [.exn "BadValue" [("part", v)]] = .ok (.lst [.bl false, .bl true, .bl false, .bl false, .bl false, .bl false, .bl false, .bl false, .bl false, .bl false, .bl false, .bl false, .bl false, .bl false]) none := by kernel_rfl
  have c3 : F__law_field none [.int 1, .exn "BadValue" [("part", v)]] = .ok (.lst [v]) none := by kernel_rfl
  have c5 : oReprD [.lst [.bl false, .bl true, .bl false, .bl false, .bl false, .bl false, .bl false, .bl false, .bl false, .bl false, .bl false, .bl false, .bl false, .bl false]] = some (.str (PyData.shown (.list [.bool false, .bool true, .bool false, .bool false, .bool false, .bool false, .bool false, .bool false, .bool false, .bool false, .bool false, .bool false, .bool false, .bool false]))) := by kernel_rfl
  have c6 : eLc [7] (eRng1 (eCons (eC (.int 14)) eNil)) (kN 7) eYes (eBin oEq (eV 7) (eV 2)) (envK ns W 1 v m (some (.fz (.exn "BadValue" [("part", v)])))) = .ok (.lst [.bl false, .bl true, .bl false, .bl false, .bl false, .bl false, .bl false, .bl false, .bl false, .bl false, .bl false, .bl false, .bl false, .bl false]) (envK ns W 1 v m (some (.fz (.exn "BadValue" [("part", v)])))) := by kernel_rfl
  have c7 : (eBin oAdd (eLst (eCons (eV 4) eNil)) (eBin oMul (eLst (eCons (eV 5) eNil)) (eCal oIntC (eCons (eBin oEq (eV 2) (eC (.int 9))) eNil)))) (envK ns W 1 v m (some (.fz (.exn "BadValue" [("part", v)])))) = .ok (.lst [v]) (envK ns W 1 v m (some (.fz (.exn "BadValue" [("part", v)])))) := by kernel_rfl
  have c8 : eBl (eBin (oIn false) (eV 2) (eLst (eCons (eC (.int 2)) (eCons (eC (.int 3)) (eCons (eC (.int 5)) (eCons (eC (.int 6)) (eCons (eC (.int 8)) (eCons (eC (.int 9)) (eCons (eC (.int 11)) (eCons (eC (.int 13)) eNil)))))))))) (envK ns W 1 v m (some (.fz (.exn "BadValue" [("part", v)])))) = .ok false (envK ns W 1 v m (some (.fz (.exn "BadValue" [("part", v)])))) := by kernel_rfl
  have c9 : eTru (eIsC sub0 "ValueError" (eV 6)) (envK ns W 1 v m (some (.fz (.exn "BadValue" [("part", v)])))) = .ok true (envK ns W 1 v m (some (.fz (.exn "BadValue" [("part", v)])))) := by kernel_rfl
  have c10 : eBl (eBin oIs (eV 6) (eC .non)) (envK ns W 1 v m (some (.fz (.exn "BadValue" [("part", v)])))) = .ok false (envK ns W 1 v m (some (.fz (.exn "BadValue" [("part", v)])))) := by kernel_rfl
  unfold l1_law_1 l1_law_2 l1_law_3 l1_law_4
  simp only [k_ok, k_exc, kS_ok, kS_exc, kq_next, kq_ret, kq_brk, kq_cont, kq_exc, kq_retF, go_ok, go_exc, go_next, go_ret, go_brk, go_cont, go_excS, go_retF, go_some, go_v, getV_fz, go_c, go_bin, go_bin1, go_bin2, go_un, go_un1, go_tru, go_tru1, go_bl, go_bl1, go_and, go_andT, go_andF, go_or, go_orT, go_orF, go_not, go_not1, go_andV, go_orV, go_andV1, go_orV1, go_andVT, go_andVF, go_orVT, go_orVF, go_notV, go_notV1, go_notV2, go_if, go_ifT, go_ifF, go_nil, go_cons, go_cons1, go_cons2, go_chk, go_lst, go_tup, go_lst1, go_tup1, go_cal, go_cal1, go_isi, go_isi1, go_seq, go_sRet, go_ret1, go_sExpr, go_ex1, go_sIf, go_sifT, go_sifF, go_optS, go_sAsg, go_asg1, go_sSet, go_set1, go_sPar, go_par1, go_sAug, go_augV, kN_eq, kNil_eq, kCons_eq, kT_eq, rdE_eq, rdO_fz, rdO_ol, ownE_eq, owO_ol, go_binL, go_binL1, go_binL2, oSw_eq, go_binR, go_binR1, go_sPut, go_put1, go_putO, go_put2, go_putP, go_putN, go_retF1, go_fLst, go_fl1, go_sOwn, go_own1, go_call, go_call1, kFR_ok, kFR_exc, go_callIo, go_io0, go_io1, go_io2, kIo_ok, kIo_exc, go_callN, go_calln1, go_calln2, go_okF, go_excF, kRun_next, kRun_ret, kRun_exc, finF_none, finF_some, finS_ol, go_finO, go_finX, go_items, go_items_lst, go_items_tup, go_rng1, go_rng1_ok, go_rng2, go_rng2_ok, go_zip, go_zip_l, go_zip_t, go_enum, go_enum_l, go_sFor, go_for1, kLoop_next, kLoop_cont, kLoop_brk, kLoop_ret, kLoop_exc, turn_next, turn_cont, go_lc, go_lc1, kLc_ok, elem_ok, go_yes, go_sl, go_sl1, go_sl2, go_sl3, go_noP, go_p, go_p1, go_rev, go_rev1, go_chain, go_ch1, go_ch2, go_ch3T, go_ch3F, go_ch4, go_dic, go_dic1, go_prs_nil, go_prs, go_prs1, go_prs2, go_prs3, go_prs4, kW_ok, go_fcall, go_fcall1, kRunW_ok, go_okW, go_cf, go_cf1, oAdd_int, oAdd_bl, atI_0, atI_1, atI_2, atI_3, ixN_0, ixN_1, ixN_2, sz_lit, go_isC, go_isc1, go_fld, go_fld1, go_eX0, go_ex01, go_eX, go_ex1x, go_sRaise, go_rai1, go_sTry, kTry_next, kTry_ret, kHan_next, kHan_ret, List.getElem?_cons_zero, List.getElem?_cons_succ, List.set_cons_zero, List.set_cons_succ, List.nil_append, List.cons_append, List.append_nil, List.length_cons, List.length_nil, Nat.reduceSub, Nat.reduceLeDiff, Nat.zero_add, Option.bind_some, Option.map_some, reduceCtorEq, Int.reduceLT, Int.reduceLE, Int.reduceNeg, Int.reducePow, Int.reduceToNat, and_true, true_and, and_self, ite_true, ite_false, if_true, if_false, Bool.not_true, Bool.not_false, Bool.true_and, Bool.false_and, Bool.and_true, Bool.and_false, Bool.true_or, Bool.false_or, oSub, oNeg, oLt, oLe, oGt, oGe, oIs, oIsNot, Vs.isNon, oTru, oBl, oIx, oLen, oAbs, oIntC, oMax2, oMin2, oTupC, oLstC, oSl, keyD, decide_true, decide_false, plainE, fzE, gIx, List.filterMap_cons, List.filterMap_nil, wipeE, restE, List.all_cons, List.all_nil, List.getD_eq_getElem?_getD, Option.getD_some, oMod_ok, oFdiv_ok, oPow_lit, oMul_lit, oRepr_bl, oEq_str, oNe_str, oEq_int, oNe_int, oEq_bl, oNe_bl, oEq_nil, oNe_nil, oIsi_int, oIsi_bool, oIsi_listed, str_beq, envK, c1, c2, c3, c5, c6, c7, c8, c9, c10, hr])
theorem body_2 (hr : oReprD [.lst [v]] = some (.str s)) : l1_law_1 (envK ns W 2 v m o6) = .next (envK ns W 2 v m (some (.fz (.exn "BadYard" [("part", v)])))) := of_go (by
  have c1 : F__law_caught none [.int 2, v, m] = .ok (.exn "BadYard" [("part", v)]) none := by kernel_rfl
  have c2 : F__law_kinds none [.exn "BadYard" [("part", v)]] = .ok (.lst [.bl false, .bl false, .bl true, .bl false, .bl false, .bl false, .bl false, .bl false, .bl false, .bl false, .bl false, .bl false, .bl false, .bl false]) none := by kernel_rfl
  have c3 : F__law_field none [.int 2, .exn "BadYard" [("part", v)]] = .ok (.lst [v]) none := by kernel_rfl
  have c4 : F__law_by_name none [.int 2, v, m] = .ok (.exn "BadYard" [("part", v)]) none := by kernel_rfl
  have c5 : oReprD [.lst [.bl false, .bl false, .bl true, .bl false, .bl false, .bl false, .bl false, .bl false, .bl false, .bl false, .bl false, .bl false, .bl false, .bl false]] = some (.str (PyData.shown (.list [.bool false, .bool false, .bool true, .bool false, .bool false, .bool false, .bool false, .bool false, .bool false, .bool false, .bool false, .bool false, .bool false, .bool false]))) := by kernel_rfl
  have c6 : eLc [7] (eRng1 (eCons (eC (.int 14)) eNil)) (kN 7) eYes (eBin oEq (eV 7) (eV 2)) (envK ns W 2 v m (some (.fz (.exn "BadYard" [("part", v)])))) = .ok (.lst [.bl false, .bl false, .bl true, .bl false, .bl false, .bl false, .bl false, .bl false, .bl false, .bl false, .bl false, .bl false, .bl false, .bl false]) (envK ns W 2 v m (some (.fz (.exn "BadYard" [("part", v)])))) := by kernel_rfl
  have c7 : (eBin oAdd (eLst (eCons (eV 4) eNil)) (eBin oMul (eLst (eCons (eV 5) eNil)) (eCal oIntC (eCons (eBin oEq (eV 2) (eC (.int 9))) eNil)))) (envK ns W 2 v m (some (.fz (.exn "BadYard" [("part", v)])))) = .ok (.lst [v]) (envK ns W 2 v m (some (.fz (.exn "BadYard" [("part", v)])))) := by kernel_rfl
  have c8 : eBl (eBin (oIn false) (eV 2) (eLst (eCons (eC (.int 2)) (eCons (eC (.int 3)) (eCons (eC (.int 5)) (eCons (eC (.int 6)) (eCons (eC (.int 8)) (eCons (eC (.int 9)) (eCons (eC (.int 11)) (eCons (eC (.int 13)) eNil)))))))))) (envK ns W 2 v m (some (.fz (.exn "BadYard" [("part", v)])))) = .ok true (envK ns W 2 v m (some (.fz (.exn "BadYard" [("part", v)])))) := by kernel_rfl
  have c9 : eTru (eIsC sub0 "ValueError" (eV 6)) (envK ns W 2 v m (some (.fz (.exn "BadYard" [("part", v)])))) = .ok true (envK ns W 2 v m (some (.fz (.exn "BadYard" [("part", v)])))) := by kernel_rfl
  have c10 : eBl (eBin oIs (eV 6) (eC .non)) (envK ns W 2 v m (some (.fz (.exn "BadYard" [("part", v)])))) = .ok false (envK ns W 2 v m (some (.fz (.exn "BadYard" [("part", v)])))) := by kernel_rfl
  unfold l1_law_1 l1_law_2 l1_law_3 l1_law_4
  simp only [k_ok, k_exc, kS_ok, kS_exc, kq_next, kq_ret, kq_brk, kq_cont, kq_exc, kq_retF, go_ok, go_exc, go_next, go_ret, go_brk, go_cont, go_excS, go_retF, go_some, go_v, getV_fz, go_c, go_bin, go_bin1, go_bin2, go_un, go_un1, go_tru, go_tru1, go_bl, go_bl1, go_and, go_andT, go_andF, go_or, go_orT, go_orF, go_not, go_not1, go_andV, go_orV, go_andV1, go_orV1, go_andVT, go_andVF, go_orVT, go_orVF, go_notV, go_notV1, go_notV2, go_if, go_ifT, go_ifF, go_nil, go_cons, go_cons1, go_cons2, go_chk, go_lst, go_tup, go_lst1, go_tup1, go_cal, go_cal1, go_isi, go_isi1, go_seq, go_sRet, go_ret1, go_sExpr, go_ex1, go_sIf, go_sifT, go_sifF, go_optS, go_sAsg, go_asg1, go_sSet, go_set1, go_sPar, go_par1, go_sAug, go_augV, kN_eq, kNil_eq, kCons_eq, kT_eq, rdE_eq, rdO_fz, rdO_ol, ownE_eq, owO_ol, go_binL, go_binL1, go_binL2, oSw_eq, go_binR, go_binR1, go_sPut, go_put1, go_putO, go_put2, go_putP, go_putN, go_retF1, go_fLst, go_fl1, go_sOwn, go_own1, go_call, go_call1, kFR_ok, kFR_exc, go_callIo, go_io0, go_io1, go_io2, kIo_ok, kIo_exc, go_callN, go_calln1, go_calln2, go_okF, go_excF, kRun_next, kRun_ret, kRun_exc, finF_none, finF_some, finS_ol, go_finO, go_finX, go_items, go_items_lst, go_items_tup, go_rng1, go_rng1_ok, go_rng2, go_rng2_ok, go_zip, go_zip_l, go_zip_t, go_enum, go_enum_l, go_sFor, go_for1, kLoop_next, kLoop_cont, kLoop_brk, kLoop_ret, kLoop_exc, turn_next, turn_cont, go_lc, go_lc1, kLc_ok, elem_ok, go_yes, go_sl, go_sl1, go_sl2, go_sl3, go_noP, go_p, go_p1, go_rev, go_rev1, go_chain, go_ch1, go_ch2, go_ch3T, go_ch3F, go_ch4, go_dic, go_dic1, go_prs_nil, go_prs, go_prs1, go_prs2, go_prs3, go_prs4, kW_ok, go_fcall, go_fcall1, kRunW_ok, go_okW, go_cf, go_cf1, oAdd_int, oAdd_bl, atI_0, atI_1, atI_2, atI_3, ixN_0, ixN_1, ixN_2, sz_lit, go_isC, go_isc1, go_fld, go_fld1, go_eX0, go_ex01, go_eX, go_ex1x, go_sRaise, go_rai1, go_sTry, kTry_next, kTry_ret, kHan_next, kHan_ret, List.getElem?_cons_zero, List.getElem?_cons_succ, List.set_cons_zero, List.set_cons_succ, List.nil_append, List.cons_append, List.append_nil, List.length_cons, List.length_nil, Nat.reduceSub, Nat.reduceLeDiff, Nat.zero_add, Option.bind_some, Option.map_some, reduceCtorEq, Int.reduceLT, Int.reduceLE, Int.reduceNeg, Int.reducePow, Int.reduceToNat, and_true, true_and, and_self, ite_true, ite_false, if_true, if_false, Bool.not_true, Bool.not_false, Bool.true_and, Bool.false_and, Bool.and_true, Bool.and_false, Bool.true_or, Bool.false_or, oSub, oNeg, oLt, oLe, oGt, oGe, oIs, oIsNot, Vs.isNon, oTru, oBl, oIx, oLen, oAbs, oIntC, oMax2, oMin2, oTupC, oLstC, oSl, keyD, decide_true, decide_false, plainE, fzE, gIx, List.filterMap_cons, List.filterMap_nil, wipeE, restE, List.all_cons, List.all_nil, List.getD_eq_getElem?_getD, Option.getD_some, oMod_ok, oFdiv_ok, oPow_lit, oMul_lit, oRepr_bl, oEq_str, oNe_str, oEq_int, oNe_int, oEq_bl, oNe_bl, oEq_nil, oNe_nil, oIsi_int, oIsi_bool, oIsi_listed, str_beq, envK, c1, c2, c3, c4, c5, c6, c7, c8, c9, c10, hr])
theorem body_3 (hr : oReprD [.lst [v]] = some (.str s)) : l1_law_1 (envK ns W 3 v m o6) = .next (envK ns W 3 v m (some (.fz (.exn "BadCalendar" [("part", v)])))) := of_go (by
  have c1 : F__law_caught none [.int 3, v, m] = .ok (.exn "BadCalendar" [("part", v)]) none := by kernel_rfl
  have c2 : F__law_kinds none [.exn "BadCalendar" [("part", v)]] = .ok (.lst [.bl false, .bl false, .bl false, .bl true, .bl false, .bl false, .bl false, .bl false, .bl false, .bl false, .bl false, .bl false, .bl false, .bl false]) none := by kernel_rfl
  have c3 : F__law_field none [.int 3, .exn "BadCalendar" [("part", v)]] = .ok (.lst [v]) none := by kernel_rfl
  have c4 : F__law_by_name none [.int 3, v, m] = .ok (.exn "BadCalendar" [("part", v)]) none := by kernel_rfl
  have c5 : oReprD [.lst [.bl false, .bl false, .bl false, .bl true, .bl false, .bl false, .bl false, .bl false, .bl false, .bl false, .bl false, .bl false, .bl false, .bl false]] = some (.str (PyData.shown (.list [.bool false, .bool false, .bool false, .bool true, .bool false, .bool false, .bool false, .bool false, .bool false, .bool false, .bool false, .bool false, .bool false, .bool false]))) := by kernel_rfl
  have c6 : eLc [7] (eRng1 (eCons (eC (.int 14)) eNil)) (kN 7) eYes (eBin oEq (eV 7) (eV 2)) (envK ns W 3 v m (some (.fz (.exn "BadCalendar" [("part", v)])))) = .ok (.lst [.bl false, .bl false, .bl false, .bl true, .bl false, .bl false, .bl false, .bl false, .bl false, .bl false, .bl false, .bl false, .bl false, .bl false]) (envK ns W 3 v m (some (.fz (.exn "BadCalendar" [("part", v)])))) := by kernel_rfl
  have c7 : (eBin oAdd (eLst (eCons (eV 4) eNil)) (eBin oMul (eLst (eCons (eV 5) eNil)) (eCal oIntC (eCons (eBin oEq (eV 2) (eC (.int 9))) eNil)))) (envK ns W 3 v m (some (.fz (.exn "BadCalendar" [("part", v)])))) = .ok (.lst [v]) (envK ns W 3 v m (some (.fz (.exn "BadCalendar" [("part", v)])))) := by kernel_rfl
  have c8 : eBl (eBin (oIn false) (eV 2) (eLst (eCons (eC (.int 2)) (eCons (eC (.int 3)) (eCons (eC (.int 5)) (eCons (eC (.int 6)) (eCons (eC (.int 8)) (eCons (eC (.int 9)) (eCons (eC (.int 11)) (eCons (eC (.int 13)) eNil)))))))))) (envK ns W 3 v m (some (.fz (.exn "BadCalendar" [("part", v)])))) = .ok true (envK ns W 3 v m (some (.fz (.exn "BadCalendar" [("part", v)])))) := by kernel_rfl
  have c9 : eTru (eIsC sub0 "ValueError" (eV 6)) (envK ns W 3 v m (some (.fz (.exn "BadCalendar" [("part", v)])))) = .ok true (envK ns W 3 v m (some (.fz (.exn "BadCalendar" [("part", v)])))) := by kernel_rfl
  have c10 : eBl (eBin oIs (eV 6) (eC .non)) (envK ns W 3 v m (some (.fz (.exn "BadCalendar" [("part", v)])))) = .ok false (envK ns W 3 v m (some (.fz (.exn "BadCalendar" [("part", v)])))) := by kernel_rfl
  unfold l1_law_1 l1_law_2 l1_law_3 l1_law_4
  simp only [k_ok, k_exc, kS_ok, kS_exc, kq_next, kq_ret, kq_brk, kq_cont, kq_exc, kq_retF, go_ok, go_exc, go_next, go_ret, go_brk, go_cont, go_excS, go_retF, go_some, go_v, getV_fz, go_c, go_bin, go_bin1, go_bin2, go_un, go_un1, go_tru, go_tru1, go_bl, go_bl1, go_and, go_andT, go_andF, go_or, go_orT, go_orF, go_not, go_not1, go_andV, go_orV, go_andV1, go_orV1, go_andVT, go_andVF, go_orVT, go_orVF, go_notV, go_notV1, go_notV2, go_if, go_ifT, go_ifF, go_nil, go_cons, go_cons1, go_cons2, go_chk, go_lst, go_tup, go_lst1, go_tup1, go_cal, go_cal1, go_isi, go_isi1, go_seq, go_sRet, go_ret1, go_sExpr, go_ex1, go_sIf, go_sifT, go_sifF, go_optS, go_sAsg, go_asg1, go_sSet, go_set1, go_sPar, go_par1, go_sAug, go_augV, kN_eq, kNil_eq, kCons_eq, kT_eq, rdE_eq, rdO_fz, rdO_ol, ownE_eq, owO_ol, go_binL, go_binL1, go_binL2, oSw_eq, go_binR, go_binR1, go_sPut, go_put1, go_putO, go_put2, go_putP, go_putN, go_retF1, go_fLst, go_fl1, go_sOwn, go_own1, go_call, go_call1, kFR_ok, kFR_exc, go_callIo, go_io0, go_io1, go_io2, kIo_ok, kIo_exc, go_callN, go_calln1, go_calln2, go_okF, go_excF, kRun_next, kRun_ret, kRun_exc, finF_none, finF_some, finS_ol, go_finO, go_finX, go_items, go_items_lst, go_items_tup, go_rng1, go_rng1_ok, go_rng2, go_rng2_ok, go_zip, go_zip_l, go_zip_t, go_enum, go_enum_l, go_sFor, go_for1, kLoop_next, kLoop_cont, kLoop_brk, kLoop_ret, kLoop_exc, turn_next, turn_cont, go_lc, go_lc1, kLc_ok, elem_ok, go_yes, go_sl, go_sl1, go_sl2, go_sl3, go_noP, go_p, go_p1, go_rev, go_rev1, go_chain, go_ch1, go_ch2, go_ch3T, go_ch3F, go_ch4, go_dic, go_dic1, go_prs_nil, go_prs, go_prs1, go_prs2, go_prs3, go_prs4, kW_ok, go_fcall, go_fcall1, kRunW_ok, go_okW, go_cf, go_cf1, oAdd_int, oAdd_bl, atI_0, atI_1, atI_2, atI_3, ixN_0, ixN_1, ixN_2, sz_lit, go_isC, go_isc1, go_fld, go_fld1, go_eX0, go_ex01, go_eX, go_ex1x, go_sRaise, go_rai1, go_sTry, kTry_next, kTry_ret, kHan_next, kHan_ret, List.getElem?_cons_zero, List.getElem?_cons_succ, List.set_cons_zero, List.set_cons_succ, List.nil_append, List.cons_append, List.append_nil, List.length_cons, List.length_nil, Nat.reduceSub, Nat.reduceLeDiff, Nat.zero_add, Option.bind_some, Option.map_some, reduceCtorEq, Int.reduceLT, Int.reduceLE, Int.reduceNeg, Int.reducePow, Int.reduceToNat, and_true, true_and, and_self, ite_true, ite_false, if_true, if_false, Bool.not_true, Bool.not_false, Bool.true_and, Bool.false_and, Bool.and_true, Bool.and_false, Bool.true_or, Bool.false_or, oSub, oNeg, oLt, oLe, oGt, oGe, oIs, oIsNot, Vs.isNon, oTru, oBl, oIx, oLen, oAbs, oIntC, oMax2, oMin2, oTupC, oLstC, oSl, keyD, decide_true, decide_false, plainE, fzE, gIx, List.filterMap_cons, List.filterMap_nil, wipeE, restE, List.all_cons, List.all_nil, List.getD_eq_getElem?_getD, Option.getD_some, oMod_ok, oFdiv_ok, oPow_lit, oMul_lit, oRepr_bl, oEq_str, oNe_str, oEq_int, oNe_int, oEq_bl, oNe_bl, oEq_nil, oNe_nil, oIsi_int, oIsi_bool, oIsi_listed, str_beq, envK, c1, c2, c3, c4, c5, c6, c7, c8, c9, c10, hr])
theorem body_4 (hr : oReprD [.lst [v]] = some (.str s)) : l1_law_1 (envK ns W 4 v m o6) = .next (envK ns W 4 v m (some (.fz (.exn "BadStock" [("part", v)])))) := of_go (by
  have c1 : F__law_caught none [.int 4, v, m] = .ok (.exn "BadStock" [("part", v)]) none := by kernel_rfl
  have c2 : F__law_kinds none [.exn "BadStock" [("part", v)]] = .ok (.lst [.bl false, .bl false, .bl false, .bl false, .bl true, .bl false, .bl false, .bl false, .bl false, .bl false, .bl false, .bl false, .bl false, .bl false]) none := by kernel_rfl
  have c3 : F__law_field none [.int 4, .exn "BadStock" [("part", v)]] = .ok (.lst [v]) none := by kernel_rfl
  have c5 : oReprD [.lst [.bl false, .bl false, .bl false, .bl false, .bl true, .bl false, .bl false, .bl false, .bl false, .bl false, .bl false, .bl false, .bl false, .bl false]] = some (.str (PyData.shown (.list [.bool false, .bool false, .bool false, .bool false, .bool true, .bool false, .bool false, .bool false, .bool false, .bool false, .bool false, .bool false, .bool false, .bool false]))) := by kernel_rfl
  have c6 : eLc [7] (eRng1 (eCons (eC (.int 14)) eNil)) (kN 7) eYes (eBin oEq (eV 7) (eV 2)) (envK ns W 4 v m (some (.fz (.exn "BadStock" [("part", v)])))) = .ok (.lst [.bl false, .bl false, .bl false, .bl false, .bl true, .bl false, .bl false, .bl false, .bl false, .bl false, .bl false, .bl false, .bl false, .bl false]) (envK ns W 4 v m (some (.fz (.exn "BadStock" [("part", v)])))) := by kernel_rfl
  have c7 : (eBin oAdd (eLst (eCons (eV 4) eNil)) (eBin oMul (eLst (eCons (eV 5) eNil)) (eCal oIntC (eCons (eBin oEq (eV 2) (eC (.int 9))) eNil)))) (envK ns W 4 v m (some (.fz (.exn "BadStock" [("part", v)])))) = .ok (.lst [v]) (envK ns W 4 v m (some (.fz (.exn "BadStock" [("part", v)])))) := by kernel_rfl
  have c8 : eBl (eBin (oIn false) (eV 2) (eLst (eCons (eC (.int 2)) (eCons (eC (.int 3)) (eCons (eC (.int 5)) (eCons (eC (.int 6)) (eCons (eC (.int 8)) (eCons (eC (.int 9)) (eCons (eC (.int 11)) (eCons (eC (.int 13)) eNil)))))))))) (envK ns W 4 v m (some (.fz (.exn "BadStock" [("part", v)])))) = .ok false (envK ns W 4 v m (some (.fz (.exn "BadStock" [("part", v)])))) := by kernel_rfl
  have c9 : eTru (eIsC sub0 "ValueError" (eV 6)) (envK ns W 4 v m (some (.fz (.exn "BadStock" [("part", v)])))) = .ok true (envK ns W 4 v m (some (.fz (.exn "BadStock" [("part", v)])))) := by kernel_rfl
  have c10 : eBl (eBin oIs (eV 6) (eC .non)) (envK ns W 4 v m (some (.fz (.exn "BadStock" [("part", v)])))) = .ok false (envK ns W 4 v m (some (.fz (.exn "BadStock" [("part", v)])))) := by kernel_rfl
  unfold l1_law_1 l1_law_2 l1_law_3 l1_law_4
  simp only [k_ok, k_exc, kS_ok, kS_exc, kq_next, kq_ret, kq_brk, kq_cont, kq_exc, kq_retF, go_ok, go_exc, go_next, go_ret, go_brk, go_cont, go_excS, go_retF, go_some, go_v, getV_fz, go_c, go_bin, go_bin1, go_bin2, go_un, go_un1, go_tru, go_tru1, go_bl, go_bl1, go_and, go_andT, go_andF, go_or, go_orT, go_orF, go_not, go_not1, go_andV, go_orV, go_andV1, go_orV1, go_andVT, go_andVF, go_orVT, go_orVF, go_notV, go_notV1, go_notV2, go_if, go_ifT, go_ifF, go_nil, go_cons, go_cons1, go_cons2, go_chk, go_lst, go_tup, go_lst1, go_tup1, go_cal, go_cal1, go_isi, go_isi1, go_seq, go_sRet, go_ret1, go_sExpr, go_ex1, go_sIf, go_sifT, go_sifF, go_optS, go_sAsg, go_asg1, go_sSet, go_set1, go_sPar, go_par1, go_sAug, go_augV, kN_eq, kNil_eq, kCons_eq, kT_eq, rdE_eq, rdO_fz, rdO_ol, ownE_eq, owO_ol, go_binL, go_binL1, go_binL2, oSw_eq, go_binR, go_binR1, go_sPut, go_put1, go_putO, go_put2, go_putP, go_putN, go_retF1, go_fLst, go_fl1, go_sOwn, go_own1, go_call, go_call1, kFR_ok, kFR_exc, go_callIo, go_io0, go_io1, go_io2, kIo_ok, kIo_exc, go_callN, go_calln1, go_calln2, go_okF, go_excF, kRun_next, kRun_ret, kRun_exc, finF_none, finF_some, finS_ol, go_finO, go_finX, go_items, go_items_lst, go_items_tup, go_rng1, go_rng1_ok, go_rng2, go_rng2_ok, go_zip, go_zip_l, go_zip_t, go_enum, go_enum_l, go_sFor, go_for1, kLoop_next, kLoop_cont, kLoop_brk, kLoop_ret, kLoop_exc, turn_next, turn_cont, go_lc, go_lc1, kLc_ok, elem_ok, go_yes, go_sl, go_sl1, go_sl2, go_sl3, go_noP, go_p, go_p1, go_rev, go_rev1, go_chain, go_ch1, go_ch2, go_ch3T, go_ch3F, go_ch4, go_dic, go_dic1, go_prs_nil, go_prs, go_prs1, go_prs2, go_prs3, go_prs4, kW_ok, go_fcall, go_fcall1, kRunW_ok, go_okW, go_cf, go_cf1, oAdd_int, oAdd_bl, atI_0, atI_1, atI_2, atI_3, ixN_0, ixN_1, ixN_2, sz_lit, go_isC, go_isc1, go_fld, go_fld1, go_eX0, go_ex01, go_eX, go_ex1x, go_sRaise, go_rai1, go_sTry, kTry_next, kTry_ret, kHan_next, kHan_ret, List.getElem?_cons_zero, List.getElem?_cons_succ, List.set_cons_zero, List.set_cons_succ, List.nil_append, List.cons_append, List.append_nil, List.length_cons, List.length_nil, Nat.reduceSub, Nat.reduceLeDiff, Nat.zero_add, Option.bind_some, Option.map_some, reduceCtorEq, Int.reduceLT, Int.reduceLE, Int.reduceNeg, Int.reducePow, Int.reduceToNat, and_true, true_and, and_self, ite_true, ite_false, if_true, if_false, Bool.not_true, Bool.not_false, Bool.true_and, Bool.false_and, Bool.and_true, Bool.and_false, Bool.true_or, Bool.false_or, oSub, oNeg, oLt, oLe, oGt, oGe, oIs, oIsNot, Vs.isNon, oTru, oBl, oIx, oLen, oAbs, oIntC, oMax2, oMin2, oTupC, oLstC, oSl, keyD, decide_true, decide_false, plainE, fzE, gIx, List.filterMap_cons, List.filterMap_nil, wipeE, restE, List.all_cons, List.all_nil, List.getD_eq_getElem?_getD, Option.getD_some, oMod_ok, oFdiv_ok, oPow_lit, oMul_lit, oRepr_bl, oEq_str, oNe_str, oEq_int, oNe_int, oEq_bl, oNe_bl, oEq_nil, oNe_nil, oIsi_int, oIsi_bool, oIsi_listed, str_beq, envK, c1, c2, c3, c5, c6, c7, c8, c9, c10, hr])
theorem body_5 (hr : oReprD [.lst [v]] = some (.str s)) : l1_law_1 (envK ns W 5 v m o6) = .next (envK ns W 5 v m (some (.fz (.exn "BadRow" [("part", v)])))) := of_go (by
  have c1 : F__law_caught none [.int 5, v, m] = .ok (.exn "BadRow" [("part", v)]) none := by kernel_rfl
  have c2 : F__law_kinds none [.exn "BadRow" [("part", v)]] = .ok (.lst [.bl false, .bl false, .bl false, .bl false, .bl false, .bl true, .bl false, .bl false, .bl false, .bl false, .bl false, .bl false, .bl false, .bl false]) none := by kernel_rfl
  have c3 : F__law_field none [.int 5, .exn "BadRow" [("part", v)]] = .ok (.lst [v]) none := by kernel_rfl
  have c4 : F__law_by_name none [.int 5, v, m] = .ok (.exn "BadRow" [("part", v)]) none := by kernel_rfl
  have c5 : oReprD [.lst [.bl false, .bl false, .bl false, .bl false, .bl false, .bl true, .bl false, .bl false, .bl false, .bl false, .bl false, .bl false, .bl false, .bl false]] = some (.str (PyData.shown (.list [.bool false, .bool false, .bool false, .bool false, .bool false, .bool true, .bool false, .bool false, .bool false, .bool false, .bool false, .bool false, .bool false, .bool false]))) := by kernel_rfl
  have c6 : eLc [7] (eRng1 (eCons (eC (.int 14)) eNil)) (kN 7) eYes (eBin oEq (eV 7) (eV 2)) (envK ns W 5 v m (some (.fz (.exn "BadRow" [("part", v)])))) = .ok (.lst [.bl false, .bl false, .bl false, .bl false, .bl false, .bl true, .bl false, .bl false, .bl false, .bl false, .bl false, .bl false, .bl false, .bl false]) (envK ns W 5 v m (some (.fz (.exn "BadRow" [("part", v)])))) := by kernel_rfl
  have c7 : (eBin oAdd (eLst (eCons (eV 4) eNil)) (eBin oMul (eLst (eCons (eV 5) eNil)) (eCal oIntC (eCons (eBin oEq (eV 2) (eC (.int 9))) eNil)))) (envK ns W 5 v m (some (.fz (.exn "BadRow" [("part", v)])))) = .ok (.lst [v]) (envK ns W 5 v m (some (.fz (.exn "BadRow" [("part", v)])))) := by kernel_rfl
  have c8 : eBl (eBin (oIn false) (eV 2) (eLst (eCons (eC (.int 2)) (eCons (eC (.int 3)) (eCons (eC (.int 5)) (eCons (eC (.int 6)) (eCons (eC (.int 8)) (eCons (eC (.int 9)) (eCons (eC (.int 11)) (eCons (eC (.int 13)) eNil)))))))))) (envK ns W 5 v m (some (.fz (.exn "BadRow" [("part", v)])))) = .ok true (envK ns W 5 v m (some (.fz (.exn "BadRow" [("part", v)])))) := by kernel_rfl
  have c9 : eTru (eIsC sub0 "ValueError" (eV 6)) (envK ns W 5 v m (some (.fz (.exn "BadRow" [("part", v)])))) = .ok true (envK ns W 5 v m (some (.fz (.exn "BadRow" [("part", v)])))) := by kernel_rfl
  have c10 : eBl (eBin oIs (eV 6) (eC .non)) (envK ns W 5 v m (some (.fz (.exn "BadRow" [("part", v)])))) = .ok false (envK ns W 5 v m (some (.fz (.exn "BadRow" [("part", v)])))) := by kernel_rfl
  unfold l1_law_1 l1_law_2 l1_law_3 l1_law_4
  simp only [k_ok, k_exc, kS_ok, kS_exc, kq_next, kq_ret, kq_brk, kq_cont, kq_exc, kq_retF, go_ok, go_exc, go_next, go_ret, go_brk, go_cont, go_excS, go_retF, go_some, go_v, getV_fz, go_c, go_bin, go_bin1, go_bin2, go_un, go_un1, go_tru, go_tru1, go_bl, go_bl1, go_and, go_andT, go_andF, go_or, go_orT, go_orF, go_not, go_not1, go_andV, go_orV, go_andV1, go_orV1, go_andVT, go_andVF, go_orVT, go_orVF, go_notV, go_notV1, go_notV2, go_if, go_ifT, go_ifF, go_nil, go_cons, go_cons1, go_cons2, go_chk, go_lst, go_tup, go_lst1, go_tup1, go_cal, go_cal1, go_isi, go_isi1, go_seq, go_sRet, go_ret1, go_sExpr, go_ex1, go_sIf, go_sifT, go_sifF, go_optS, go_sAsg, go_asg1, go_sSet, go_set1, go_sPar, go_par1, go_sAug, go_augV, kN_eq, kNil_eq, kCons_eq, kT_eq, rdE_eq, rdO_fz, rdO_ol, ownE_eq, owO_ol, go_binL, go_binL1, go_binL2, oSw_eq, go_binR, go_binR1, go_sPut, go_put1, go_putO, go_put2, go_putP, go_putN, go_retF1, go_fLst, go_fl1, go_sOwn, go_own1, go_call, go_call1, kFR_ok, kFR_exc, go_callIo, go_io0, go_io1, go_io2, kIo_ok, kIo_exc, go_callN, go_calln1, go_calln2, go_okF, go_excF, kRun_next, kRun_ret, kRun_exc, finF_none, finF_some, finS_ol, go_finO, go_finX, go_items, go_items_lst, go_items_tup, go_rng1, go_rng1_ok, go_rng2, go_rng2_ok, go_zip, go_zip_l, go_zip_t, go_enum, go_enum_l, go_sFor, go_for1, kLoop_next, kLoop_cont, kLoop_brk, kLoop_ret, kLoop_exc, turn_next, turn_cont, go_lc, go_lc1, kLc_ok, elem_ok, go_yes, go_sl, go_sl1, go_sl2, go_sl3, go_noP, go_p, go_p1, go_rev, go_rev1, go_chain, go_ch1, go_ch2, go_ch3T, go_ch3F, go_ch4, go_dic, go_dic1, go_prs_nil, go_prs, go_prs1, go_prs2, go_prs3, go_prs4, kW_ok, go_fcall, go_fcall1, kRunW_ok, go_okW, go_cf, go_cf1, oAdd_int, oAdd_bl, atI_0, atI_1, atI_2, atI_3, ixN_0, ixN_1, ixN_2, sz_lit, go_isC, go_isc1, go_fld, go_fld1, go_eX0, go_ex01, go_eX, go_ex1x, go_sRaise, go_rai1, go_sTry, kTry_next, kTry_ret, kHan_next, kHan_ret, List.getElem?_cons_zero, List.getElem?_cons_succ, List.set_cons_zero, List.set_cons_succ, List.nil_append, List.cons_append, List.append_nil, List.length_cons, List.length_nil, Nat.reduceSub, Nat.reduceLeDiff, Nat.zero_add, Option.bind_some, Option.map_some, reduceCtorEq, Int.reduceLT, Int.reduceLE, Int.reduceNeg, Int.reducePow, Int.reduceToNat, and_true, true_and, and_self, ite_true, ite_false, if_true, if_false, Bool.not_true, Bool.not_false, Bool.true_and, Bool.false_and, Bool.and_true, Bool.and_false, Bool.true_or, Bool.false_or, oSub, oNeg, oLt, oLe, oGt, oGe, oIs, oIsNot, Vs.isNon, oTru, oBl, oIx, oLen, oAbs, oIntC, oMax2, oMin2, oTupC, oLstC, oSl, keyD, decide_true, decide_false, plainE, fzE, gIx, List.filterMap_cons, List.filterMap_nil, wipeE, restE, List.all_cons, List.all_nil, List.getD_eq_getElem?_getD, Option.getD_some, oMod_ok, oFdiv_ok, oPow_lit, oMul_lit, oRepr_bl, oEq_str, oNe_str, oEq_int, oNe_int, oEq_bl, oNe_bl, oEq_nil, oNe_nil, oIsi_int, oIsi_bool, oIsi_listed, str_beq, envK, c1, c2, c3, c4, c5, c6, c7, c8, c9, c10, hr])
theorem body_6 (hr : oReprD [.lst [v]] = some (.str s)) : l1_law_1 (envK ns W 6 v m o6) = .next (envK ns W 6 v m (some (.fz (.exn "BadMixture" [("part", v)])))) := of_go (by
  have c1 : F__law_caught none [.int 6, v, m] = .ok (.exn "BadMixture" [("part", v)]) none := by kernel_rfl
  have c2 : F__law_kinds none [.exn "BadMixture" [("part", v)]] = .ok (.lst [.bl false, .bl false, .bl false, .bl false, .bl false, .bl false, .bl true, .bl false, .bl false, .bl false, .bl false, .bl false, .bl false, .bl false]) none := by kernel_rfl
  have c3 : F__law_field none [.int 6, .exn "BadMixture" [("part", v)]] = .ok (.lst [v]) none := by kernel_rfl
  have c4 : F__law_by_name none [.int 6, v, m] = .ok (.exn "BadMixture" [("part", v)]) none := by kernel_rfl
  have c5 : oReprD [.lst [.bl false, .bl false, .bl false, .bl false, .bl false, .bl false, .bl true, .bl false, .bl false, .bl false, .bl false, .bl false, .bl false, .bl false]] = some (.str (PyData.shown (.list [.bool false, .bool false, .bool false, .bool false, .bool false, .bool false, .bool true, .bool false, .bool false, .bool false, .bool false, .bool false, .bool false, .bool false]))) := by kernel_rfl
  have c6 : eLc [7] (eRng1 (eCons (eC (.int 14)) eNil)) (kN 7) eYes (eBin oEq (eV 7) (eV 2)) (envK ns W 6 v m (some (.fz (.exn "BadMixture" [("part", v)])))) = .ok (.lst [.bl false, .bl false, .bl false, .bl false, .bl false, .bl false, .bl true, .bl false, .bl false, .bl false, .bl false, .bl false, .bl false, .bl false]) (envK ns W 6 v m (some (.fz (.exn "BadMixture" [("part", v)])))) := by kernel_rfl
  have c7 : (eBin oAdd (eLst (eCons (eV 4) eNil)) (eBin oMul (eLst (eCons (eV 5) eNil)) (eCal oIntC (eCons (eBin oEq (eV 2) (eC (.int 9))) eNil)))) (envK ns W 6 v m (some (.fz (.exn "BadMixture" [("part", v)])))) = .ok (.lst [v]) (envK ns W 6 v m (some (.fz (.exn "BadMixture" [("part", v)])))) := by kernel_rfl
  have c8 : eBl (eBin (oIn false) (eV 2) (eLst (eCons (eC (.int 2)) (eCons (eC (.int 3)) (eCons (eC (.int 5)) (eCons (eC (.int 6)) (eCons (eC (.int 8)) (eCons (eC (.int 9)) (eCons (eC (.int 11)) (eCons (eC (.int 13)) eNil)))))))))) (envK ns W 6 v m (some (.fz (.exn "BadMixture" [("part", v)])))) = .ok true (envK ns W 6 v m (some (.fz (.exn "BadMixture" [("part", v)])))) := by kernel_rfl
  have c9 : eTru (eIsC sub0 "ValueError" (eV 6)) (envK ns W 6 v m (some (.fz (.exn "BadMixture" [("part", v)])))) = .ok true (envK ns W 6 v m (some (.fz (.exn "BadMixture" [("part", v)])))) := by kernel_rfl
  have c10 : eBl (eBin oIs (eV 6) (eC .non)) (envK ns W 6 v m (some (.fz (.exn "BadMixture" [("part", v)])))) = .ok false (envK ns W 6 v m (some (.fz (.exn "BadMixture" [("part", v)])))) := by kernel_rfl
  unfold l1_law_1 l1_law_2 l1_law_3 l1_law_4
  simp only [k_ok, k_exc, kS_ok, kS_exc, kq_next, kq_ret, kq_brk, kq_cont, kq_exc, kq_retF, go_ok, go_exc, go_next, go_ret, go_brk, go_cont, go_excS, go_retF, go_some, go_v, getV_fz, go_c, go_bin, go_bin1, go_bin2, go_un, go_un1, go_tru, go_tru1, go_bl, go_bl1, go_and, go_andT, go_andF, go_or, go_orT, go_orF, go_not, go_not1, go_andV, go_orV, go_andV1, go_orV1, go_andVT, go_andVF, go_orVT, go_orVF, go_notV, go_notV1, go_notV2, go_if, go_ifT, go_ifF, go_nil, go_cons, go_cons1, go_cons2, go_chk, go_lst, go_tup, go_lst1, go_tup1, go_cal, go_cal1, go_isi, go_isi1, go_seq, go_sRet, go_ret1, go_sExpr, go_ex1, go_sIf, go_sifT, go_sifF, go_optS, go_sAsg, go_asg1, go_sSet, go_set1, go_sPar, go_par1, go_sAug, go_augV, kN_eq, kNil_eq, kCons_eq, kT_eq, rdE_eq, rdO_fz, rdO_ol, ownE_eq, owO_ol, go_binL, go_binL1, go_binL2, oSw_eq, go_binR, go_binR1, go_sPut, go_put1, go_putO, go_put2, go_putP, go_putN, go_retF1, go_fLst, go_fl1, go_sOwn, go_own1, go_call, go_call1, kFR_ok, kFR_exc, go_callIo, go_io0, go_io1, go_io2, kIo_ok, kIo_exc, go_callN, go_calln1, go_calln2, go_okF, go_excF, kRun_next, kRun_ret, kRun_exc, finF_none, finF_some, finS_ol, go_finO, go_finX, go_items, go_items_lst, go_items_tup, go_rng1, go_rng1_ok, go_rng2, go_rng2_ok, go_zip, go_zip_l, go_zip_t, go_enum, go_enum_l, go_sFor, go_for1, kLoop_next, kLoop_cont, kLoop_brk, kLoop_ret, kLoop_exc, turn_next, turn_cont, go_lc, go_lc1, kLc_ok, elem_ok, go_yes, go_sl, go_sl1, go_sl2, go_sl3, go_noP, go_p, go_p1, go_rev, go_rev1, go_chain, go_ch1, go_ch2, go_ch3T, go_ch3F, go_ch4, go_dic, go_dic1, go_prs_nil, go_prs, go_prs1, go_prs2, go_prs3, go_prs4, kW_ok, go_fcall, go_fcall1, kRunW_ok, go_okW, go_cf, go_cf1, oAdd_int, oAdd_bl, atI_0, atI_1, atI_2, atI_3, ixN_0, ixN_1, ixN_2, sz_lit, go_isC, go_isc1, go_fld, go_fld1, go_eX0, go_ex01, go_eX, go_ex1x, go_sRaise, go_rai1, go_sTry, kTry_next, kTry_ret, kHan_next, kHan_ret, List.getElem?_cons_zero, List.getElem?_cons_succ, List.set_cons_zero, List.set_cons_succ, List.nil_append, List.cons_append, List.append_nil, List.length_cons, List.length_nil, Nat.reduceSub, Nat.reduceLeDiff, Nat.zero_add, Option.bind_some, Option.map_some, reduceCtorEq, Int.reduceLT, Int.reduceLE, Int.reduceNeg, Int.reducePow, Int.reduceToNat, and_true, true_and, and_self, ite_true, ite_false, if_true, if_false, Bool.not_true, Bool.not_false, Bool.true_and, Bool.false_and, Bool.and_true, Bool.and_false, Bool.true_or, Bool.false_or, oSub, oNeg, oLt, oLe, oGt, oGe, oIs, oIsNot, Vs.isNon, oTru, oBl, oIx, oLen, oAbs, oIntC, oMax2, oMin2, oTupC, oLstC, oSl, keyD, decide_true, decide_false, plainE, fzE, gIx, List.filterMap_cons, List.filterMap_nil, wipeE, restE, List.all_cons, List.all_nil, List.getD_eq_getElem?_getD, Option.getD_some, oMod_ok, oFdiv_ok, oPow_lit, oMul_lit, oRepr_bl, oEq_str, oNe_str, oEq_int, oNe_int, oEq_bl, oNe_bl, oEq_nil, oNe_nil, oIsi_int, oIsi_bool, oIsi_listed, str_beq, envK, c1, c2, c3, c4, c5, c6, c7, c8, c9, c10, hr])
theorem body_7 (hr : oReprD [.lst [v]] = some (.str s)) : l1_law_1 (envK ns W 7 v m o6) = .next (envK ns W 7 v m (some (.fz (.exn "Misfit" [("part", v)])))) := of_go (by
  have c1 : F__law_caught none [.int 7, v, m] = .ok (.exn "Misfit" [("part", v)]) none := by kernel_rfl
  have c2 : F__law_kinds none [.exn "Misfit" [("part", v)]] = .ok (.lst [.bl false, .bl false, .bl false, .bl false, .bl false, .bl false, .bl false, .bl true, .bl false, .bl false, .bl false, .bl false, .bl false, .bl false]) none := by kernel_rfl
  have c3 : F__law_field none [.int 7, .exn "Misfit" [("part", v)]] = .ok (.lst [v]) none := by kernel_rfl
  have c5 : oReprD [.lst [.bl false, .bl false, .bl false, .bl false, .bl false, .bl false, .bl false, .bl true, .bl false, .bl false, .bl false, .bl false, .bl false, .bl false]] = some (.str (PyData.shown (.list [.bool false, .bool false, .bool false, .bool false, .bool false, .bool false, .bool false, .bool true, .bool false, .bool false, .bool false, .bool false, .bool false, .bool false]))) := by kernel_rfl
  have c6 : eLc [7] (eRng1 (eCons (eC (.int 14)) eNil)) (kN 7) eYes (eBin oEq (eV 7) (eV 2)) (envK ns W 7 v m (some (.fz (.exn "Misfit" [("part", v)])))) = .ok (.lst [.bl false, .bl false, .bl false, .bl false, .bl false, .bl false, .bl false, .bl true, .bl false, .bl false, .bl false, .bl false, .bl false, .bl false]) (envK ns W 7 v m (some (.fz (.exn "Misfit" [("part", v)])))) := by kernel_rfl
  have c7 : (eBin oAdd (eLst (eCons (eV 4) eNil)) (eBin oMul (eLst (eCons (eV 5) eNil)) (eCal oIntC (eCons (eBin oEq (eV 2) (eC (.int 9))) eNil)))) (envK ns W 7 v m (some (.fz (.exn "Misfit" [("part", v)])))) = .ok (.lst [v]) (envK ns W 7 v m (some (.fz (.exn "Misfit" [("part", v)])))) := by kernel_rfl
  have c8 : eBl (eBin (oIn false) (eV 2) (eLst (eCons (eC (.int 2)) (eCons (eC (.int 3)) (eCons (eC (.int 5)) (eCons (eC (.int 6)) (eCons (eC (.int 8)) (eCons (eC (.int 9)) (eCons (eC (.int 11)) (eCons (eC (.int 13)) eNil)))))))))) (envK ns W 7 v m (some (.fz (.exn "Misfit" [("part", v)])))) = .ok false (envK ns W 7 v m (some (.fz (.exn "Misfit" [("part", v)])))) := by kernel_rfl
  have c9 : eTru (eIsC sub0 "ValueError" (eV 6)) (envK ns W 7 v m (some (.fz (.exn "Misfit" [("part", v)])))) = .ok true (envK ns W 7 v m (some (.fz (.exn "Misfit" [("part", v)])))) := by kernel_rfl
  have c10 : eBl (eBin oIs (eV 6) (eC .non)) (envK ns W 7 v m (some (.fz (.exn "Misfit" [("part", v)])))) = .ok false (envK ns W 7 v m (some (.fz (.exn "Misfit" [("part", v)])))) := by kernel_rfl
  unfold l1_law_1 l1_law_2 l1_law_3 l1_law_4
  simp only [k_ok, k_exc, kS_ok, kS_exc, kq_next, kq_ret, kq_brk, kq_cont, kq_exc, kq_retF, go_ok, go_exc, go_next, go_ret, go_brk, go_cont, go_excS, go_retF, go_some, go_v, getV_fz, go_c, go_bin, go_bin1, go_bin2, go_un, go_un1, go_tru, go_tru1, go_bl, go_bl1, go_and, go_andT, go_andF, go_or, go_orT, go_orF, go_not, go_not1, go_andV, go_orV, go_andV1, go_orV1, go_andVT, go_andVF, go_orVT, go_orVF, go_notV, go_notV1, go_notV2, go_if, go_ifT, go_ifF, go_nil, go_cons, go_cons1, go_cons2, go_chk, go_lst, go_tup, go_lst1, go_tup1, go_cal, go_cal1, go_isi, go_isi1, go_seq, go_sRet, go_ret1, go_sExpr, go_ex1, go_sIf, go_sifT, go_sifF, go_optS, go_sAsg, go_asg1, go_sSet, go_set1, go_sPar, go_par1, go_sAug, go_augV, kN_eq, kNil_eq, kCons_eq, kT_eq, rdE_eq, rdO_fz, rdO_ol, ownE_eq, owO_ol, go_binL, go_binL1, go_binL2, oSw_eq, go_binR, go_binR1, go_sPut, go_put1, go_putO, go_put2, go_putP, go_putN, go_retF1, go_fLst, go_fl1, go_sOwn, go_own1, go_call, go_call1, kFR_ok, kFR_exc, go_callIo, go_io0, go_io1, go_io2, kIo_ok, kIo_exc, go_callN, go_calln1, go_calln2, go_okF, go_excF, kRun_next, kRun_ret, kRun_exc, finF_none, finF_some, finS_ol, go_finO, go_finX, go_items, go_items_lst, go_items_tup, go_rng1, go_rng1_ok, go_rng2, go_rng2_ok, go_zip, go_zip_l, go_zip_t, go_enum, go_enum_l, go_sFor, go_for1, kLoop_next, kLoop_cont, kLoop_brk, kLoop_ret, kLoop_exc, turn_next, turn_cont, go_lc, go_lc1, kLc_ok, elem_ok, go_yes, go_sl, go_sl1, go_sl2, go_sl3, go_noP, go_p, go_p1, go_rev, go_rev1, go_chain, go_ch1, go_ch2, go_ch3T, go_ch3F, go_ch4, go_dic, go_dic1, go_prs_nil, go_prs, go_prs1, go_prs2, go_prs3, go_prs4, kW_ok, go_fcall, go_fcall1, kRunW_ok, go_okW, go_cf, go_cf1, oAdd_int, oAdd_bl, atI_0, atI_1, atI_2, atI_3, ixN_0, ixN_1, ixN_2, sz_lit, go_isC, go_isc1, go_fld, go_fld1, go_eX0, go_ex01, go_eX, go_ex1x, go_sRaise, go_rai1, go_sTry, kTry_next, kTry_ret, kHan_next, kHan_ret, List.getElem?_cons_zero, List.getElem?_cons_succ, List.set_cons_zero, List.set_cons_succ, List.nil_append, List.cons_append, List.append_nil, List.length_cons, List.length_nil, Nat.reduceSub, Nat.reduceLeDiff, Nat.zero_add, Option.bind_some, Option.map_some, reduceCtorEq, Int.reduceLT, Int.reduceLE, Int.reduceNeg, Int.reducePow, Int.reduceToNat, and_true, true_and, and_self, ite_true, ite_false, if_true, if_false, Bool.not_true, Bool.not_false, Bool.true_and, Bool.false_and, Bool.and_true, Bool.and_false, Bool.true_or, Bool.false_or, oSub, oNeg, oLt, oLe, oGt, oGe, oIs, oIsNot, Vs.isNon, oTru, oBl, oIx, oLen, oAbs, oIntC, oMax2, oMin2, oTupC, oLstC, oSl, keyD, decide_true, decide_false, plainE, fzE, gIx, List.filterMap_cons, List.filterMap_nil, wipeE, restE, List.all_cons, List.all_nil, List.getD_eq_getElem?_getD, Option.getD_some, oMod_ok, oFdiv_ok, oPow_lit, oMul_lit, oRepr_bl, oEq_str, oNe_str, oEq_int, oNe_int, oEq_bl, oNe_bl, oEq_nil, oNe_nil, oIsi_int, oIsi_bool, oIsi_listed, str_beq, envK, c1, c2, c3, c5, c6, c7, c8, c9, c10, hr])
theorem body_8 (hr : oReprD [.lst [v]] = some (.str s)) : l1_law_1 (envK ns W 8 v m o6) = .next (envK ns W 8 v m (some (.fz (.exn "Nothing" [("part", v)])))) := of_go (by
  have c1 : F__law_caught none [.int 8, v, m] = .ok (.exn "Nothing" [("part", v)]) none := by kernel_rfl
  have c2 : F__law_kinds none [.exn "Nothing" [("part", v)]] = .ok (.lst [.bl false, .bl false, .bl false, .bl false, .bl false, .bl false, .bl false, .bl false, .bl true, .bl false, .bl false, .bl false, .bl false, .bl false]) none := by kernel_rfl
  have c3 : F__law_field none [.int 8, .exn "Nothing" [("part", v)]] = .ok (.lst [v]) none := by kernel_rfl
  have c4 : F__law_by_name none [.int 8, v, m] = .ok (.exn "Nothing" [("part", v)]) none := by kernel_rfl
  have c5 : oReprD [.lst [.bl false, .bl false, .bl false, .bl false, .bl false, .bl false, .bl false, .bl false, .bl true, .bl false, .bl false, .bl false, .bl false, .bl false]] = some (.str (PyData.shown (.list [.bool false, .bool false, .bool false, .bool false, .bool false, .bool false, .bool false, .bool false, .bool true, .bool false, .bool false, .bool false, .bool false, .bool false]))) := by kernel_rfl
  have c6 : eLc [7] (eRng1 (eCons (eC (.int 14)) eNil)) (kN 7) eYes (eBin oEq (eV 7) (eV 2)) (envK ns W 8 v m (some (.fz (.exn "Nothing" [("part", v)])))) = .ok (.lst [.bl false, .bl false, .bl false, .bl false, .bl false, .bl false, .bl false, .bl false, .bl true, .bl false, .bl false, .bl false, .bl false, .bl false]) (envK ns W 8 v m (some (.fz (.exn "Nothing" [("part", v)])))) := by kernel_rfl
  have c7 : (eBin oAdd (eLst (eCons (eV 4) eNil)) (eBin oMul (eLst (eCons (eV 5) eNil)) (eCal oIntC (eCons (eBin oEq (eV 2) (eC (.int 9))) eNil)))) (envK ns W 8 v m (some (.fz (.exn "Nothing" [("part", v)])))) = .ok (.lst [v]) (envK ns W 8 v m (some (.fz (.exn "Nothing" [("part", v)])))) := by kernel_rfl
  have c8 : eBl (eBin (oIn false) (eV 2) (eLst (eCons (eC (.int 2)) (eCons (eC (.int 3)) (eCons (eC (.int 5)) (eCons (eC (.int 6)) (eCons (eC (.int 8)) (eCons (eC (.int 9)) (eCons (eC (.int 11)) (eCons (eC (.int 13)) eNil)))))))))) (envK ns W 8 v m (some (.fz (.exn "Nothing" [("part", v)])))) = .ok true (envK ns W 8 v m (some (.fz (.exn "Nothing" [("part", v)])))) := by kernel_rfl
  have c9 : eTru (eIsC sub0 "ValueError" (eV 6)) (envK ns W 8 v m (some (.fz (.exn "Nothing" [("part", v)])))) = .ok true (envK ns W 8 v m (some (.fz (.exn "Nothing" [("part", v)])))) := by kernel_rfl
  have c10 : eBl (eBin oIs (eV 6) (eC .non)) (envK ns W 8 v m (some (.fz (.exn "Nothing" [("part", v)])))) = .ok false (envK ns W 8 v m (some (.fz (.exn "Nothing" [("part", v)])))) := by kernel_rfl
  unfold l1_law_1 l1_law_2 l1_law_3 l1_law_4
  simp only [k_ok, k_exc, kS_ok, kS_exc, kq_next, kq_ret, kq_brk, kq_cont, kq_exc, kq_retF, go_ok, go_exc, go_next, go_ret, go_brk, go_cont, go_excS, go_retF, go_some, go_v, getV_fz, go_c, go_bin, go_bin1, go_bin2, go_un, go_un1, go_tru, go_tru1, go_bl, go_bl1, go_and, go_andT, go_andF, go_or, go_orT, go_orF, go_not, go_not1, go_andV, go_orV, go_andV1, go_orV1, go_andVT, go_andVF, go_orVT, go_orVF, go_notV, go_notV1, go_notV2, go_if, go_ifT, go_ifF, go_nil, go_cons, go_cons1, go_cons2, go_chk, go_lst, go_tup, go_lst1, go_tup1, go_cal, go_cal1, go_isi, go_isi1, go_seq, go_sRet, go_ret1, go_sExpr, go_ex1, go_sIf, go_sifT, go_sifF, go_optS, go_sAsg, go_asg1, go_sSet, go_set1, go_sPar, go_par1, go_sAug, go_augV, kN_eq, kNil_eq, kCons_eq, kT_eq, rdE_eq, rdO_fz, rdO_ol, ownE_eq, owO_ol, go_binL, go_binL1, go_binL2, oSw_eq, go_binR, go_binR1, go_sPut, go_put1, go_putO, go_put2, go_putP, go_putN, go_retF1, go_fLst, go_fl1, go_sOwn, go_own1, go_call, go_call1, kFR_ok, kFR_exc, go_callIo, go_io0, go_io1, go_io2, kIo_ok, kIo_exc, go_callN, go_calln1, go_calln2, go_okF, go_excF, kRun_next, kRun_ret, kRun_exc, finF_none, finF_some, finS_ol, go_finO, go_finX, go_items, go_items_lst, go_items_tup, go_rng1, go_rng1_ok, go_rng2, go_rng2_ok, go_zip, go_zip_l, go_zip_t, go_enum, go_enum_l, go_sFor, go_for1, kLoop_next, kLoop_cont, kLoop_brk, kLoop_ret, kLoop_exc, turn_next, turn_cont, go_lc, go_lc1, kLc_ok, elem_ok, go_yes, go_sl, go_sl1, go_sl2, go_sl3, go_noP, go_p, go_p1, go_rev, go_rev1, go_chain, go_ch1, go_ch2, go_ch3T, go_ch3F, go_ch4, go_dic, go_dic1, go_prs_nil, go_prs, go_prs1, go_prs2, go_prs3, go_prs4, kW_ok, go_fcall, go_fcall1, kRunW_ok, go_okW, go_cf, go_cf1, oAdd_int, oAdd_bl, atI_0, atI_1, atI_2, atI_3, ixN_0, ixN_1, ixN_2, sz_lit, go_isC, go_isc1, go_fld, go_fld1, go_eX0, go_ex01, go_eX, go_ex1x, go_sRaise, go_rai1, go_sTry, kTry_next, kTry_ret, kHan_next, kHan_ret, List.getElem?_cons_zero, List.getElem?_cons_succ, List.set_cons_zero, List.set_cons_succ, List.nil_append, List.cons_append, List.append_nil, List.length_cons, List.length_nil, Nat.reduceSub, Nat.reduceLeDiff, Nat.zero_add, Option.bind_some, Option.map_some, reduceCtorEq, Int.reduceLT, Int.reduceLE, Int.reduceNeg, Int.reducePow, Int.reduceToNat, and_true, true_and, and_self, ite_true, ite_false, if_true, if_false, Bool.not_true, Bool.not_false, Bool.true_and, Bool.false_and, Bool.and_true, Bool.and_false, Bool.true_or, Bool.false_or, oSub, oNeg, oLt, oLe, oGt, oGe, oIs, oIsNot, Vs.isNon, oTru, oBl, oIx, oLen, oAbs, oIntC, oMax2, oMin2, oTupC, oLstC, oSl, keyD, decide_true, decide_false, plainE, fzE, gIx, List.filterMap_cons, List.filterMap_nil, wipeE, restE, List.all_cons, List.all_nil, List.getD_eq_getElem?_getD, Option.getD_some, oMod_ok, oFdiv_ok, oPow_lit, oMul_lit, oRepr_bl, oEq_str, oNe_str, oEq_int, oNe_int, oEq_bl, oNe_bl, oEq_nil, oNe_nil, oIsi_int, oIsi_bool, oIsi_listed, str_beq, envK, c1, c2, c3, c4, c5, c6, c7, c8, c9, c10, hr])
theorem body_9 (hr : oReprD [.lst [v, m]] = some (.str s)) : l1_law_1 (envK ns W 9 v m o6) = .next (envK ns W 9 v m (some (.fz (.exn "TooMany" [("most", m), ("what", v)])))) := of_go (by
  have c1 : F__law_caught none [.int 9, v, m] = .ok (.exn "TooMany" [("most", m), ("what", v)]) none := by kernel_rfl
  have c2 : F__law_kinds none [.exn "TooMany" [("most", m), ("what", v)]] = .ok (.lst [.bl false, .bl false, .bl false, .bl false, .bl false, .bl false, .bl false, .bl false, .bl false, .bl true, .bl false, .bl false, .bl false, .bl false]) none := by kernel_rfl
  have c3 : F__law_field none [.int 9, .exn "TooMany" [("most", m), ("what", v)]] = .ok (.lst [v, m]) none := by kernel_rfl
  have c4 : F__law_by_name none [.int 9, v, m] = .ok (.exn "TooMany" [("most", m), ("what", v)]) none := by kernel_rfl
  have c5 : oReprD [.lst [.bl false, .bl false, .bl false, .bl false, .bl false, .bl false, .bl false, .bl false, .bl false, .bl true, .bl false, .bl false, .bl false, .bl false]] = some (.str (PyData.shown (.list [.bool false, .bool false, .bool false, .bool false, .bool false, .bool false, .bool false, .bool false, .bool false, .bool true, .bool false, .bool false, .bool false, .bool false]))) := by kernel_rfl
  have c6 : eLc [7] (eRng1 (eCons (eC (.int 14)) eNil)) (kN 7) eYes (eBin oEq (eV 7) (eV 2)) (envK ns W 9 v m (some (.fz (.exn "TooMany" [("most", m), ("what", v)])))) = .ok (.lst [.bl false, .bl false, .bl false, .bl false, .bl false, .bl false, .bl false, .bl false, .bl false, .bl true, .bl false, .bl false, .bl false, .bl false]) (envK ns W 9 v m (some (.fz (.exn "TooMany" [("most", m), ("what", v)])))) := by kernel_rfl
  have c7 : (eBin oAdd (eLst (eCons (eV 4) eNil)) (eBin oMul (eLst (eCons (eV 5) eNil)) (eCal oIntC (eCons (eBin oEq (eV 2) (eC (.int 9))) eNil)))) (envK ns W 9 v m (some (.fz (.exn "TooMany" [("most", m), ("what", v)])))) = .ok (.lst [v, m]) (envK ns W 9 v m (some (.fz (.exn "TooMany" [("most", m), ("what", v)])))) := by kernel_rfl
  have c8 : eBl (eBin (oIn false) (eV 2) (eLst (eCons (eC (.int 2)) (eCons (eC (.int 3)) (eCons (eC (.int 5)) (eCons (eC (.int 6)) (eCons (eC (.int 8)) (eCons (eC (.int 9)) (eCons (eC (.int 11)) (eCons (eC (.int 13)) eNil)))))))))) (envK ns W 9 v m (some (.fz (.exn "TooMany" [("most", m), ("what", v)])))) = .ok true (envK ns W 9 v m (some (.fz (.exn "TooMany" [("most", m), ("what", v)])))) := by kernel_rfl
  have c9 : eTru (eIsC sub0 "ValueError" (eV 6)) (envK ns W 9 v m (some (.fz (.exn "TooMany" [("most", m), ("what", v)])))) = .ok true (envK ns W 9 v m (some (.fz (.exn "TooMany" [("most", m), ("what", v)])))) := by kernel_rfl
  have c10 : eBl (eBin oIs (eV 6) (eC .non)) (envK ns W 9 v m (some (.fz (.exn "TooMany" [("most", m), ("what", v)])))) = .ok false (envK ns W 9 v m (some (.fz (.exn "TooMany" [("most", m), ("what", v)])))) := by kernel_rfl
  unfold l1_law_1 l1_law_2 l1_law_3 l1_law_4
  simp only [k_ok, k_exc, kS_ok, kS_exc, kq_next, kq_ret, kq_brk, kq_cont, kq_exc, kq_retF, go_ok, go_exc, go_next, go_ret, go_brk, go_cont, go_excS, go_retF, go_some, go_v, getV_fz, go_c, go_bin, go_bin1, go_bin2, go_un, go_un1, go_tru, go_tru1, go_bl, go_bl1, go_and, go_andT, go_andF, go_or, go_orT, go_orF, go_not, go_not1, go_andV, go_orV, go_andV1, go_orV1, go_andVT, go_andVF, go_orVT, go_orVF, go_notV, go_notV1, go_notV2, go_if, go_ifT, go_ifF, go_nil, go_cons, go_cons1, go_cons2, go_chk, go_lst, go_tup, go_lst1, go_tup1, go_cal, go_cal1, go_isi, go_isi1, go_seq, go_sRet, go_ret1, go_sExpr, go_ex1, go_sIf, go_sifT, go_sifF, go_optS, go_sAsg, go_asg1, go_sSet, go_set1, go_sPar, go_par1, go_sAug, go_augV, kN_eq, kNil_eq, kCons_eq, kT_eq, rdE_eq, rdO_fz, rdO_ol, ownE_eq, owO_ol, go_binL, go_binL1, go_binL2, oSw_eq, go_binR, go_binR1, go_sPut, go_put1, go_putO, go_put2, go_putP, go_putN, go_retF1, go_fLst, go_fl1, go_sOwn, go_own1, go_call, go_call1, kFR_ok, kFR_exc, go_callIo, go_io0, go_io1, go_io2, kIo_ok, kIo_exc, go_callN, go_calln1, go_calln2, go_okF, go_excF, kRun_next, kRun_ret, kRun_exc, finF_none, finF_some, finS_ol, go_finO, go_finX, go_items, go_items_lst, go_items_tup, go_rng1, go_rng1_ok, go_rng2, go_rng2_ok, go_zip, go_zip_l, go_zip_t, go_enum, go_enum_l, go_sFor, go_for1, kLoop_next, kLoop_cont, kLoop_brk, kLoop_ret, kLoop_exc, turn_next, turn_cont, go_lc, go_lc1, kLc_ok, elem_ok, go_yes, go_sl, go_sl1, go_sl2, go_sl3, go_noP, go_p, go_p1, go_rev, go_rev1, go_chain, go_ch1, go_ch2, go_ch3T, go_ch3F, go_ch4, go_dic, go_dic1, go_prs_nil, go_prs, go_prs1, go_prs2, go_prs3, go_prs4, kW_ok, go_fcall, go_fcall1, kRunW_ok, go_okW, go_cf, go_cf1, oAdd_int, oAdd_bl, atI_0, atI_1, atI_2, atI_3, ixN_0, ixN_1, ixN_2, sz_lit, go_isC, go_isc1, go_fld, go_fld1, go_eX0, go_ex01, go_eX, go_ex1x, go_sRaise, go_rai1, go_sTry, kTry_next, kTry_ret, kHan_next, kHan_ret, List.getElem?_cons_zero, List.getElem?_cons_succ, List.set_cons_zero, List.set_cons_succ, List.nil_append, List.cons_append, List.append_nil, List.length_cons, List.length_nil, Nat.reduceSub, Nat.reduceLeDiff, Nat.zero_add, Option.bind_some, Option.map_some, reduceCtorEq, Int.reduceLT, Int.reduceLE, Int.reduceNeg, Int.reducePow, Int.reduceToNat, and_true, true_and, and_self, ite_true, ite_false, if_true, if_false, Bool.not_true, Bool.not_false, Bool.true_and, Bool.false_and, Bool.and_true, Bool.and_false, Bool.true_or, Bool.false_or, oSub, oNeg, oLt, oLe, oGt, oGe, oIs, oIsNot, Vs.isNon, oTru, oBl, oIx, oLen, oAbs, oIntC, oMax2, oMin2, oTupC, oLstC, oSl, keyD, decide_true, decide_false, plainE, fzE, gIx, List.filterMap_cons, List.filterMap_nil, wipeE, restE, List.all_cons, List.all_nil, List.getD_eq_getElem?_getD, Option.getD_some, oMod_ok, oFdiv_ok, oPow_lit, oMul_lit, oRepr_bl, oEq_str, oNe_str, oEq_int, oNe_int, oEq_bl, oNe_bl, oEq_nil, oNe_nil, oIsi_int, oIsi_bool, oIsi_listed, str_beq, envK, c1, c2, c3, c4, c5, c6, c7, c8, c9, c10, hr])
theorem body_10 (hr : oReprD [.lst [v]] = some (.str s)) : l1_law_1 (envK ns W 10 v m o6) = .next (envK ns W 10 v m (some (.fz (.exn "Unkept" [("paper", v)])))) := of_go (by
  have c1 : F__law_caught none [.int 10, v, m] = .ok (.exn "Unkept" [("paper", v)]) none := by kernel_rfl
  have c2 : F__law_kinds none [.exn "Unkept" [("paper", v)]] = .ok (.lst [.bl false, .bl false, .bl false, .bl false, .bl false, .bl false, .bl false, .bl false, .bl false, .bl false, .bl true, .bl false, .bl false, .bl false]) none := by kernel_rfl
  have c3 : F__law_field none [.int 10, .exn "Unkept" [("paper", v)]] = .ok (.lst [v]) none := by kernel_rfl
  have c5 : oReprD [.lst [.bl false, .bl false, .bl false, .bl false, .bl false, .bl false, .bl false, .bl false, .bl false, .bl false, .bl true, .bl false, .bl false, .bl false]] = some (.str (PyData.shown (.list [.bool false, .bool false, .bool false, .bool false, .bool false, .bool false, .bool false, .bool false, .bool false, .bool false, .bool true, .bool false, .bool false, .bool false]))) := by kernel_rfl
  have c6 : eLc [7] (eRng1 (eCons (eC (.int 14)) eNil)) (kN 7) eYes (eBin oEq (eV 7) (eV 2)) (envK ns W 10 v m (some (.fz (.exn "Unkept" [("paper", v)])))) = .ok (.lst [.bl false, .bl false, .bl false, .bl false, .bl false, .bl false, .bl false, .bl false, .bl false, .bl false, .bl true, .bl false, .bl false, .bl false]) (envK ns W 10 v m (some (.fz (.exn "Unkept" [("paper", v)])))) := by kernel_rfl
  have c7 : (eBin oAdd (eLst (eCons (eV 4) eNil)) (eBin oMul (eLst (eCons (eV 5) eNil)) (eCal oIntC (eCons (eBin oEq (eV 2) (eC (.int 9))) eNil)))) (envK ns W 10 v m (some (.fz (.exn "Unkept" [("paper", v)])))) = .ok (.lst [v]) (envK ns W 10 v m (some (.fz (.exn "Unkept" [("paper", v)])))) := by kernel_rfl
  have c8 : eBl (eBin (oIn false) (eV 2) (eLst (eCons (eC (.int 2)) (eCons (eC (.int 3)) (eCons (eC (.int 5)) (eCons (eC (.int 6)) (eCons (eC (.int 8)) (eCons (eC (.int 9)) (eCons (eC (.int 11)) (eCons (eC (.int 13)) eNil)))))))))) (envK ns W 10 v m (some (.fz (.exn "Unkept" [("paper", v)])))) = .ok false (envK ns W 10 v m (some (.fz (.exn "Unkept" [("paper", v)])))) := by kernel_rfl
  have c9 : eTru (eIsC sub0 "ValueError" (eV 6)) (envK ns W 10 v m (some (.fz (.exn "Unkept" [("paper", v)])))) = .ok true (envK ns W 10 v m (some (.fz (.exn "Unkept" [("paper", v)])))) := by kernel_rfl
  have c10 : eBl (eBin oIs (eV 6) (eC .non)) (envK ns W 10 v m (some (.fz (.exn "Unkept" [("paper", v)])))) = .ok false (envK ns W 10 v m (some (.fz (.exn "Unkept" [("paper", v)])))) := by kernel_rfl
  unfold l1_law_1 l1_law_2 l1_law_3 l1_law_4
  simp only [k_ok, k_exc, kS_ok, kS_exc, kq_next, kq_ret, kq_brk, kq_cont, kq_exc, kq_retF, go_ok, go_exc, go_next, go_ret, go_brk, go_cont, go_excS, go_retF, go_some, go_v, getV_fz, go_c, go_bin, go_bin1, go_bin2, go_un, go_un1, go_tru, go_tru1, go_bl, go_bl1, go_and, go_andT, go_andF, go_or, go_orT, go_orF, go_not, go_not1, go_andV, go_orV, go_andV1, go_orV1, go_andVT, go_andVF, go_orVT, go_orVF, go_notV, go_notV1, go_notV2, go_if, go_ifT, go_ifF, go_nil, go_cons, go_cons1, go_cons2, go_chk, go_lst, go_tup, go_lst1, go_tup1, go_cal, go_cal1, go_isi, go_isi1, go_seq, go_sRet, go_ret1, go_sExpr, go_ex1, go_sIf, go_sifT, go_sifF, go_optS, go_sAsg, go_asg1, go_sSet, go_set1, go_sPar, go_par1, go_sAug, go_augV, kN_eq, kNil_eq, kCons_eq, kT_eq, rdE_eq, rdO_fz, rdO_ol, ownE_eq, owO_ol, go_binL, go_binL1, go_binL2, oSw_eq, go_binR, go_binR1, go_sPut, go_put1, go_putO, go_put2, go_putP, go_putN, go_retF1, go_fLst, go_fl1, go_sOwn, go_own1, go_call, go_call1, kFR_ok, kFR_exc, go_callIo, go_io0, go_io1, go_io2, kIo_ok, kIo_exc, go_callN, go_calln1, go_calln2, go_okF, go_excF, kRun_next, kRun_ret, kRun_exc, finF_none, finF_some, finS_ol, go_finO, go_finX, go_items, go_items_lst, go_items_tup, go_rng1, go_rng1_ok, go_rng2, go_rng2_ok, go_zip, go_zip_l, go_zip_t, go_enum, go_enum_l, go_sFor, go_for1, kLoop_next, kLoop_cont, kLoop_brk, kLoop_ret, kLoop_exc, turn_next, turn_cont, go_lc, go_lc1, kLc_ok, elem_ok, go_yes, go_sl, go_sl1, go_sl2, go_sl3, go_noP, go_p, go_p1, go_rev, go_rev1, go_chain, go_ch1, go_ch2, go_ch3T, go_ch3F, go_ch4, go_dic, go_dic1, go_prs_nil, go_prs, go_prs1, go_prs2, go_prs3, go_prs4, kW_ok, go_fcall, go_fcall1, kRunW_ok, go_okW, go_cf, go_cf1, oAdd_int, oAdd_bl, atI_0, atI_1, atI_2, atI_3, ixN_0, ixN_1, ixN_2, sz_lit, go_isC, go_isc1, go_fld, go_fld1, go_eX0, go_ex01, go_eX, go_ex1x, go_sRaise, go_rai1, go_sTry, kTry_next, kTry_ret, kHan_next, kHan_ret, List.getElem?_cons_zero, List.getElem?_cons_succ, List.set_cons_zero, List.set_cons_succ, List.nil_append, List.cons_append, List.append_nil, List.length_cons, List.length_nil, Nat.reduceSub, Nat.reduceLeDiff, Nat.zero_add, Option.bind_some, Option.map_some, reduceCtorEq, Int.reduceLT, Int.reduceLE, Int.reduceNeg, Int.reducePow, Int.reduceToNat, and_true, true_and, and_self, ite_true, ite_false, if_true, if_false, Bool.not_true, Bool.not_false, Bool.true_and, Bool.false_and, Bool.and_true, Bool.and_false, Bool.true_or, Bool.false_or, oSub, oNeg, oLt, oLe, oGt, oGe, oIs, oIsNot, Vs.isNon, oTru, oBl, oIx, oLen, oAbs, oIntC, oMax2, oMin2, oTupC, oLstC, oSl, keyD, decide_true, decide_false, plainE, fzE, gIx, List.filterMap_cons, List.filterMap_nil, wipeE, restE, List.all_cons, List.all_nil, List.getD_eq_getElem?_getD, Option.getD_some, oMod_ok, oFdiv_ok, oPow_lit, oMul_lit, oRepr_bl, oEq_str, oNe_str, oEq_int, oNe_int, oEq_bl, oNe_bl, oEq_nil, oNe_nil, oIsi_int, oIsi_bool, oIsi_listed, str_beq, envK, c1, c2, c3, c5, c6, c7, c8, c9, c10, hr])
theorem body_11 (hr : oReprD [.lst [v]] = some (.str s)) : l1_law_1 (envK ns W 11 v m o6) = .next (envK ns W 11 v m (some (.fz (.exn "Over" [("day", v)])))) := of_go (by
  have c1 : F__law_caught none [.int 11, v, m] = .ok (.exn "Over" [("day", v)]) none := by kernel_rfl
  have c2 : F__law_kinds none [.exn "Over" [("day", v)]] = .ok (.lst [.bl false, .bl false, .bl false, .bl false, .bl false, .bl false, .bl false, .bl false, .bl false, .bl false, .bl false, .bl true, .bl false, .bl false]) none := by kernel_rfl
  have c3 : F__law_field none [.int 11, .exn "Over" [("day", v)]] = .ok (.lst [v]) none := by kernel_rfl
  have c4 : F__law_by_name none [.int 11, v, m] = .ok (.exn "Over" [("day", v)]) none := by kernel_rfl
  have c5 : oReprD [.lst [.bl false, .bl false, .bl false, .bl false, .bl false, .bl false, .bl false, .bl false, .bl false, .bl false, .bl false, .bl true, .bl false, .bl false]] = some (.str (PyData.shown (.list [.bool false, .bool false, .bool false, .bool false, .bool false, .bool false, .bool false, .bool false, .bool false, .bool false, .bool false, .bool true, .bool false, .bool false]))) := by kernel_rfl
  have c6 : eLc [7] (eRng1 (eCons (eC (.int 14)) eNil)) (kN 7) eYes (eBin oEq (eV 7) (eV 2)) (envK ns W 11 v m (some (.fz (.exn "Over" [("day", v)])))) = .ok (.lst [.bl false, .bl false, .bl false, .bl false, .bl false, .bl false, .bl false, .bl false, .bl false, .bl false, .bl false, .bl true, .bl false, .bl false]) (envK ns W 11 v m (some (.fz (.exn "Over" [("day", v)])))) := by kernel_rfl
  have c7 : (eBin oAdd (eLst (eCons (eV 4) eNil)) (eBin oMul (eLst (eCons (eV 5) eNil)) (eCal oIntC (eCons (eBin oEq (eV 2) (eC (.int 9))) eNil)))) (envK ns W 11 v m (some (.fz (.exn "Over" [("day", v)])))) = .ok (.lst [v]) (envK ns W 11 v m (some (.fz (.exn "Over" [("day", v)])))) := by kernel_rfl
  have c8 : eBl (eBin (oIn false) (eV 2) (eLst (eCons (eC (.int 2)) (eCons (eC (.int 3)) (eCons (eC (.int 5)) (eCons (eC (.int 6)) (eCons (eC (.int 8)) (eCons (eC (.int 9)) (eCons (eC (.int 11)) (eCons (eC (.int 13)) eNil)))))))))) (envK ns W 11 v m (some (.fz (.exn "Over" [("day", v)])))) = .ok true (envK ns W 11 v m (some (.fz (.exn "Over" [("day", v)])))) := by kernel_rfl
  have c9 : eTru (eIsC sub0 "ValueError" (eV 6)) (envK ns W 11 v m (some (.fz (.exn "Over" [("day", v)])))) = .ok true (envK ns W 11 v m (some (.fz (.exn "Over" [("day", v)])))) := by kernel_rfl
  have c10 : eBl (eBin oIs (eV 6) (eC .non)) (envK ns W 11 v m (some (.fz (.exn "Over" [("day", v)])))) = .ok false (envK ns W 11 v m (some (.fz (.exn "Over" [("day", v)])))) := by kernel_rfl
  unfold l1_law_1 l1_law_2 l1_law_3 l1_law_4
  simp only [k_ok, k_exc, kS_ok, kS_exc, kq_next, kq_ret, kq_brk, kq_cont, kq_exc, kq_retF, go_ok, go_exc, go_next, go_ret, go_brk, go_cont, go_excS, go_retF, go_some, go_v, getV_fz, go_c, go_bin, go_bin1, go_bin2, go_un, go_un1, go_tru, go_tru1, go_bl, go_bl1, go_and, go_andT, go_andF, go_or, go_orT, go_orF, go_not, go_not1, go_andV, go_orV, go_andV1, go_orV1, go_andVT, go_andVF, go_orVT, go_orVF, go_notV, go_notV1, go_notV2, go_if, go_ifT, go_ifF, go_nil, go_cons, go_cons1, go_cons2, go_chk, go_lst, go_tup, go_lst1, go_tup1, go_cal, go_cal1, go_isi, go_isi1, go_seq, go_sRet, go_ret1, go_sExpr, go_ex1, go_sIf, go_sifT, go_sifF, go_optS, go_sAsg, go_asg1, go_sSet, go_set1, go_sPar, go_par1, go_sAug, go_augV, kN_eq, kNil_eq, kCons_eq, kT_eq, rdE_eq, rdO_fz, rdO_ol, ownE_eq, owO_ol, go_binL, go_binL1, go_binL2, oSw_eq, go_binR, go_binR1, go_sPut, go_put1, go_putO, go_put2, go_putP, go_putN, go_retF1, go_fLst, go_fl1, go_sOwn, go_own1, go_call, go_call1, kFR_ok, kFR_exc, go_callIo, go_io0, go_io1, go_io2, kIo_ok, kIo_exc, go_callN, go_calln1, go_calln2, go_okF, go_excF, kRun_next, kRun_ret, kRun_exc, finF_none, finF_some, finS_ol, go_finO, go_finX, go_items, go_items_lst, go_items_tup, go_rng1, go_rng1_ok, go_rng2, go_rng2_ok, go_zip, go_zip_l, go_zip_t, go_enum, go_enum_l, go_sFor, go_for1, kLoop_next, kLoop_cont, kLoop_brk, kLoop_ret, kLoop_exc, turn_next, turn_cont, go_lc, go_lc1, kLc_ok, elem_ok, go_yes, go_sl, go_sl1, go_sl2, go_sl3, go_noP, go_p, go_p1, go_rev, go_rev1, go_chain, go_ch1, go_ch2, go_ch3T, go_ch3F, go_ch4, go_dic, go_dic1, go_prs_nil, go_prs, go_prs1, go_prs2, go_prs3, go_prs4, kW_ok, go_fcall, go_fcall1, kRunW_ok, go_okW, go_cf, go_cf1, oAdd_int, oAdd_bl, atI_0, atI_1, atI_2, atI_3, ixN_0, ixN_1, ixN_2, sz_lit, go_isC, go_isc1, go_fld, go_fld1, go_eX0, go_ex01, go_eX, go_ex1x, go_sRaise, go_rai1, go_sTry, kTry_next, kTry_ret, kHan_next, kHan_ret, List.getElem?_cons_zero, List.getElem?_cons_succ, List.set_cons_zero, List.set_cons_succ, List.nil_append, List.cons_append, List.append_nil, List.length_cons, List.length_nil, Nat.reduceSub, Nat.reduceLeDiff, Nat.zero_add, Option.bind_some, Option.map_some, reduceCtorEq, Int.reduceLT, Int.reduceLE, Int.reduceNeg, Int.reducePow, Int.reduceToNat, and_true, true_and, and_self, ite_true, ite_false, if_true, if_false, Bool.not_true, Bool.not_false, Bool.true_and, Bool.false_and, Bool.and_true, Bool.and_false, Bool.true_or, Bool.false_or, oSub, oNeg, oLt, oLe, oGt, oGe, oIs, oIsNot, Vs.isNon, oTru, oBl, oIx, oLen, oAbs, oIntC, oMax2, oMin2, oTupC, oLstC, oSl, keyD, decide_true, decide_false, plainE, fzE, gIx, List.filterMap_cons, List.filterMap_nil, wipeE, restE, List.all_cons, List.all_nil, List.getD_eq_getElem?_getD, Option.getD_some, oMod_ok, oFdiv_ok, oPow_lit, oMul_lit, oRepr_bl, oEq_str, oNe_str, oEq_int, oNe_int, oEq_bl, oNe_bl, oEq_nil, oNe_nil, oIsi_int, oIsi_bool, oIsi_listed, str_beq, envK, c1, c2, c3, c4, c5, c6, c7, c8, c9, c10, hr])
theorem body_12 (hr : oReprD [.lst [v]] = some (.str s)) : l1_law_1 (envK ns W 12 v m o6) = .next (envK ns W 12 v m (some (.fz (.exn "BadText" [("item", v)])))) := of_go (by
  have c1 : F__law_caught none [.int 12, v, m] = .ok (.exn "BadText" [("item", v)]) none := by kernel_rfl
  have c2 : F__law_kinds none [.exn "BadText" [("item", v)]] = .ok (.lst [.bl false, .bl false, .bl false, .bl false, .bl false, .bl false, .bl false, .bl false, .bl false, .bl false, .bl false, .bl false, .bl true, .bl false]) none := by kernel_rfl
  have c3 : F__law_field none [.int 12, .exn "BadText" [("item", v)]] = .ok (.lst [v]) none := by kernel_rfl
  have c5 : oReprD [.lst [.bl false, .bl false, .bl false, .bl false, .bl false, .bl false, .bl false, .bl false, .bl false, .bl false, .bl false, .bl false, .bl true, .bl false]] = some (.str (PyData.shown (.list [.bool false, .bool false, .bool false, .bool false, .bool false, .bool false, .bool false, .bool false, .bool false, .bool false, .bool false, .bool false, .bool true, .bool false]))) := by kernel_rfl
  have c6 : eLc [7] (eRng1 (eCons (eC (.int 14)) eNil)) (kN 7) eYes (eBin oEq (eV 7) (eV 2)) (envK ns W 12 v m (some (.fz (.exn "BadText" [("item", v)])))) = .ok (.lst [.bl false, .bl false, .bl false, .bl false, .bl false, .bl false, .bl false, .bl false, .bl false, .bl false, .bl false, .bl false, .bl true, .bl false]) (envK ns W 12 v m (some (.fz (.exn "BadText" [("item", v)])))) := by kernel_rfl
  have c7 : (eBin oAdd (eLst (eCons (eV 4) eNil)) (eBin oMul (eLst (eCons (eV 5) eNil)) (eCal oIntC (eCons (eBin oEq (eV 2) (eC (.int 9))) eNil)))) (envK ns W 12 v m (some (.fz (.exn "BadText" [("item", v)])))) = .ok (.lst [v]) (envK ns W 12 v m (some (.fz (.exn "BadText" [("item", v)])))) := by kernel_rfl
  have c8 : eBl (eBin (oIn false) (eV 2) (eLst (eCons (eC (.int 2)) (eCons (eC (.int 3)) (eCons (eC (.int 5)) (eCons (eC (.int 6)) (eCons (eC (.int 8)) (eCons (eC (.int 9)) (eCons (eC (.int 11)) (eCons (eC (.int 13)) eNil)))))))))) (envK ns W 12 v m (some (.fz (.exn "BadText" [("item", v)])))) = .ok false (envK ns W 12 v m (some (.fz (.exn "BadText" [("item", v)])))) := by kernel_rfl
  have c9 : eTru (eIsC sub0 "ValueError" (eV 6)) (envK ns W 12 v m (some (.fz (.exn "BadText" [("item", v)])))) = .ok true (envK ns W 12 v m (some (.fz (.exn "BadText" [("item", v)])))) := by kernel_rfl
  have c10 : eBl (eBin oIs (eV 6) (eC .non)) (envK ns W 12 v m (some (.fz (.exn "BadText" [("item", v)])))) = .ok false (envK ns W 12 v m (some (.fz (.exn "BadText" [("item", v)])))) := by kernel_rfl
  unfold l1_law_1 l1_law_2 l1_law_3 l1_law_4
  simp only [k_ok, k_exc, kS_ok, kS_exc, kq_next, kq_ret, kq_brk, kq_cont, kq_exc, kq_retF, go_ok, go_exc, go_next, go_ret, go_brk, go_cont, go_excS, go_retF, go_some, go_v, getV_fz, go_c, go_bin, go_bin1, go_bin2, go_un, go_un1, go_tru, go_tru1, go_bl, go_bl1, go_and, go_andT, go_andF, go_or, go_orT, go_orF, go_not, go_not1, go_andV, go_orV, go_andV1, go_orV1, go_andVT, go_andVF, go_orVT, go_orVF, go_notV, go_notV1, go_notV2, go_if, go_ifT, go_ifF, go_nil, go_cons, go_cons1, go_cons2, go_chk, go_lst, go_tup, go_lst1, go_tup1, go_cal, go_cal1, go_isi, go_isi1, go_seq, go_sRet, go_ret1, go_sExpr, go_ex1, go_sIf, go_sifT, go_sifF, go_optS, go_sAsg, go_asg1, go_sSet, go_set1, go_sPar, go_par1, go_sAug, go_augV, kN_eq, kNil_eq, kCons_eq, kT_eq, rdE_eq, rdO_fz, rdO_ol, ownE_eq, owO_ol, go_binL, go_binL1, go_binL2, oSw_eq, go_binR, go_binR1, go_sPut, go_put1, go_putO, go_put2, go_putP, go_putN, go_retF1, go_fLst, go_fl1, go_sOwn, go_own1, go_call, go_call1, kFR_ok, kFR_exc, go_callIo, go_io0, go_io1, go_io2, kIo_ok, kIo_exc, go_callN, go_calln1, go_calln2, go_okF, go_excF, kRun_next, kRun_ret, kRun_exc, finF_none, finF_some, finS_ol, go_finO, go_finX, go_items, go_items_lst, go_items_tup, go_rng1, go_rng1_ok, go_rng2, go_rng2_ok, go_zip, go_zip_l, go_zip_t, go_enum, go_enum_l, go_sFor, go_for1, kLoop_next, kLoop_cont, kLoop_brk, kLoop_ret, kLoop_exc, turn_next, turn_cont, go_lc, go_lc1, kLc_ok, elem_ok, go_yes, go_sl, go_sl1, go_sl2, go_sl3, go_noP, go_p, go_p1, go_rev, go_rev1, go_chain, go_ch1, go_ch2, go_ch3T, go_ch3F, go_ch4, go_dic, go_dic1, go_prs_nil, go_prs, go_prs1, go_prs2, go_prs3, go_prs4, kW_ok, go_fcall, go_fcall1, kRunW_ok, go_okW, go_cf, go_cf1, oAdd_int, oAdd_bl, atI_0, atI_1, atI_2, atI_3, ixN_0, ixN_1, ixN_2, sz_lit, go_isC, go_isc1, go_fld, go_fld1, go_eX0, go_ex01, go_eX, go_ex1x, go_sRaise, go_rai1, go_sTry, kTry_next, kTry_ret, kHan_next, kHan_ret, List.getElem?_cons_zero, List.getElem?_cons_succ, List.set_cons_zero, List.set_cons_succ, List.nil_append, List.cons_append, List.append_nil, List.length_cons, List.length_nil, Nat.reduceSub, Nat.reduceLeDiff, Nat.zero_add, Option.bind_some, Option.map_some, reduceCtorEq, Int.reduceLT, Int.reduceLE, Int.reduceNeg, Int.reducePow, Int.reduceToNat, and_true, true_and, and_self, ite_true, ite_false, if_true, if_false, Bool.not_true, Bool.not_false, Bool.true_and, Bool.false_and, Bool.and_true, Bool.and_false, Bool.true_or, Bool.false_or, oSub, oNeg, oLt, oLe, oGt, oGe, oIs, oIsNot, Vs.isNon, oTru, oBl, oIx, oLen, oAbs, oIntC, oMax2, oMin2, oTupC, oLstC, oSl, keyD, decide_true, decide_false, plainE, fzE, gIx, List.filterMap_cons, List.filterMap_nil, wipeE, restE, List.all_cons, List.all_nil, List.getD_eq_getElem?_getD, Option.getD_some, oMod_ok, oFdiv_ok, oPow_lit, oMul_lit, oRepr_bl, oEq_str, oNe_str, oEq_int, oNe_int, oEq_bl, oNe_bl, oEq_nil, oNe_nil, oIsi_int, oIsi_bool, oIsi_listed, str_beq, envK, c1, c2, c3, c5, c6, c7, c8, c9, c10, hr])
theorem body_13 (hr : oReprD [.lst [v]] = some (.str s)) : l1_law_1 (envK ns W 13 v m o6) = .next (envK ns W 13 v m (some (.fz (.exn "BadLine" [("word", v)])))) := of_go (by
  have c1 : F__law_caught none [.int 13, v, m] = .ok (.exn "BadLine" [("word", v)]) none := by kernel_rfl
  have c2 : F__law_kinds none [.exn "BadLine" [("word", v)]] = .ok (.lst [.bl false, .bl false, .bl false, .bl false, .bl false, .bl false, .bl false, .bl false, .bl false, .bl false, .bl false, .bl false, .bl false, .bl true]) none := by kernel_rfl
  have c3 : F__law_field none [.int 13, .exn "BadLine" [("word", v)]] = .ok (.lst [v]) none := by kernel_rfl
  have c4 : F__law_by_name none [.int 13, v, m] = .ok (.exn "BadLine" [("word", v)]) none := by kernel_rfl
  have c5 : oReprD [.lst [.bl false, .bl false, .bl false, .bl false, .bl false, .bl false, .bl false, .bl false, .bl false, .bl false, .bl false, .bl false, .bl false, .bl true]] = some (.str (PyData.shown (.list [.bool false, .bool false, .bool false, .bool false, .bool false, .bool false, .bool false, .bool false, .bool false, .bool false, .bool false, .bool false, .bool false, .bool true]))) := by kernel_rfl
  have c6 : eLc [7] (eRng1 (eCons (eC (.int 14)) eNil)) (kN 7) eYes (eBin oEq (eV 7) (eV 2)) (envK ns W 13 v m (some (.fz (.exn "BadLine" [("word", v)])))) = .ok (.lst [.bl false, .bl false, .bl false, .bl false, .bl false, .bl false, .bl false, .bl false, .bl false, .bl false, .bl false, .bl false, .bl false, .bl true]) (envK ns W 13 v m (some (.fz (.exn "BadLine" [("word", v)])))) := by kernel_rfl
  have c7 : (eBin oAdd (eLst (eCons (eV 4) eNil)) (eBin oMul (eLst (eCons (eV 5) eNil)) (eCal oIntC (eCons (eBin oEq (eV 2) (eC (.int 9))) eNil)))) (envK ns W 13 v m (some (.fz (.exn "BadLine" [("word", v)])))) = .ok (.lst [v]) (envK ns W 13 v m (some (.fz (.exn "BadLine" [("word", v)])))) := by kernel_rfl
  have c8 : eBl (eBin (oIn false) (eV 2) (eLst (eCons (eC (.int 2)) (eCons (eC (.int 3)) (eCons (eC (.int 5)) (eCons (eC (.int 6)) (eCons (eC (.int 8)) (eCons (eC (.int 9)) (eCons (eC (.int 11)) (eCons (eC (.int 13)) eNil)))))))))) (envK ns W 13 v m (some (.fz (.exn "BadLine" [("word", v)])))) = .ok true (envK ns W 13 v m (some (.fz (.exn "BadLine" [("word", v)])))) := by kernel_rfl
  have c9 : eTru (eIsC sub0 "ValueError" (eV 6)) (envK ns W 13 v m (some (.fz (.exn "BadLine" [("word", v)])))) = .ok true (envK ns W 13 v m (some (.fz (.exn "BadLine" [("word", v)])))) := by kernel_rfl
  have c10 : eBl (eBin oIs (eV 6) (eC .non)) (envK ns W 13 v m (some (.fz (.exn "BadLine" [("word", v)])))) = .ok false (envK ns W 13 v m (some (.fz (.exn "BadLine" [("word", v)])))) := by kernel_rfl
  unfold l1_law_1 l1_law_2 l1_law_3 l1_law_4
  simp only [k_ok, k_exc, kS_ok, kS_exc, kq_next, kq_ret, kq_brk, kq_cont, kq_exc, kq_retF, go_ok, go_exc, go_next, go_ret, go_brk, go_cont, go_excS, go_retF, go_some, go_v, getV_fz, go_c, go_bin, go_bin1, go_bin2, go_un, go_un1, go_tru, go_tru1, go_bl, go_bl1, go_and, go_andT, go_andF, go_or, go_orT, go_orF, go_not, go_not1, go_andV, go_orV, go_andV1, go_orV1, go_andVT, go_andVF, go_orVT, go_orVF, go_notV, go_notV1, go_notV2, go_if, go_ifT, go_ifF, go_nil, go_cons, go_cons1, go_cons2, go_chk, go_lst, go_tup, go_lst1, go_tup1, go_cal, go_cal1, go_isi, go_isi1, go_seq, go_sRet, go_ret1, go_sExpr, go_ex1, go_sIf, go_sifT, go_sifF, go_optS, go_sAsg, go_asg1, go_sSet, go_set1, go_sPar, go_par1, go_sAug, go_augV, kN_eq, kNil_eq, kCons_eq, kT_eq, rdE_eq, rdO_fz, rdO_ol, ownE_eq, owO_ol, go_binL, go_binL1, go_binL2, oSw_eq, go_binR, go_binR1, go_sPut, go_put1, go_putO, go_put2, go_putP, go_putN, go_retF1, go_fLst, go_fl1, go_sOwn, go_own1, go_call, go_call1, kFR_ok, kFR_exc, go_callIo, go_io0, go_io1, go_io2, kIo_ok, kIo_exc, go_callN, go_calln1, go_calln2, go_okF, go_excF, kRun_next, kRun_ret, kRun_exc, finF_none, finF_some, finS_ol, go_finO, go_finX, go_items, go_items_lst, go_items_tup, go_rng1, go_rng1_ok, go_rng2, go_rng2_ok, go_zip, go_zip_l, go_zip_t, go_enum, go_enum_l, go_sFor, go_for1, kLoop_next, kLoop_cont, kLoop_brk, kLoop_ret, kLoop_exc, turn_next, turn_cont, go_lc, go_lc1, kLc_ok, elem_ok, go_yes, go_sl, go_sl1, go_sl2, go_sl3, go_noP, go_p, go_p1, go_rev, go_rev1, go_chain, go_ch1, go_ch2, go_ch3T, go_ch3F, go_ch4, go_dic, go_dic1, go_prs_nil, go_prs, go_prs1, go_prs2, go_prs3, go_prs4, kW_ok, go_fcall, go_fcall1, kRunW_ok, go_okW, go_cf, go_cf1, oAdd_int, oAdd_bl, atI_0, atI_1, atI_2, atI_3, ixN_0, ixN_1, ixN_2, sz_lit, go_isC, go_isc1, go_fld, go_fld1, go_eX0, go_ex01, go_eX, go_ex1x, go_sRaise, go_rai1, go_sTry, kTry_next, kTry_ret, kHan_next, kHan_ret, List.getElem?_cons_zero, List.getElem?_cons_succ, List.set_cons_zero, List.set_cons_succ, List.nil_append, List.cons_append, List.append_nil, List.length_cons, List.length_nil, Nat.reduceSub, Nat.reduceLeDiff, Nat.zero_add, Option.bind_some, Option.map_some, reduceCtorEq, Int.reduceLT, Int.reduceLE, Int.reduceNeg, Int.reducePow, Int.reduceToNat, and_true, true_and, and_self, ite_true, ite_false, if_true, if_false, Bool.not_true, Bool.not_false, Bool.true_and, Bool.false_and, Bool.and_true, Bool.and_false, Bool.true_or, Bool.false_or, oSub, oNeg, oLt, oLe, oGt, oGe, oIs, oIsNot, Vs.isNon, oTru, oBl, oIx, oLen, oAbs, oIntC, oMax2, oMin2, oTupC, oLstC, oSl, keyD, decide_true, decide_false, plainE, fzE, gIx, List.filterMap_cons, List.filterMap_nil, wipeE, restE, List.all_cons, List.all_nil, List.getD_eq_getElem?_getD, Option.getD_some, oMod_ok, oFdiv_ok, oPow_lit, oMul_lit, oRepr_bl, oEq_str, oNe_str, oEq_int, oNe_int, oEq_bl, oNe_bl, oEq_nil, oNe_nil, oIsi_int, oIsi_bool, oIsi_listed, str_beq, envK, c1, c2, c3, c4, c5, c6, c7, c8, c9, c10, hr])
end
end Lk00

set_option Elab.async false
set_option linter.all false
set_option maxRecDepth 100000
set_option maxHeartbeats 4000000
namespace Lk00
open PySem PySem.Spec PyProof.Rows Vs
section
variable {ns : List Int} {W : List D} {v m : D} {o6 : Option T} {s : Str}
theorem body_all {k : Int} (hk : 0 ≤ k ∧ k < 14) {s1 s2 : Str} (e1 : oReprD [.lst [v]] = some (.str s1)) (e2 : oReprD [.lst [v, m]] = some (.str s2)) : ∃ e : D, l1_law_1 (envK ns W k v m o6) = .next (envK ns W k v m (some (.fz e))) := by
  have kk : k = 0 ∨ k = 1 ∨ k = 2 ∨ k = 3 ∨ k = 4 ∨ k = 5 ∨ k = 6 ∨ k = 7 ∨ k = 8 ∨ k = 9 ∨ k = 10 ∨ k = 11 ∨ k = 12 ∨ k = 13 := by omega
  rcases kk with h | h | h | h | h | h | h | h | h | h | h | h | h | h
  · rw [h]; exact ⟨_, body_0 e1⟩
  · rw [h]; exact ⟨_, body_1 e1⟩
  · rw [h]; exact ⟨_, body_2 e1⟩
  · rw [h]; exact ⟨_, body_3 e1⟩
  · rw [h]; exact ⟨_, body_4 e1⟩
  · rw [h]; exact ⟨_, body_5 e1⟩
  · rw [h]; exact ⟨_, body_6 e1⟩
  · rw [h]; exact ⟨_, body_7 e1⟩
  · rw [h]; exact ⟨_, body_8 e1⟩
  · rw [h]; exact ⟨_, body_9 e2⟩
  · rw [h]; exact ⟨_, body_10 e1⟩
  · rw [h]; exact ⟨_, body_11 e1⟩
  · rw [h]; exact ⟨_, body_12 e1⟩
  · rw [h]; exact ⟨_, body_13 e1⟩
end
/-- a lap keeps this -/
def Inv0 (ns : List Int) (i : Nat) (e : Vs.Env) : Prop := ∃ W' a b c d, Wl (2 * i) W' ∧ e = [some (.fz (.scr ns)), some (.ol none W'), a, none, b, c, d, none]
theorem lap {ns : List Int} {W' : List D} {b c d : Option T} {i : Nat} {k : Int} (hi : i < 14) (hk : 0 ≤ k ∧ k < 14) (hw : Wl (2 * i) W') : Go (Turn (Inv0 ns (i + 1))) (l1_law [some (.fz (.scr ns)), some (.ol none W'), some (.fz (.int k)), none, b, c, d, none]) := by
  unfold l1_law
  simp only [k_ok, k_exc, kS_ok, kS_exc, kq_next, kq_ret, kq_brk, kq_cont, kq_exc, kq_retF, go_ok, go_exc, go_next, go_ret, go_brk, go_cont, go_excS, go_retF, go_some, go_v, getV_fz, go_c, go_bin, go_bin1, go_bin2, go_un, go_un1, go_tru, go_tru1, go_bl, go_bl1, go_and, go_andT, go_andF, go_or, go_orT, go_orF, go_not, go_not1, go_andV, go_orV, go_andV1, go_orV1, go_andVT, go_andVF, go_orVT, go_orVF, go_notV, go_notV1, go_notV2, go_if, go_ifT, go_ifF, go_nil, go_cons, go_cons1, go_cons2, go_chk, go_lst, go_tup, go_lst1, go_tup1, go_cal, go_cal1, go_isi, go_isi1, go_seq, go_sRet, go_ret1, go_sExpr, go_ex1, go_sIf, go_sifT, go_sifF, go_optS, go_sAsg, go_asg1, go_sSet, go_set1, go_sPar, go_par1, go_sAug, go_augV, kN_eq, kNil_eq, kCons_eq, kT_eq, rdE_eq, rdO_fz, rdO_ol, ownE_eq, owO_ol, go_binL, go_binL1, go_binL2, oSw_eq, go_binR, go_binR1, go_sPut, go_put1, go_putO, go_put2, go_putP, go_putN, go_retF1, go_fLst, go_fl1, go_sOwn, go_own1, go_call, go_call1, kFR_ok, kFR_exc, go_callIo, go_io0, go_io1, go_io2, kIo_ok, kIo_exc, go_callN, go_calln1, go_calln2, go_okF, go_excF, kRun_next, kRun_ret, kRun_exc, finF_none, finF_some, finS_ol, go_finO, go_finX, go_items, go_items_lst, go_items_tup, go_rng1, go_rng1_ok, go_rng2, go_rng2_ok, go_zip, go_zip_l, go_zip_t, go_enum, go_enum_l, go_sFor, go_for1, kLoop_next, kLoop_cont, kLoop_brk, kLoop_ret, kLoop_exc, turn_next, turn_cont, go_lc, go_lc1, kLc_ok, elem_ok, go_yes, go_sl, go_sl1, go_sl2, go_sl3, go_noP, go_p, go_p1, go_rev, go_rev1, go_chain, go_ch1, go_ch2, go_ch3T, go_ch3F, go_ch4, go_dic, go_dic1, go_prs_nil, go_prs, go_prs1, go_prs2, go_prs3, go_prs4, kW_ok, go_fcall, go_fcall1, kRunW_ok, go_okW, go_cf, go_cf1, oAdd_int, oAdd_bl, atI_0, atI_1, atI_2, atI_3, ixN_0, ixN_1, ixN_2, sz_lit, go_isC, go_isc1, go_fld, go_fld1, go_eX0, go_ex01, go_eX, go_ex1x, go_sRaise, go_rai1, go_sTry, kTry_next, kTry_ret, kHan_next, kHan_ret, List.getElem?_cons_zero, List.getElem?_cons_succ, List.set_cons_zero, List.set_cons_succ, List.nil_append, List.cons_append, List.append_nil, List.length_cons, List.length_nil, Nat.reduceSub, Nat.reduceLeDiff, Nat.zero_add, Option.bind_some, Option.map_some, reduceCtorEq, Int.reduceLT, Int.reduceLE, Int.reduceNeg, Int.reducePow, Int.reduceToNat, and_true, true_and, and_self, ite_true, ite_false, if_true, if_false, Bool.not_true, Bool.not_false, Bool.true_and, Bool.false_and, Bool.and_true, Bool.and_false, Bool.true_or, Bool.false_or, oSub, oNeg, oLt, oLe, oGt, oGe, oIs, oIsNot, Vs.isNon, oTru, oBl, oIx, oLen, oAbs, oIntC, oMax2, oMin2, oTupC, oLstC, oSl, keyD, decide_true, decide_false, plainE, fzE, gIx, List.filterMap_cons, List.filterMap_nil, wipeE, restE, List.all_cons, List.all_nil, List.getD_eq_getElem?_getD, Option.getD_some, oMod_ok, oFdiv_ok, oPow_lit, oMul_lit, oRepr_bl, oEq_str, oNe_str, oEq_int, oNe_int, oEq_bl, oNe_bl, oEq_nil, oNe_nil, oIsi_int, oIsi_bool, oIsi_listed, str_beq]
  refine value_go hw (by omega) fun W1 v h1 hv => ?_
  simp only [k_ok, k_exc, kS_ok, kS_exc, kq_next, kq_ret, kq_brk, kq_cont, kq_exc, kq_retF, go_ok, go_exc, go_next, go_ret, go_brk, go_cont, go_excS, go_retF, go_some, go_v, getV_fz, go_c, go_bin, go_bin1, go_bin2, go_un, go_un1, go_tru, go_tru1, go_bl, go_bl1, go_and, go_andT, go_andF, go_or, go_orT, go_orF, go_not, go_not1, go_andV, go_orV, go_andV1, go_orV1, go_andVT, go_andVF, go_orVT, go_orVF, go_notV, go_notV1, go_notV2, go_if, go_ifT, go_ifF, go_nil, go_cons, go_cons1, go_cons2, go_chk, go_lst, go_tup, go_lst1, go_tup1, go_cal, go_cal1, go_isi, go_isi1, go_seq, go_sRet, go_ret1, go_sExpr, go_ex1, go_sIf, go_sifT, go_sifF, go_optS, go_sAsg, go_asg1, go_sSet, go_set1, go_sPar, go_par1, go_sAug, go_augV, kN_eq, kNil_eq, kCons_eq, kT_eq, rdE_eq, rdO_fz, rdO_ol, ownE_eq, owO_ol, go_binL, go_binL1, go_binL2, oSw_eq, go_binR, go_binR1, go_sPut, go_put1, go_putO, go_put2, go_putP, go_putN, go_retF1, go_fLst, go_fl1, go_sOwn, go_own1, go_call, go_call1, kFR_ok, kFR_exc, go_callIo, go_io0, go_io1, go_io2, kIo_ok, kIo_exc, go_callN, go_calln1, go_calln2, go_okF, go_excF, kRun_next, kRun_ret, kRun_exc, finF_none, finF_some, finS_ol, go_finO, go_finX, go_items, go_items_lst, go_items_tup, go_rng1, go_rng1_ok, go_rng2, go_rng2_ok, go_zip, go_zip_l, go_zip_t, go_enum, go_enum_l, go_sFor, go_for1, kLoop_next, kLoop_cont, kLoop_brk, kLoop_ret, kLoop_exc, turn_next, turn_cont, go_lc, go_lc1, kLc_ok, elem_ok, go_yes, go_sl, go_sl1, go_sl2, go_sl3, go_noP, go_p, go_p1, go_rev, go_rev1, go_chain, go_ch1, go_ch2, go_ch3T, go_ch3F, go_ch4, go_dic, go_dic1, go_prs_nil, go_prs, go_prs1, go_prs2, go_prs3, go_prs4, kW_ok, go_fcall, go_fcall1, kRunW_ok, go_okW, go_cf, go_cf1, oAdd_int, oAdd_bl, atI_0, atI_1, atI_2, atI_3, ixN_0, ixN_1, ixN_2, sz_lit, go_isC, go_isc1, go_fld, go_fld1, go_eX0, go_ex01, go_eX, go_ex1x, go_sRaise, go_rai1, go_sTry, kTry_next, kTry_ret, kHan_next, kHan_ret, List.getElem?_cons_zero, List.getElem?_cons_succ, List.set_cons_zero, List.set_cons_succ, List.nil_append, List.cons_append, List.append_nil, List.length_cons, List.length_nil, Nat.reduceSub, Nat.reduceLeDiff, Nat.zero_add, Option.bind_some, Option.map_some, reduceCtorEq, Int.reduceLT, Int.reduceLE, Int.reduceNeg, Int.reducePow, Int.reduceToNat, and_true, true_and, and_self, ite_true, ite_false, if_true, if_false, Bool.not_true, Bool.not_false, Bool.true_and, Bool.false_and, Bool.and_true, Bool.and_false, Bool.true_or, Bool.false_or, oSub, oNeg, oLt, oLe, oGt, oGe, oIs, oIsNot, Vs.isNon, oTru, oBl, oIx, oLen, oAbs, oIntC, oMax2, oMin2, oTupC, oLstC, oSl, keyD, decide_true, decide_false, plainE, fzE, gIx, List.filterMap_cons, List.filterMap_nil, wipeE, restE, List.all_cons, List.all_nil, List.getD_eq_getElem?_getD, Option.getD_some, oMod_ok, oFdiv_ok, oPow_lit, oMul_lit, oRepr_bl, oEq_str, oNe_str, oEq_int, oNe_int, oEq_bl, oNe_bl, oEq_nil, oNe_nil, oIsi_int, oIsi_bool, oIsi_listed, str_beq]
  refine value_go h1 (by omega) fun W2 m h2 hm => ?_
  simp only [k_ok, k_exc, kS_ok, kS_exc, kq_next, kq_ret, kq_brk, kq_cont, kq_exc, kq_retF, go_ok, go_exc, go_next, go_ret, go_brk, go_cont, go_excS, go_retF, go_some, go_v, getV_fz, go_c, go_bin, go_bin1, go_bin2, go_un, go_un1, go_tru, go_tru1, go_bl, go_bl1, go_and, go_andT, go_andF, go_or, go_orT, go_orF, go_not, go_not1, go_andV, go_orV, go_andV1, go_orV1, go_andVT, go_andVF, go_orVT, go_orVF, go_notV, go_notV1, go_notV2, go_if, go_ifT, go_ifF, go_nil, go_cons, go_cons1, go_cons2, go_chk, go_lst, go_tup, go_lst1, go_tup1, go_cal, go_cal1, go_isi, go_isi1, go_seq, go_sRet, go_ret1, go_sExpr, go_ex1, go_sIf, go_sifT, go_sifF, go_optS, go_sAsg, go_asg1, go_sSet, go_set1, go_sPar, go_par1, go_sAug, go_augV, kN_eq, kNil_eq, kCons_eq, kT_eq, rdE_eq, rdO_fz, rdO_ol, ownE_eq, owO_ol, go_binL, go_binL1, go_binL2, oSw_eq, go_binR, go_binR1, go_sPut, go_put1, go_putO, go_put2, go_putP, go_putN, go_retF1, go_fLst, go_fl1, go_sOwn, go_own1, go_call, go_call1, kFR_ok, kFR_exc, go_callIo, go_io0, go_io1, go_io2, kIo_ok, kIo_exc, go_callN, go_calln1, go_calln2, go_okF, go_excF, kRun_next, kRun_ret, kRun_exc, finF_none, finF_some, finS_ol, go_finO, go_finX, go_items, go_items_lst, go_items_tup, go_rng1, go_rng1_ok, go_rng2, go_rng2_ok, go_zip, go_zip_l, go_zip_t, go_enum, go_enum_l, go_sFor, go_for1, kLoop_next, kLoop_cont, kLoop_brk, kLoop_ret, kLoop_exc, turn_next, turn_cont, go_lc, go_lc1, kLc_ok, elem_ok, go_yes, go_sl, go_sl1, go_sl2, go_sl3, go_noP, go_p, go_p1, go_rev, go_rev1, go_chain, go_ch1, go_ch2, go_ch3T, go_ch3F, go_ch4, go_dic, go_dic1, go_prs_nil, go_prs, go_prs1, go_prs2, go_prs3, go_prs4, kW_ok, go_fcall, go_fcall1, kRunW_ok, go_okW, go_cf, go_cf1, oAdd_int, oAdd_bl, atI_0, atI_1, atI_2, atI_3, ixN_0, ixN_1, ixN_2, sz_lit, go_isC, go_isc1, go_fld, go_fld1, go_eX0, go_ex01, go_eX, go_ex1x, go_sRaise, go_rai1, go_sTry, kTry_next, kTry_ret, kHan_next, kHan_ret, List.getElem?_cons_zero, List.getElem?_cons_succ, List.set_cons_zero, List.set_cons_succ, List.nil_append, List.cons_append, List.append_nil, List.length_cons, List.length_nil, Nat.reduceSub, Nat.reduceLeDiff, Nat.zero_add, Option.bind_some, Option.map_some, reduceCtorEq, Int.reduceLT, Int.reduceLE, Int.reduceNeg, Int.reducePow, Int.reduceToNat, and_true, true_and, and_self, ite_true, ite_false, if_true, if_false, Bool.not_true, Bool.not_false, Bool.true_and, Bool.false_and, Bool.and_true, Bool.and_false, Bool.true_or, Bool.false_or, oSub, oNeg, oLt, oLe, oGt, oGe, oIs, oIsNot, Vs.isNon, oTru, oBl, oIx, oLen, oAbs, oIntC, oMax2, oMin2, oTupC, oLstC, oSl, keyD, decide_true, decide_false, plainE, fzE, gIx, List.filterMap_cons, List.filterMap_nil, wipeE, restE, List.all_cons, List.all_nil, List.getD_eq_getElem?_getD, Option.getD_some, oMod_ok, oFdiv_ok, oPow_lit, oMul_lit, oRepr_bl, oEq_str, oNe_str, oEq_int, oNe_int, oEq_bl, oNe_bl, oEq_nil, oNe_nil, oIsi_int, oIsi_bool, oIsi_listed, str_beq]
  obtain ⟨s1, e1⟩ := isS_of (shown1 v hv)
  obtain ⟨s2, e2⟩ := isS_of (shown2 v hv m hm)
  obtain ⟨e, q⟩ := body_all (ns := ns) (W := W2) (o6 := d) hk e1 e2
  have q2 : Go (Turn (Inv0 ns (i + 1))) (l1_law_1 (envK ns W2 k v m d)) := by
    rw [q]
    exact ⟨W2, _, _, _, _, h2.mono (by omega), rfl⟩
  exact q2
theorem law_true (ns : List Int) (hl : ns.length ≤ 63) : F_law none [.scr ns] = .ok (.bl true) none := of_go (by
  rw [run_law]; unfold b_law
  simp only [k_ok, k_exc, kS_ok, kS_exc, kq_next, kq_ret, kq_brk, kq_cont, kq_exc, kq_retF, go_ok, go_exc, go_next, go_ret, go_brk, go_cont, go_excS, go_retF, go_some, go_v, getV_fz, go_c, go_bin, go_bin1, go_bin2, go_un, go_un1, go_tru, go_tru1, go_bl, go_bl1, go_and, go_andT, go_andF, go_or, go_orT, go_orF, go_not, go_not1, go_andV, go_orV, go_andV1, go_orV1, go_andVT, go_andVF, go_orVT, go_orVF, go_notV, go_notV1, go_notV2, go_if, go_ifT, go_ifF, go_nil, go_cons, go_cons1, go_cons2, go_chk, go_lst, go_tup, go_lst1, go_tup1, go_cal, go_cal1, go_isi, go_isi1, go_seq, go_sRet, go_ret1, go_sExpr, go_ex1, go_sIf, go_sifT, go_sifF, go_optS, go_sAsg, go_asg1, go_sSet, go_set1, go_sPar, go_par1, go_sAug, go_augV, kN_eq, kNil_eq, kCons_eq, kT_eq, rdE_eq, rdO_fz, rdO_ol, ownE_eq, owO_ol, go_binL, go_binL1, go_binL2, oSw_eq, go_binR, go_binR1, go_sPut, go_put1, go_putO, go_put2, go_putP, go_putN, go_retF1, go_fLst, go_fl1, go_sOwn, go_own1, go_call, go_call1, kFR_ok, kFR_exc, go_callIo, go_io0, go_io1, go_io2, kIo_ok, kIo_exc, go_callN, go_calln1, go_calln2, go_okF, go_excF, kRun_next, kRun_ret, kRun_exc, finF_none, finF_some, finS_ol, go_finO, go_finX, go_items, go_items_lst, go_items_tup, go_rng1, go_rng1_ok, go_rng2, go_rng2_ok, go_zip, go_zip_l, go_zip_t, go_enum, go_enum_l, go_sFor, go_for1, kLoop_next, kLoop_cont, kLoop_brk, kLoop_ret, kLoop_exc, turn_next, turn_cont, go_lc, go_lc1, kLc_ok, elem_ok, go_yes, go_sl, go_sl1, go_sl2, go_sl3, go_noP, go_p, go_p1, go_rev, go_rev1, go_chain, go_ch1, go_ch2, go_ch3T, go_ch3F, go_ch4, go_dic, go_dic1, go_prs_nil, go_prs, go_prs1, go_prs2, go_prs3, go_prs4, kW_ok, go_fcall, go_fcall1, kRunW_ok, go_okW, go_cf, go_cf1, oAdd_int, oAdd_bl, atI_0, atI_1, atI_2, atI_3, ixN_0, ixN_1, ixN_2, sz_lit, go_isC, go_isc1, go_fld, go_fld1, go_eX0, go_ex01, go_eX, go_ex1x, go_sRaise, go_rai1, go_sTry, kTry_next, kTry_ret, kHan_next, kHan_ret, List.getElem?_cons_zero, List.getElem?_cons_succ, List.set_cons_zero, List.set_cons_succ, List.nil_append, List.cons_append, List.append_nil, List.length_cons, List.length_nil, Nat.reduceSub, Nat.reduceLeDiff, Nat.zero_add, Option.bind_some, Option.map_some, reduceCtorEq, Int.reduceLT, Int.reduceLE, Int.reduceNeg, Int.reducePow, Int.reduceToNat, and_true, true_and, and_self, ite_true, ite_false, if_true, if_false, Bool.not_true, Bool.not_false, Bool.true_and, Bool.false_and, Bool.and_true, Bool.and_false, Bool.true_or, Bool.false_or, oSub, oNeg, oLt, oLe, oGt, oGe, oIs, oIsNot, Vs.isNon, oTru, oBl, oIx, oLen, oAbs, oIntC, oMax2, oMin2, oTupC, oLstC, oSl, keyD, decide_true, decide_false, plainE, fzE, gIx, List.filterMap_cons, List.filterMap_nil, wipeE, restE, List.all_cons, List.all_nil, List.getD_eq_getElem?_getD, Option.getD_some, oMod_ok, oFdiv_ok, oPow_lit, oMul_lit, oRepr_bl, oEq_str, oNe_str, oEq_int, oNe_int, oEq_bl, oNe_bl, oEq_nil, oNe_nil, oIsi_int, oIsi_bool, oIsi_listed, str_beq]
  refine well_go (Nat.le_trans (show ns.length ≤ 1000 by omega) (by decide)) fun W h => ?_
  simp only [k_ok, k_exc, kS_ok, kS_exc, kq_next, kq_ret, kq_brk, kq_cont, kq_exc, kq_retF, go_ok, go_exc, go_next, go_ret, go_brk, go_cont, go_excS, go_retF, go_some, go_v, getV_fz, go_c, go_bin, go_bin1, go_bin2, go_un, go_un1, go_tru, go_tru1, go_bl, go_bl1, go_and, go_andT, go_andF, go_or, go_orT, go_orF, go_not, go_not1, go_andV, go_orV, go_andV1, go_orV1, go_andVT, go_andVF, go_orVT, go_orVF, go_notV, go_notV1, go_notV2, go_if, go_ifT, go_ifF, go_nil, go_cons, go_cons1, go_cons2, go_chk, go_lst, go_tup, go_lst1, go_tup1, go_cal, go_cal1, go_isi, go_isi1, go_seq, go_sRet, go_ret1, go_sExpr, go_ex1, go_sIf, go_sifT, go_sifF, go_optS, go_sAsg, go_asg1, go_sSet, go_set1, go_sPar, go_par1, go_sAug, go_augV, kN_eq, kNil_eq, kCons_eq, kT_eq, rdE_eq, rdO_fz, rdO_ol, ownE_eq, owO_ol, go_binL, go_binL1, go_binL2, oSw_eq, go_binR, go_binR1, go_sPut, go_put1, go_putO, go_put2, go_putP, go_putN, go_retF1, go_fLst, go_fl1, go_sOwn, go_own1, go_call, go_call1, kFR_ok, kFR_exc, go_callIo, go_io0, go_io1, go_io2, kIo_ok, kIo_exc, go_callN, go_calln1, go_calln2, go_okF, go_excF, kRun_next, kRun_ret, kRun_exc, finF_none, finF_some, finS_ol, go_finO, go_finX, go_items, go_items_lst, go_items_tup, go_rng1, go_rng1_ok, go_rng2, go_rng2_ok, go_zip, go_zip_l, go_zip_t, go_enum, go_enum_l, go_sFor, go_for1, kLoop_next, kLoop_cont, kLoop_brk, kLoop_ret, kLoop_exc, turn_next, turn_cont, go_lc, go_lc1, kLc_ok, elem_ok, go_yes, go_sl, go_sl1, go_sl2, go_sl3, go_noP, go_p, go_p1, go_rev, go_rev1, go_chain, go_ch1, go_ch2, go_ch3T, go_ch3F, go_ch4, go_dic, go_dic1, go_prs_nil, go_prs, go_prs1, go_prs2, go_prs3, go_prs4, kW_ok, go_fcall, go_fcall1, kRunW_ok, go_okW, go_cf, go_cf1, oAdd_int, oAdd_bl, atI_0, atI_1, atI_2, atI_3, ixN_0, ixN_1, ixN_2, sz_lit, go_isC, go_isc1, go_fld, go_fld1, go_eX0, go_ex01, go_eX, go_ex1x, go_sRaise, go_rai1, go_sTry, kTry_next, kTry_ret, kHan_next, kHan_ret, List.getElem?_cons_zero, List.getElem?_cons_succ, List.set_cons_zero, List.set_cons_succ, List.nil_append, List.cons_append, List.append_nil, List.length_cons, List.length_nil, Nat.reduceSub, Nat.reduceLeDiff, Nat.zero_add, Option.bind_some, Option.map_some, reduceCtorEq, Int.reduceLT, Int.reduceLE, Int.reduceNeg, Int.reducePow, Int.reduceToNat, and_true, true_and, and_self, ite_true, ite_false, if_true, if_false, Bool.not_true, Bool.not_false, Bool.true_and, Bool.false_and, Bool.and_true, Bool.and_false, Bool.true_or, Bool.false_or, oSub, oNeg, oLt, oLe, oGt, oGe, oIs, oIsNot, Vs.isNon, oTru, oBl, oIx, oLen, oAbs, oIntC, oMax2, oMin2, oTupC, oLstC, oSl, keyD, decide_true, decide_false, plainE, fzE, gIx, List.filterMap_cons, List.filterMap_nil, wipeE, restE, List.all_cons, List.all_nil, List.getD_eq_getElem?_getD, Option.getD_some, oMod_ok, oFdiv_ok, oPow_lit, oMul_lit, oRepr_bl, oEq_str, oNe_str, oEq_int, oNe_int, oEq_bl, oNe_bl, oEq_nil, oNe_nil, oIsi_int, oIsi_bool, oIsi_listed, str_beq, b_law_1]
  refine go_loop (Inv0 ns) _ 0 _ ?_ ⟨_, _, _, _, _, h, rfl⟩ ?_
  · rintro i y _ hi ⟨W', a, b, c, d, hw, rfl⟩
    have hi14 : i < 14 := by
      have := (List.getElem?_eq_some_iff.mp hi).1
      simpa [rngD] using this
    obtain ⟨k, hk, rfl⟩ : ∃ k : Int, (0 ≤ k ∧ k < 14) ∧ y = .int k := by
      obtain ⟨j, hj, rfl⟩ := mem_rng (List.mem_of_getElem? hi)
      exact ⟨_, by constructor <;> omega, rfl⟩
    rw [Nat.zero_add] at hw ⊢
    exact ⟨_, rfl, lap hi14 hk hw⟩
  · rintro _ ⟨W', a, b, c, d, hw, rfl⟩
    have q : b_law_2 [some (.fz (.scr ns)), some (.ol none W'), a, none, b, c, d, none] = .ret (.bl true) [some (.fz (.scr ns)), some (.ol none W'), a, some (.fz (.exn "RoundError" [])), b, c, d, none] := by kernel_rfl
    simp only [k_ok, k_exc, kS_ok, kS_exc, kq_next, kq_ret, kq_brk, kq_cont, kq_exc, kq_retF, go_ok, go_exc, go_next, go_ret, go_brk, go_cont, go_excS, go_retF, go_some, go_v, getV_fz, go_c, go_bin, go_bin1, go_bin2, go_un, go_un1, go_tru, go_tru1, go_bl, go_bl1, go_and, go_andT, go_andF, go_or, go_orT, go_orF, go_not, go_not1, go_andV, go_orV, go_andV1, go_orV1, go_andVT, go_andVF, go_orVT, go_orVF, go_notV, go_notV1, go_notV2, go_if, go_ifT, go_ifF, go_nil, go_cons, go_cons1, go_cons2, go_chk, go_lst, go_tup, go_lst1, go_tup1, go_cal, go_cal1, go_isi, go_isi1, go_seq, go_sRet, go_ret1, go_sExpr, go_ex1, go_sIf, go_sifT, go_sifF, go_optS, go_sAsg, go_asg1, go_sSet, go_set1, go_sPar, go_par1, go_sAug, go_augV, kN_eq, kNil_eq, kCons_eq, kT_eq, rdE_eq, rdO_fz, rdO_ol, ownE_eq, owO_ol, go_binL, go_binL1, go_binL2, oSw_eq, go_binR, go_binR1, go_sPut, go_put1, go_putO, go_put2, go_putP, go_putN, go_retF1, go_fLst, go_fl1, go_sOwn, go_own1, go_call, go_call1, kFR_ok, kFR_exc, go_callIo, go_io0, go_io1, go_io2, kIo_ok, kIo_exc, go_callN, go_calln1, go_calln2, go_okF, go_excF, kRun_next, kRun_ret, kRun_exc, finF_none, finF_some, finS_ol, go_finO, go_finX, go_items, go_items_lst, go_items_tup, go_rng1, go_rng1_ok, go_rng2, go_rng2_ok, go_zip, go_zip_l, go_zip_t, go_enum, go_enum_l, go_sFor, go_for1, kLoop_next, kLoop_cont, kLoop_brk, kLoop_ret, kLoop_exc, turn_next, turn_cont, go_lc, go_lc1, kLc_ok, elem_ok, go_yes, go_sl, go_sl1, go_sl2, go_sl3, go_noP, go_p, go_p1, go_rev, go_rev1, go_chain, go_ch1, go_ch2, go_ch3T, go_ch3F, go_ch4, go_dic, go_dic1, go_prs_nil, go_prs, go_prs1, go_prs2, go_prs3, go_prs4, kW_ok, go_fcall, go_fcall1, kRunW_ok, go_okW, go_cf, go_cf1, oAdd_int, oAdd_bl, atI_0, atI_1, atI_2, atI_3, ixN_0, ixN_1, ixN_2, sz_lit, go_isC, go_isc1, go_fld, go_fld1, go_eX0, go_ex01, go_eX, go_ex1x, go_sRaise, go_rai1, go_sTry, kTry_next, kTry_ret, kHan_next, kHan_ret, List.getElem?_cons_zero, List.getElem?_cons_succ, List.set_cons_zero, List.set_cons_succ, List.nil_append, List.cons_append, List.append_nil, List.length_cons, List.length_nil, Nat.reduceSub, Nat.reduceLeDiff, Nat.zero_add, Option.bind_some, Option.map_some, reduceCtorEq, Int.reduceLT, Int.reduceLE, Int.reduceNeg, Int.reducePow, Int.reduceToNat, and_true, true_and, and_self, ite_true, ite_false, if_true, if_false, Bool.not_true, Bool.not_false, Bool.true_and, Bool.false_and, Bool.and_true, Bool.and_false, Bool.true_or, Bool.false_or, oSub, oNeg, oLt, oLe, oGt, oGe, oIs, oIsNot, Vs.isNon, oTru, oBl, oIx, oLen, oAbs, oIntC, oMax2, oMin2, oTupC, oLstC, oSl, keyD, decide_true, decide_false, plainE, fzE, gIx, List.filterMap_cons, List.filterMap_nil, wipeE, restE, List.all_cons, List.all_nil, List.getD_eq_getElem?_getD, Option.getD_some, oMod_ok, oFdiv_ok, oPow_lit, oMul_lit, oRepr_bl, oEq_str, oNe_str, oEq_int, oNe_int, oEq_bl, oNe_bl, oEq_nil, oNe_nil, oIsi_int, oIsi_bool, oIsi_listed, str_beq, q])
end Lk00

open PySem PySem.W PyProof.Rows in
set_option maxRecDepth 100000 in
set_option maxHeartbeats 0 in
theorem PySem.Challenge.cw_roundsheld_k00_errors_keep_their_fields_holds : PySem.Challenge.rw_roundsheld_k00_errors_keep_their_fields.Holds := by
  w_on; o_law; k_head; (case hw => w_witness2)
  k_fill
  refine Vs.walkG (l := PySem.Challenge.rw_roundsheld_k00_errors_keep_their_fields) (n := 63) (k := 5) (x := "script") (sp := fun K => Vs.spF K (Lk00.cm0 K) 1 Lk00.F_law) rfl (by decide) rfl ⟨rfl, by decide, by decide⟩ (fun w h Y => PySem.W.kIn_of Y) ?F (fun K H a ns hl hT hS => Vs.law_sp hT rfl hS (Lk00.law_true ns hl))
  case F =>
    intro w mg fa h KX G hmg
    refine' Lk00.all_mk KX G hmg ?a0 ?l0 ?c0 ?k0 ?a1 ?l1 ?c1 ?k1 ?a2 ?l2 ?c2 ?k2 ?a3 ?l3 ?c3 ?k3 ?a4 ?l4 ?c4 ?k4 ?a5 ?l5 ?c5 ?k5 ?a6 ?l6 ?c6 ?k6 ?a7 ?l7 ?c7 ?k7 ?a8 ?l8 ?c8 ?k8 ?a9 ?l9 ?c9 ?k9 ?z_ValueError ?z_abs ?z_int ?z_isinstance ?z_len ?z_range ?z_repr ?z_super ?A0 ?K0 ?Q0 ?e0 ?A1 ?L1 ?O1 ?I1 ?M1 ?S1 ?h1_0 ?s1 ?A2 ?L2 ?O2 ?I2 ?M2 ?S2 ?h2_0 ?s2 ?A3 ?L3 ?O3 ?I3 ?M3 ?S3 ?h3_0 ?s3 ?A4 ?L4 ?O4 ?I4 ?M4 ?S4 ?h4_0 ?s4 ?A5 ?L5 ?O5 ?I5 ?M5 ?S5 ?h5_0 ?s5 ?A6 ?L6 ?O6 ?I6 ?M6 ?S6 ?h6_0 ?s6 ?A7 ?L7 ?O7 ?I7 ?M7 ?S7 ?h7_0 ?s7 ?A8 ?L8 ?O8 ?I8 ?M8 ?S8 ?h8_0 ?s8 ?A9 ?L9 ?O9 ?I9 ?M9 ?S9 ?h9_0 ?h9_1 ?s9 ?A10 ?L10 ?O10 ?I10 ?M10 ?S10 ?h10_0 ?s10 ?A11 ?L11 ?O11 ?I11 ?M11 ?S11 ?h11_0 ?s11 ?A12 ?L12 ?O12 ?I12 ?M12 ?S12 ?h12_0 ?s12 ?A13 ?L13 ?O13 ?I13 ?M13 ?S13 ?h13_0 ?s13 ?A14 ?L14 ?O14 ?I14 ?M14 ?S14 ?h14_0 ?s14 ?s_ValueError ?q_part ?q_most ?q_what ?q_paper ?q_day ?q_item ?q_word
    (case a0 => k_is)
    (case l0 => k_is)
    (case c0 => k_is)
    (case k0 => k_is)
    (case a1 => k_is)
    (case l1 => k_is)
    (case c1 => k_is)
    (case k1 => k_is)
    (case a2 => k_is)
    (case l2 => k_is)
    (case c2 => k_is)
    (case k2 => k_is)
    (case a3 => k_is)
    (case l3 => k_is)
    (case c3 => k_is)
    (case k3 => k_is)
    (case a4 => k_is)
    (case l4 => k_is)
    (case c4 => k_is)
    (case k4 => k_is)
    (case a5 => k_is)
    (case l5 => k_is)
    (case c5 => k_is)
    (case k5 => k_is)
    (case a6 => k_is)
    (case l6 => k_is)
    (case c6 => k_is)
    (case k6 => k_is)
    (case a7 => k_is)
    (case l7 => k_is)
    (case c7 => k_is)
    (case k7 => k_is)
    (case a8 => k_is)
    (case l8 => k_is)
    (case c8 => k_is)
    (case k8 => k_is)
    (case a9 => k_is)
    (case l9 => k_is)
    (case c9 => k_is)
    (case k9 => k_is)
    (case z_ValueError => k_is)
    (case z_abs => k_is)
    (case z_int => k_is)
    (case z_isinstance => k_is)
    (case z_len => k_is)
    (case z_range => k_is)
    (case z_repr => k_is)
    (case z_super => k_is)
    (case A0 => k_is)
    (case K0 => k_is)
    (case Q0 => kernel_rfl)
    (case e0 => kernel_rfl)
    (case A1 => k_is)
    (case L1 => k_is)
    (case O1 => kernel_rfl)
    (case I1 => k_is)
    (case M1 => k_is)
    (case S1 => kernel_rfl)
    (case h1_0 => k_is)
    (case s1 => kernel_rfl)
    (case A2 => k_is)
    (case L2 => k_is)
    (case O2 => kernel_rfl)
    (case I2 => k_is)
    (case M2 => k_is)
    (case S2 => kernel_rfl)
    (case h2_0 => k_is)
    (case s2 => kernel_rfl)
    (case A3 => k_is)
    (case L3 => k_is)
    (case O3 => kernel_rfl)
    (case I3 => k_is)
    (case M3 => k_is)
    (case S3 => kernel_rfl)
    (case h3_0 => k_is)
    (case s3 => kernel_rfl)
    (case A4 => k_is)
    (case L4 => k_is)
    (case O4 => kernel_rfl)
    (case I4 => k_is)
    (case M4 => k_is)
    (case S4 => kernel_rfl)
    (case h4_0 => k_is)
    (case s4 => kernel_rfl)
    (case A5 => k_is)
    (case L5 => k_is)
    (case O5 => kernel_rfl)
    (case I5 => k_is)
    (case M5 => k_is)
    (case S5 => kernel_rfl)
    (case h5_0 => k_is)
    (case s5 => kernel_rfl)
    (case A6 => k_is)
    (case L6 => k_is)
    (case O6 => kernel_rfl)
    (case I6 => k_is)
    (case M6 => k_is)
    (case S6 => kernel_rfl)
    (case h6_0 => k_is)
    (case s6 => kernel_rfl)
    (case A7 => k_is)
    (case L7 => k_is)
    (case O7 => kernel_rfl)
    (case I7 => k_is)
    (case M7 => k_is)
    (case S7 => kernel_rfl)
    (case h7_0 => k_is)
    (case s7 => kernel_rfl)
    (case A8 => k_is)
    (case L8 => k_is)
    (case O8 => kernel_rfl)
    (case I8 => k_is)
    (case M8 => k_is)
    (case S8 => kernel_rfl)
    (case h8_0 => k_is)
    (case s8 => kernel_rfl)
    (case A9 => k_is)
    (case L9 => k_is)
    (case O9 => kernel_rfl)
    (case I9 => k_is)
    (case M9 => k_is)
    (case S9 => kernel_rfl)
    (case h9_0 => k_is)
    (case h9_1 => k_is)
    (case s9 => kernel_rfl)
    (case A10 => k_is)
    (case L10 => k_is)
    (case O10 => kernel_rfl)
    (case I10 => k_is)
    (case M10 => k_is)
    (case S10 => kernel_rfl)
    (case h10_0 => k_is)
    (case s10 => kernel_rfl)
    (case A11 => k_is)
    (case L11 => k_is)
    (case O11 => kernel_rfl)
    (case I11 => k_is)
    (case M11 => k_is)
    (case S11 => kernel_rfl)
    (case h11_0 => k_is)
    (case s11 => kernel_rfl)
    (case A12 => k_is)
    (case L12 => k_is)
    (case O12 => kernel_rfl)
    (case I12 => k_is)
    (case M12 => k_is)
    (case S12 => kernel_rfl)
    (case h12_0 => k_is)
    (case s12 => kernel_rfl)
    (case A13 => k_is)
    (case L13 => k_is)
    (case O13 => kernel_rfl)
    (case I13 => k_is)
    (case M13 => k_is)
    (case S13 => kernel_rfl)
    (case h13_0 => k_is)
    (case s13 => kernel_rfl)
    (case A14 => k_is)
    (case L14 => k_is)
    (case O14 => kernel_rfl)
    (case I14 => k_is)
    (case M14 => k_is)
    (case S14 => kernel_rfl)
    (case h14_0 => k_is)
    (case s14 => kernel_rfl)
    (case s_ValueError => kernel_rfl)
    (case q_part => kernel_rfl)
    (case q_most => kernel_rfl)
    (case q_what => kernel_rfl)
    (case q_paper => kernel_rfl)
    (case q_day => kernel_rfl)
    (case q_item => kernel_rfl)
    (case q_word => kernel_rfl)
#print axioms PySem.Challenge.cw_roundsheld_k00_errors_keep_their_fields_holds
